/- The trees of the laws are valid, and small.
  Conditions: none. -/
import Derived.Test.YtoegfalhkackeaaGreatGN
set_option linter.all false
namespace Go.D
open Go Go.Xe Go.Sx
def sM (x:Int):u8 (IntKind.wrap .u8 x):=by simp only[u8,IntKind.wrap,IntKind.bits,IntKind.signed];simp;omega
variable {n:Int}
def JQ (h:u8 n):n.tmod 4=0\/n.tmod 4=1\/n.tmod 4=2\/n.tmod 4=3:=by have:=Int.tmod_eq_emod_of_nonneg (a:=n) (b:=4) h.1;omega
def vcTgx_ok :vcTgx:=by unfold vcTgx;intro n hn;have h:=JQ hn;simp only[Nd,vV,UG,Ux];rcases h with h|h|h|h<;>rw[h]<;>exact⟨by omega,fun _=>⟨by omega,fun _=>⟨by omega,fun _=>by decide⟩⟩⟩
def ats_v (h:u8 n):E8 (cS bK (n.tmod 4) 0)=true:=by rcases JQ h with h|h|h|h<;>rw[h]<;>decide
def Bn {a:List Att}(h:(a.map Att.n).Sublist [[99,108,97,115,115],[105,100],[122,57]])(hv:∀x∈a,E8 x.v=true):mQ a:=by refine⟨by simpa using h.length_le,fun x hx=>⟨?_,hv x hx⟩,List.Pairwise.sublist h (by unfold lt;decide)⟩;have:=h.subset (List.mem_map_of_mem (f:=Att.n) hx);simp only[TZ,List.not_mem_nil,or_false]at this;rcases this with h|h|h<;>rw[h]<;>decide
variable {a:Str}
def ok1 {n:Str}(h:List.Sublist [n] [[99,108,97,115,115],[105,100],[122,57]])(b:E8 a=true):∃l:List Att,d8 2 1 [.str n,.str a]=l.map Att.row/\mQ l:=
 ⟨[⟨n,a⟩],rfl,Bn h (by simp[b])⟩
def ok2 {n m b:Str}(h:List.Sublist [n,m] [[99,108,97,115,115],[105,100],[122,57]])(c:E8 a=true)(hb:E8 b=true):∃l:List Att,d8 2 2 [.str n,.str a,.str m,.str b]=l.map Att.row/\mQ l:=
 ⟨[⟨n,a⟩,⟨m,b⟩],rfl,Bn h (by simp[c,hb])⟩
def ok3 {b c:Str}(d:E8 a=true)(hb:E8 b=true)(hc:E8 c=true):∃l:List Att,d8 2 3 [.str [99,108,97,115,115],.str a,.str [105,100],.str b,.str [122,57],.str c]=l.map Att.row/\mQ l:=
 ⟨[⟨_,a⟩,⟨_,b⟩,⟨_,c⟩],rfl,Bn (List.Sublist.refl _) (by simp[d,hb,hc])⟩
def vcAts_ok :vcAts:=by
 unfold vcAts;intro n hn;have b:∀(x:Int) {q:Prop},(E8 (cS bK ((IntKind.wrap .u8 x).tmod 4) 0)=true->q)->Nd (I64 (IntKind.wrap .u8 x)) (Nd (¬((((IntKind.wrap .u8 x):Int).tmod (4))<0)) (Nd ((((IntKind.wrap .u8 x):Int).tmod (4))<4) (Nd ((((IntKind.wrap .u8 x):Int).tmod (4))<4) q))):=fun x q hq=>by have h:=sM x;have h4:=JQ h;obtain⟨h1,h2⟩:=h;exact⟨⟨by omega,by omega⟩,fun _=>⟨by omega,fun _=>⟨by omega,fun _=>⟨by omega,fun _=>hq (ats_v (sM x))⟩⟩⟩⟩
 repeat' with_reducible first| (refine b _ fun _=>?_)| (refine TP ?_ ?_)|intro _
 all_goals first
  |exact trivial
  |exact⟨[],rfl,Bn (List.nil_sublist _) (by simp)⟩
  | (refine ok1 ?_ ?_<;>first|assumption| (repeat (first|exact List.Sublist.slnil|apply List.Sublist.cons_cons|apply List.Sublist.cons)))
  | (refine ok2 ?_ ?_ ?_<;>first|assumption| (repeat (first|exact List.Sublist.slnil|apply List.Sublist.cons_cons|apply List.Sublist.cons)))
  | (refine ok3 ?_ ?_ ?_<;>assumption)
def Gg (k:Int)(t y:Str)(a:List Att)(x:Str)(c:List a9):(a9.mk k t y a x c).row=[.int k,.str t,.str y,.lst (a.map Att.row),.str x,.lst (rows c)]:=Q3 _
variable {l:List a9}{lv:Int}
def Mr {m d:Int}{c:a9}(h:CB l lv m)(f:J3 c)(hl:l.length≠16)(hy:c.y=[]\/ ∀z∈l.map a9.y,z≠c.y)(g:lv+c.depth<=6)(hs:c.size+m<=d):CB (l++ [c]) lv d:=by obtain⟨h1,h2,h3,h4,h5⟩:=h;refine⟨by simp;omega,(iQ _ _).2 ⟨h2,f,trivial⟩,?_,by rw[eB,MX];omega,by rw[dM,Ik];omega⟩;rw[Ui];refine List.pairwise_append.2 ⟨h3,List.pairwise_singleton _ _,fun x hx y b e=>?_⟩;simp only[Um,List.map_nil,Uz]at b;subst b;rcases hy with h|h;exact absurd h e;exact h x hx
def HU {m b:Int}(h:CB l lv m)(hm:m<=b):CB l lv b:=⟨h.1,h.2.1,h.2.2.1,h.2.2.2.1,by have:=h.2.2.2.2;omega⟩
def Ou {v:Str}(h:E8 v=true):J3 (.mk 2 [] [] [] v []):=(B9 _).2 ⟨.inl ⟨rfl,h,rfl,rfl,rfl,rfl⟩,trivial⟩
def AO {t y:Str}{a:List Att}{c:List a9}(ht:v5 t=true)(hy:y=[]\/v5 y=true)(b:mQ a)(hc:CB c lv n):J3 (.mk 1 t y a [] c):=
 (B9 _).2 ⟨.inr ⟨rfl,ht,hy,rfl,by have:=b.1;show a.length<=8;omega,hc.1,b.2.1,b.2.2,hc.2.2.1⟩,hc.2.1⟩
def Dn (h:lv<=6)(hn:0<=n):CB [] lv n:=⟨by simp,trivial,List.Pairwise.nil,by simp[a9.depths];omega,by simp[a9.sizes];omega⟩
def bld_v (h:u8 n):E8 (cS HT (n.tmod 4) 0)=true:=by rcases JQ h with h|h|h|h<;>rw[h]<;>decide
def bld_k (h:u8 n):v5 (cS gY (n.tmod 4) 0)=true:=by rcases JQ h with h|h|h|h<;>rw[h]<;>decide
def vcBld_ok (n:Nat):vcBld n:=by
 unfold vcBld;rintro C i0 lv ⟨⟨D,h0,F,h2,h5⟩,hm⟩;simp only[mV]at hm;refine⟨⟨D,h0,by omega,F,h2,h5,[],rfl,Dn (by omega) (by omega)⟩,fun _ i L r=>?_⟩;obtain⟨_,_,X,hi,_,_,l,rfl,hk⟩:=r;have P:ln (rows l)=l.length:=by simp[ln]
 have K:∀j,i<=j->j<=19->Y3 [.lst C,.int i0,.int lv] [.lst (rows l),.int j]:=fun j h1 h2=>⟨by omega,h2,l,rfl,HU hk (by omega)⟩
 have hI:∀j c M,i<j->j<=19->M=[c.row]->J3 c->l.length≠16->(c.y=[]\/ ∀z∈l.map a9.y,z≠c.y)->lv+c.depth<=6->c.size+i<=j->aJ [.lst C,.int i0,.int lv] [.int j,.lst (rows l++M)]:=fun j c M h1 G e H hl hy E hs=>
  ⟨D,h0,by omega,G,h2,h5,l++ [c],by rw[e];simp[rows],Mr hk H hl hy E (by omega)⟩
 have U:=hk.1;have q:∀t y a L j,v5 t=true->(y=[]\/v5 y=true/\ ∀z∈l.map a9.y,z≠y)->mQ a->l.length≠16->Y3 [.lst C,.int (i+1),.int (lv+1)] [.lst L,.int j]->
   aJ [.lst C,.int i0,.int lv] [.int j,.lst (rows l++d8 6 1 [.int 1,.str t,.str y,.lst (a.map Att.row),.str [],.lst L])]/\i<j:=by
  intro t y a L j ht hy m hl ⟨q1,Z,c,q3,T⟩;have q5:=T.2.2.2;refine⟨hI j (.mk 1 t y a [] c) _ (by omega) Z (by rw[Gg,q3];rfl) (AO ht (hy.imp id fun h=>h.1) m T) hl (hy.imp id fun h=>h.2) ?_ ?_,by omega⟩;rw[V5];show lv+((a9.depths c+1:Nat):Int)<=6;omega;rw[T9];show((a9.sizes c+1:Nat):Int)+i<=j;omega
 have J:∀t y a,v5 t=true->(y=[]\/v5 y=true/\ ∀z∈l.map a9.y,z≠y)->mQ a->l.length≠16->i<19->
   aJ [.lst C,.int i0,.int lv] [.int (i+1),.lst (rows l++d8 6 1 [.int 1,.str t,.str y,.lst (a.map Att.row),.str [],.lst []])]:=by
  intro t y a ht hy m hl h;exact hI (i+1) (.mk 1 t y a [] []) _ (by omega) (by omega) (by rw[Gg];rfl) (AO ht (hy.imp id fun h=>h.1) m (Dn (lv:=0) (n:=0) (by omega) (by omega))) hl (hy.imp id fun h=>h.2) (by rw[V5];show lv+((0+1:Nat):Int)<=6;omega) (by rw[T9];show((0+1:Nat):Int)+i<=_;omega)
 have W:∀v,E8 v=true->l.length≠16->i<19->aJ [.lst C,.int i0,.int lv] [.int (i+1),.lst (rows l++d8 6 1 [.int 2,.str [],.str [],.lst [],.str v,.lst []])]:=by intro v hv hl h;exact hI (i+1) (.mk 2 [] [] [] v []) _ (by omega) (by omega) (by rw[Gg];rfl) (Ou hv) hl (.inl rfl) (by rw[V5];show lv+((0+1:Nat):Int)<=6;omega) (by rw[T9];show((0+1:Nat):Int)+i<=_;omega)
 have mu:∀j L M,i<j->i<19->cY [.lst C,.int i0,.int lv] [.int j,.lst L]<cY [.lst C,.int i0,.int lv] [.int i,.lst M]:=fun j L M h1 h2=>by simp only[cY];omega
 simp only[P];refine TP (fun I=>TP (fun b=>?_) fun _=>⟨by omega,fun _=>⟨rfl,fun _=>⟨K _ (by omega) (by omega),fun _=>trivial⟩⟩⟩) fun _=>⟨by omega,fun _=>⟨rfl,fun _=>⟨K _ (by omega) (by omega),fun _=>trivial⟩⟩⟩
 refine⟨by omega,fun _=>⟨I,fun _=>⟨⟨by omega,by omega⟩,fun _=>?_⟩⟩⟩;have u:=sM ((cI C i 0).tdiv 8);have B:=sM ((cI C i 0).tdiv 2);generalize IntKind.wrap .u8 ((cI C i 0).tdiv 8)=w at u⊢;generalize IntKind.wrap .u8 ((cI C i 0).tdiv 2)=w2 at B⊢;have hv:=bld_v u;have g:=bld_k u;have h4:=JQ u;generalize cS HT (w.tmod 4) 0=v at hv⊢;generalize cS gY (w.tmod 4) 0=p at g⊢;generalize w.tmod 4=w4 at h4⊢;have Y:p≠ []:=fun e=>by rw[e]at g;cases g
 refine⟨fun _=>⟨by omega,fun _=>⟨rfl,fun _=>⟨K _ (by omega) (by omega),fun _=>trivial⟩⟩⟩,fun _=>⟨fun h=>?_,fun h=>?_⟩⟩;exact⟨by omega,fun _=>⟨rfl,fun _=>⟨⟨D,h0,by omega,by omega,h2,h5,l,rfl,HU hk (by omega)⟩,fun _=>⟨mu _ _ _ (by omega) b,fun _=>trivial⟩⟩⟩⟩;have hl:l.length≠16:=fun e=>h (by omega);refine⟨fun _=>?_,fun _=>⟨u,fun _ t ht=>⟨B,fun _ A H=>?_⟩⟩⟩;exact⟨by omega,fun _=>⟨by omega,fun _=>⟨by omega,fun _=>⟨by omega,fun _=>⟨by omega,fun _=>⟨rfl,fun _=>⟨by omega,fun _=>⟨rfl,fun _=>⟨W v hv hl b,fun _=>⟨mu _ _ _ (by omega) b,fun _=>trivial⟩⟩⟩⟩⟩⟩⟩⟩⟩⟩;obtain⟨a,rfl,m⟩:=H;have ht:v5 t=true:=ht;have R:∀y,(y=[]\/v5 y=true/\ ∀z∈l.map a9.y,z≠y)->lv<5->_:=fun y hy V=>(⟨⟨by omega,by omega⟩,fun _=>⟨⟨⟨D,by omega,by omega,by omega,by omega⟩,by simp only[mV];omega⟩,fun _ L j hr=>⟨by omega,fun _=>⟨by omega,fun _=>⟨rfl,fun _=>⟨by omega,fun _=>⟨rfl,fun _=>⟨(q t y a L j ht hy m hl hr).1,fun _=>⟨mu _ _ _ (q t y a L j ht hy m hl hr).2 b,fun _=>trivial⟩⟩⟩⟩⟩⟩⟩⟩⟩:Nd (I64 (lv+1)) (Nd ((kY [.lst C,.int (i+1),.int (lv+1)])/\mV [.lst C,.int (i+1),.int (lv+1)]<n) (∀(L:Sx.Rows) (j:Int),(Y3 [.lst C,.int (i+1),.int (lv+1)] [.lst L,.int j])->Ni (l.length:Int) (Nd (((l.length:Int)+1)<67108865) (Nr (l.length:Int) (Ni ((l.length:Int)+1) (Nr ((l.length:Int)+1) (Nd (aJ [.lst C,.int i0,.int lv] [.int j,.lst (rows l++(d8 6 1 [(.int 1),(.str t),(.str y),(.lst (a.map Att.row)),(.str []),(.lst L)]))]) (Nd (cY [.lst C,.int i0,.int lv] [.int j,.lst (rows l++(d8 6 1 [(.int 1),(.str t),(.str y),(.lst (a.map Att.row)),(.str []),(.lst L)]))]<cY [.lst C,.int i0,.int lv] [.int i,.lst (rows l)]) True)))))))))
 have S:∀y,(y=[]\/v5 y=true/\ ∀z∈l.map a9.y,z≠y)->_:=fun y hy=>(⟨by omega,fun _=>⟨by omega,fun _=>⟨rfl,fun _=>⟨by omega,fun _=>⟨rfl,fun _=>⟨J t y a ht hy m hl b,fun _=>⟨mu _ _ _ (by omega) b,fun _=>trivial⟩⟩⟩⟩⟩⟩⟩:Ni (l.length:Int) (Nd (((l.length:Int)+1)<67108865) (Nr (l.length:Int) (Ni ((l.length:Int)+1) (Nr ((l.length:Int)+1) (Nd (aJ [.lst C,.int i0,.int lv] [.int (i+1),.lst (rows l++(d8 6 1 [(.int 1),(.str t),(.str y),(.lst (a.map Att.row)),(.str []),(.lst [])]))]) (Nd (cY [.lst C,.int i0,.int lv] [.int (i+1),.lst (rows l++(d8 6 1 [(.int 1),(.str t),(.str y),(.lst (a.map Att.row)),(.str []),(.lst [])]))]<cY [.lst C,.int i0,.int lv] [.int i,.lst (rows l)]) True)))))))
 refine⟨fun _=>⟨by omega,fun _=>⟨by omega,fun _=>⟨by omega,fun _=>⟨⟨by omega,by omega,rfl,rfl,rfl,rfl,rfl,.inr ⟨rfl,by simp⟩⟩,fun _ k k1 t' y a' x c O=>?_⟩⟩⟩⟩,fun _=>⟨R [] (.inl rfl),fun _=>S [] (.inl rfl)⟩⟩;obtain⟨k0,k2,rfl,rfl,rfl,rfl,rfl,hy⟩:=O;have k2:k<=(l.length:Int):=by simpa using k2
 rw[eI]at hy;refine⟨fun s=>⟨by omega,fun _=>⟨by omega,fun _=>⟨by omega,fun _=>?_⟩⟩⟩,fun s=>?_⟩
 ·obtain⟨d,E⟩:=Sx.get_at k0 s;have N:=J5 (f:=a9.y) E;simp only[cS,G5 E,t2,A6];have st:∀o,(o=[]\/o=p/\ ∀z∈(l.map a9.y).take (k+1).toNat,z≠p)->pF [.lst (rows l),.str t',.str p,.lst (a.map Att.row)] [.int (k+1),.int 1,.str t',.str o,.lst (a.map Att.row),.str [],.lst []]:=fun o h=>⟨by omega,by simp;omega,rfl,rfl,rfl,rfl,rfl,by rw[eI];exact h⟩
  have mk:∀o Q,tT [.lst (rows l),.str t',.str p,.lst (a.map Att.row)] [.int (k+1),.int 1,.str t',.str o,.lst (a.map Att.row),.str [],.lst []]<tT [.lst (rows l),.str t',.str p,.lst (a.map Att.row)] [.int k,.int 1,.str t',.str Q,.lst (a.map Att.row),.str [],.lst []]:=fun _ _=>by simp only[tT,J9,TG];omega
  refine⟨fun e=>⟨⟨by omega,by omega⟩,fun _=>⟨st _ (.inl rfl),fun _=>⟨mk _ _,fun _=>trivial⟩⟩⟩,fun e=>⟨⟨by omega,by omega⟩,fun _=>⟨st _ (hy.imp id fun h=>⟨h.1,fun z hz=>?_⟩),fun _=>⟨mk _ _,fun _=>trivial⟩⟩⟩⟩;rw[v7 k0 N,TY,Uz]at hz;rcases hz with hz|rfl;exact h.2 z hz;rw[<-h.1];exact e
 ·rw[B0 (by rw[TG];omega)]at hy;have hy:y=[]\/v5 y=true/\ ∀z∈l.map a9.y,z≠y:=hy.imp id fun h=>⟨by rw[h.1];exact g,by rw[h.1];exact h.2⟩
  exact⟨R y hy,fun _=>S y hy⟩
def vcTrw_ok :vcTrw:=by
 unfold vcTrw;rintro n y C ⟨hn,hy,h⟩;have b:∀t d a L,v5 t=true->(d=[]\/v5 d=true)->mQ a->(∃j,Y3 [.lst C,.int 0,.int 2] [.lst L,.int j])->qB [.int n,.int y,.lst C] [.int 1,.str t,.str d,.lst (a.map Att.row),.str [],.lst L]:=by rintro t d a L ht g e ⟨j,k,m,c,rfl,f⟩;refine⟨.mk 1 t d a [] c,⟨rfl,rfl,rfl,rfl,rfl,rfl⟩,⟨AO ht g e f,?_,?_⟩,by have:=f.2.2.2.2;rw[T9];show a9.sizes c+1<=20;omega⟩;have:=f.2.2.2.2;rw[T9];show a9.sizes c+1<=64;omega;have:=f.2.2.2.1;rw[V5];show a9.depths c+1<=6;omega
 refine⟨hn,fun _ t ht=>⟨hy,fun _ A i=>?_⟩⟩;obtain⟨a,rfl,e⟩:=i;have ht:v5 t=true:=ht;refine⟨fun _=>⟨⟨h,by omega,by omega,by omega,by omega⟩,fun _ L j hr=>⟨b _ _ a _ ht (.inr (by decide)) e ⟨j,hr⟩,fun _=>trivial⟩⟩,fun _=>⟨⟨h,by omega,by omega,by omega,by omega⟩,fun _ L j hr=>⟨b _ _ a _ ht (.inl rfl) e ⟨j,hr⟩,fun _=>trivial⟩⟩⟩
