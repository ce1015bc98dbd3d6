/- The trees of the laws are valid.
  Conditions: none. -/
import Derived.Test.YtcjhhnoaoldcmaaGreatA5
import Derived.Test.YtcjhhnoaoldcmaaGreatA8
set_option linter.all false
namespace Go.D
open Go Go.Xe Go.Sx
def lR (x:Int):u8 (IntKind.wrap .u8 x):=by simp only[u8,IntKind.wrap,IntKind.bits,IntKind.signed];simp;omega
variable {n:Int}
def Bl (h:u8 n):n.tmod 4=0\/n.tmod 4=1\/n.tmod 4=2\/n.tmod 4=3:=by have:=Int.tmod_eq_emod_of_nonneg (b:=4) h.1;omega
def vcTag_ok :vcTag:=by intro n hn;have h:=Bl hn;simp only[Nd,nO,Li,KY];refine⟨by omega,fun _=>⟨by omega,fun _=>⟨by omega,fun _=>⟨rfl,?_⟩⟩⟩⟩;rcases h with h|h|h|h<;>rw[h]<;>decide
def ats_v (h:u8 n):A9 (cS aR (n.tmod 4) 0)=true:=by rcases Bl h with h|h|h|h<;>rw[h]<;>decide
def Jo {a:List Att}(h:(a.map Att.n).Sublist [[99,108,97,115,115],[105,100],[122,57]])(c:∀x∈a,A9 x.v=true):lU a:=by refine⟨by simpa using h.length_le,fun x hx=>⟨?_,c x hx⟩,List.Pairwise.sublist h (by decide)⟩;have:=h.subset (List.mem_map_of_mem hx);simp at this;rcases this with h|h|h<;>rw[h]<;>decide
theorem qG (b:Int)(n:Str)(w:Int):((atB b n w).map Att.n).Sublist [n]:=by unfold atB;grind
variable {b:Int}
theorem atB_v {w:Int}{n:Str}:∀x∈atB b n w,A9 x.v=true:=by
 unfold atB;intro x hx;split at hx
 ·rw[La.1 hx];exact ats_v (lR w)
 ·grind
def Gp (n:Int):lU (fX n):=by
 unfold fX;refine Jo ?_ fun x hx=>?_
 ·rw[KI,KI];exact(qG _ _ _).append ((qG _ _ _).append (qG _ _ _))
 ·simp at hx;rcases hx with h|h|h<;>exact atB_v x h
def CP {w:Int}{n:Str}(h:b.tmod 2=1):atB b n w=[⟨n,cS tabA ((IntKind.wrap .u8 w).tmod 4) 0⟩]:=Ki h
def CO {w:Int}{n:Str}(h:¬b.tmod 2=1):atB b n w=[]:=Kg h
theorem vcAts_ok :vcAts:=by
 intro n hn;have ok:=Gp n;have a:∀L:Sx.Rows,L=(fX n).map Att.row->U3 [.int n] [.lst L]:=fun L h=>⟨h,ok⟩
 have nd:∀(x:Int) {q:Prop},q->Nd (I64 (IntKind.wrap .u8 x)) (Nd (¬((((IntKind.wrap .u8 x):Int).tmod (4))<0)) (Nd ((((IntKind.wrap .u8 x):Int).tmod (4))<4) (Nd ((((IntKind.wrap .u8 x):Int).tmod (4))<4) q))):=fun x q hq=>by have h:=lR x;have h4:=Bl h;obtain⟨h1,h2⟩:=h;grind
 unfold fX at a;refine⟨fun h0=>nd _ ⟨fun h1=>nd _ ⟨fun h2=>nd _ ⟨a _ ?_,fun _=>trivial⟩,fun h2=>⟨a _ ?_,fun _=>trivial⟩⟩,fun h1=>⟨fun h2=>nd _ ⟨a _ ?_,fun _=>trivial⟩,fun h2=>⟨a _ ?_,fun _=>trivial⟩⟩⟩,
  fun h0=>⟨fun h1=>nd _ ⟨fun h2=>nd _ ⟨a _ ?_,fun _=>trivial⟩,fun h2=>⟨a _ ?_,fun _=>trivial⟩⟩,fun h1=>⟨fun h2=>nd _ ⟨a _ ?_,fun _=>trivial⟩,fun h2=>⟨a _ ?_,fun _=>trivial⟩⟩⟩⟩
 all_goals
  first|rw[CP h0]|rw[CO h0]
  first|rw[CP h1]|rw[CO h1]
  first|rw[CP h2]|rw[CO h2]
  rfl
def wR (k:Int)(t y:Str)(a:List Att)(x:Str)(c:List a8):(a8.mk k t y a x c).row=[.int k,.str t,.str y,.lst (a.map Att.row),.str x,.lst (rows c)]:=H9 _
variable {l:List a8}{lv:Int}
theorem DO {m a:Int}{c:a8}(h:sQ l lv m)(d:fV c)(hl:l.length≠16)(hy:c.y=[]\/ ∀z∈l.map a8.y,z≠c.y)(hd:lv+c.depth<=6)(hs:c.size+m<=a):sQ (l++ [c]) lv a:=by obtain⟨h1,h2,h3,h4,h5⟩:=h;refine⟨by grind,(eF _ _).2 ⟨h2,d,trivial⟩,?_,by rw[bO,EB];omega,by rw[L2,pP];omega⟩;rw[KI];refine List.pairwise_append.2 ⟨h3,List.pairwise_singleton _ _,fun x hx y f e=>?_⟩;grind
def yX {m a:Int}(h:sQ l lv m)(hm:m<=a):sQ l lv a:=⟨h.1,h.2.1,h.2.2.1,h.2.2.2.1,by have:=h.2.2.2.2;omega⟩
def FG {v:Str}(h:A9 v=true):fV (.mk 2 [] [] [] v []):=(B6 _).2 ⟨.inl ⟨rfl,h,rfl,rfl,rfl,rfl⟩,trivial⟩
def qV {t y:Str}{a:List Att}{c:List a8}(ht:j8 t=true)(hy:y=[]\/j8 y=true)(ha:lU a)(hc:sQ c lv n):fV (.mk 1 t y a [] c):=
 (B6 _).2 ⟨.inr ⟨rfl,ht,hy,rfl,by have:=ha.1;show a.length<=8;omega,hc.1,ha.2.1,ha.2.2,hc.2.2.1⟩,hc.2.1⟩
def tY (h:lv<=6)(hn:0<=n):sQ [] lv n:=⟨by simp,trivial,List.Pairwise.nil,by simp[a8.depths];omega,by simp[a8.sizes];omega⟩
def bld_v (h:u8 n):A9 (cS tW (n.tmod 4) 0)=true:=by rcases Bl h with h|h|h|h<;>rw[h]<;>decide
def bld_k (h:u8 n):j8 (cS aS (n.tmod 4) 0)=true:=by rcases Bl h with h|h|h|h<;>rw[h]<;>decide
section
variable {C :Sx.Rows}{i lv:Int}{l:List a8}
def tf (h:¬(i<ln C/\i<19))(g:Nat):G0 g C i lv l=(l,i):=by
 cases g with
 |zero=>rfl|succ g=>unfold G0;rw[Kg h]
def CS (h:i<ln C/\i<19)(h0:(cI C i 0).tmod 8=0)(g:Nat):G0 (g+1) C i lv l=(l,i+1):=by unfold G0;rw[Ki h,Ki h0]
theorem AN (h:i<ln C/\i<19)(h0:¬(cI C i 0).tmod 8=0)(hl:l.length=16)(g:Nat):G0 (g+1) C i lv l=G0 g C (i+1) lv l:=by
 conv=>lhs;unfold G0
 grind
def wy (h:i<ln C/\i<19)(h0:¬(cI C i 0).tmod 8=0)(hl:¬l.length=16)(h3:(cI C i 0).tmod 8<3)(g:Nat):G0 (g+1) C i lv l=G0 g C (i+1) lv (l++ [.mk 2 [] [] [] (cS tW ((IntKind.wrap .u8 ((cI C i 0).tdiv 8)).tmod 4) 0) []]):=by
 conv=>lhs;unfold G0
 rw[Ki h,Kg h0,Kg hl,Ki h3];rfl
def AK (h:i<ln C/\i<19)(h0:¬(cI C i 0).tmod 8=0)(hl:¬l.length=16)(h3:¬(cI C i 0).tmod 8<3)(h5:lv<5)(g:Nat){j:Int}{c:List a8}(hr:G0 g C (i+1) (lv+1) []=(c,j)):G0 (g+1) C i lv l=G0 g C j lv (l++ [.mk 1 (oR (IntKind.wrap .u8 ((cI C i 0).tdiv 8))) (if(cI C i 0).tmod 8=3 then hJ l (cS aS ((IntKind.wrap .u8 ((cI C i 0).tdiv 8)).tmod 4) 0)else []) (fX (IntKind.wrap .u8 ((cI C i 0).tdiv 2))) [] c]):=by
 conv=>lhs;unfold G0
 rw[Ki h,Kg h0,Kg hl,Kg h3,Ki h5,hr];rfl
def AM (h:i<ln C/\i<19)(h0:¬(cI C i 0).tmod 8=0)(hl:¬l.length=16)(h3:¬(cI C i 0).tmod 8<3)(h5:¬lv<5)(g:Nat):G0 (g+1) C i lv l=G0 g C (i+1) lv (l++ [.mk 1 (oR (IntKind.wrap .u8 ((cI C i 0).tdiv 8))) (if(cI C i 0).tmod 8=3 then hJ l (cS aS ((IntKind.wrap .u8 ((cI C i 0).tdiv 8)).tmod 4) 0)else []) (fX (IntKind.wrap .u8 ((cI C i 0).tdiv 2))) [] []]):=by
 conv=>lhs;unfold G0
 rw[Ki h,Kg h0,Kg hl,Kg h3,Kg h5];rfl
end
def vcBld_ok (n:Nat):vcBld n:=by
 rintro C i0 lv ⟨⟨N,h0,Q,h2,h5⟩,hm⟩;simp only[gW]at hm;refine⟨⟨N,h0,by omega,Q,h2,h5,[],rfl,tY (by omega) (by omega),fun f h=>⟨f,h,rfl⟩⟩,fun _ i L F=>?_⟩;obtain⟨_,_,ae,hi,_,_,l,rfl,hk,hF⟩:=F;have ab:ln (rows l)=l.length:=by simp[ln]
 have V:∀j,i<=j->j<=19->(∀g:Nat,G0 (g+1) C i lv l=(l,j))->U4 [.lst C,.int i0,.int lv] [.lst (rows l),.int j]:=fun j h1 h2 h3=>⟨by omega,h2,l,rfl,yX hk (by omega),fun f hf=>by
  obtain⟨g,g1,P⟩:=hF f hf;obtain⟨g,rfl⟩:∃k,g=k+1:=⟨g-1,by omega⟩
  rw[P,h3]⟩
 have hS:∀j (l':List a8),i<j->(∀g:Nat,20-i<=g+1->G0 (g+1) C i lv l=G0 g C j lv l')-> ∀f:Nat,20-i0<=f-> ∃g:Nat,20-j<=g/\G0 f C i0 lv []=G0 g C j lv l':=fun j l' h1 h2 f hf=>by
  obtain⟨g,g1,P⟩:=hF f hf;obtain⟨g,rfl⟩:∃k,g=k+1:=⟨g-1,by omega⟩
  exact⟨g,by omega,P.trans (h2 g (by omega))⟩
 have U:∀j c M,i<j->j<=19->M=[c.row]->fV c->l.length≠16->(c.y=[]\/ ∀z∈l.map a8.y,z≠c.y)->lv+c.depth<=6->c.size+i<=j->(∀g:Nat,20-i<=g+1->G0 (g+1) C i lv l=G0 g C j lv (l++ [c]))->W9 [.lst C,.int i0,.int lv] [.int j,.lst (rows l++M)]:=fun j c M h1 R e S hl hy hd hs D=>
  ⟨N,h0,by omega,R,h2,h5,l++ [c],by rw[e];simp[rows],DO hk S hl hy hd (by omega),hS j _ h1 D⟩
 have ad:=hk.1;have E:∀t y a L j,j8 t=true->(y=[]\/j8 y=true/\ ∀z∈l.map a8.y,z≠y)->lU a->l.length≠16->U4 [.lst C,.int (i+1),.int (lv+1)] [.lst L,.int j]->(∀(g:Nat) c,G0 g C (i+1) (lv+1) []=(c,j)->G0 (g+1) C i lv l=G0 g C j lv (l++ [.mk 1 t y a [] c]))->
   W9 [.lst C,.int i0,.int lv] [.int j,.lst (rows l++Sx.chunk 6 1 [.int 1,.str t,.str y,.lst (a.map Att.row),.str [],.lst L])]/\i<j:=by
  intro t y a L j ht hy ha hl ⟨q1,q2,c,q3,q4,q6⟩ D;have q5:=q4.2.2.2;refine⟨U j (.mk 1 t y a [] c) _ (by omega) q2 (by rw[wR,q3];rfl) (qV ht (hy.imp id fun h=>h.1) ha q4) hl (hy.imp id fun h=>h.2) ?_ ?_ fun g h=>D g c (q6 g (by omega)),by omega⟩
  ·show lv+((a8.depths c+1:Nat):Int)<=6;omega
  ·rw[P0];show((a8.sizes c+1:Nat):Int)+i<=j;omega
 have T:∀t y a,j8 t=true->(y=[]\/j8 y=true/\ ∀z∈l.map a8.y,z≠y)->lU a->l.length≠16->i<19->(∀g:Nat,G0 (g+1) C i lv l=G0 g C (i+1) lv (l++ [.mk 1 t y a [] []]))->
   W9 [.lst C,.int i0,.int lv] [.int (i+1),.lst (rows l++Sx.chunk 6 1 [.int 1,.str t,.str y,.lst (a.map Att.row),.str [],.lst []])]:=by
  intro t y a ht hy ha hl h D;exact U (i+1) (.mk 1 t y a [] []) _ (by omega) (by omega) (by rw[wR];rfl) (qV ht (hy.imp id fun h=>h.1) ha (tY (lv:=0) (n:=0) (by omega) (by omega))) hl (hy.imp id fun h=>h.2) (by rw[aP];show lv+((0+1:Nat):Int)<=6;omega) (by rw[P0];show((0+1:Nat):Int)+i<=_;omega) fun g _=>D g
 have hW:∀v,A9 v=true->l.length≠16->i<19->(∀g:Nat,G0 (g+1) C i lv l=G0 g C (i+1) lv (l++ [.mk 2 [] [] [] v []]))->W9 [.lst C,.int i0,.int lv] [.int (i+1),.lst (rows l++Sx.chunk 6 1 [.int 2,.str [],.str [],.lst [],.str v,.lst []])]:=by intro v O hl h D;exact U (i+1) (.mk 2 [] [] [] v []) _ (by omega) (by omega) (by rw[wR];rfl) (FG O) hl (.inl rfl) (by rw[aP];show lv+((0+1:Nat):Int)<=6;omega) (by rw[P0];show((0+1:Nat):Int)+i<=_;omega) fun g _=>D g
 have mu:∀j L M,i<j->i<19->aM [.lst C,.int i0,.int lv] [.int j,.lst L]<aM [.lst C,.int i0,.int lv] [.int i,.lst M]:=fun j L M h1 h2=>by simp only[aM];omega
 have X:=fun(h:i<ln C/\i<19) h0 hl g=>AN (lv:=lv) (l:=l) h h0 hl g;have W:=fun(h:i<ln C/\i<19) h0 hl h3 g=>wy (lv:=lv) (l:=l) h h0 hl h3 g;have p:=fun(h:i<ln C/\i<19) h0 hl h3 h5 g j c hr=>AK (lv:=lv) (l:=l) h h0 hl h3 h5 g (j:=j) (c:=c) hr;have u:=fun(h:i<ln C/\i<19) h0 hl h3 h5 g=>AM (lv:=lv) (l:=l) h h0 hl h3 h5 g;have Z:=fun(h:i<ln C/\i<19) h0 g=>CS (lv:=lv) (l:=l) h h0 g;simp only[ab];refine Ko (fun s=>Ko (fun m=>?_) fun m=>⟨by omega,fun _=>⟨rfl,fun _=>⟨V _ (by omega) (by omega) fun g=>tf (fun h=>m h.2) _,fun _=>trivial⟩⟩⟩) fun s=>⟨by omega,fun _=>⟨rfl,fun _=>⟨V _ (by omega) (by omega) fun g=>tf (fun h=>s h.1) _,fun _=>trivial⟩⟩⟩
 refine⟨by omega,fun _=>⟨s,fun _=>⟨⟨by omega,by omega⟩,fun _=>?_⟩⟩⟩;have hw:=lR ((cI C i 0).tdiv 8);have I:=lR ((cI C i 0).tdiv 2);generalize IntKind.wrap .u8 ((cI C i 0).tdiv 8)=w at hw W p u⊢;generalize IntKind.wrap .u8 ((cI C i 0).tdiv 2)=w2 at I p u⊢;have O:=bld_v hw;have H:=bld_k hw;have h4:=Bl hw;generalize cS tW (w.tmod 4) 0=v at O W⊢;generalize cS aS (w.tmod 4) 0=y0 at H p u⊢;have o:i<ln C/\i<19:=⟨s,m⟩
 refine⟨fun c0=>⟨by omega,fun _=>⟨rfl,fun _=>⟨V _ (by omega) (by omega) (Z o c0),fun _=>trivial⟩⟩⟩,fun c0=>⟨fun h=>?_,fun h=>?_⟩⟩
 ·exact⟨by omega,fun _=>⟨rfl,fun _=>⟨⟨N,h0,by omega,by omega,h2,h5,l,rfl,yX hk (by omega),hS _ _ (by omega) fun g _=>X o c0 (by omega) g⟩,fun _=>⟨mu _ _ _ (by omega) m,fun _=>trivial⟩⟩⟩⟩
 have hl:l.length≠16:=fun e=>h (by omega);refine⟨fun K=>?_,fun K=>⟨hw,fun _ t ht=>⟨I,fun _ A S=>?_⟩⟩⟩
 ·exact⟨by omega,fun _=>⟨by omega,fun _=>⟨by omega,fun _=>⟨by omega,fun _=>⟨by omega,fun _=>⟨rfl,fun _=>⟨by omega,fun _=>⟨rfl,fun _=>⟨hW v O hl m (W o c0 hl K),fun _=>⟨mu _ _ _ (by omega) m,fun _=>trivial⟩⟩⟩⟩⟩⟩⟩⟩⟩⟩
 obtain⟨rfl,ha⟩:=S;obtain⟨rfl,ht⟩:=ht;have p:=fun h5 g j c hr=>p o c0 hl K h5 g j c hr;have u:=fun h5 g=>u o c0 hl K h5 g;generalize oR w=t at ht p u⊢;generalize fX w2=a at ha p u⊢;have T1:∀y,y=(if(cI C i 0).tmod 8=3 then hJ l y0 else [])->(y=[]\/j8 y=true/\ ∀z∈l.map a8.y,z≠y)->lv<5->_:=fun y B hy r=>(⟨⟨by omega,by omega⟩,fun _=>⟨⟨⟨N,by omega,by omega,by omega,by omega⟩,by simp only[gW];omega⟩,fun _ L j hr=>⟨by omega,fun _=>⟨rfl,fun _=>⟨by omega,fun _=>⟨by omega,fun _=>⟨rfl,fun _=>⟨by omega,fun _=>⟨rfl,fun _=>⟨(E t y a L j ht hy ha hl hr fun g c h=>B▸p r g j c h).1,fun _=>⟨mu _ _ _ (E t y a L j ht hy ha hl hr fun g c h=>B▸p r g j c h).2 m,fun _=>trivial⟩⟩⟩⟩⟩⟩⟩⟩⟩⟩⟩:Nd (I64 (lv+1)) (Nd ((fY [.lst C,.int (i+1),.int (lv+1)])/\gW [.lst C,.int (i+1),.int (lv+1)]<n) (∀(L:Sx.Rows) (j:Int),(U4 [.lst C,.int (i+1),.int (lv+1)] [.lst L,.int j])->Ni (ln L) (Nr (ln L) (Ni (l.length:Int) (Nd (((l.length:Int)+1)<67108865) (Nr (l.length:Int) (Ni ((l.length:Int)+1) (Nr ((l.length:Int)+1) (Nd (W9 [.lst C,.int i0,.int lv] [.int j,.lst (rows l++(Sx.chunk 6 1 [(.int 1),(.str t),(.str y),(.lst (a.map Att.row)),(.str []),(.lst L)]))]) (Nd (aM [.lst C,.int i0,.int lv] [.int j,.lst (rows l++(Sx.chunk 6 1 [(.int 1),(.str t),(.str y),(.lst (a.map Att.row)),(.str []),(.lst L)]))]<aM [.lst C,.int i0,.int lv] [.int i,.lst (rows l)]) True)))))))))))
 have T2:∀y,y=(if(cI C i 0).tmod 8=3 then hJ l y0 else [])->(y=[]\/j8 y=true/\ ∀z∈l.map a8.y,z≠y)-> ¬lv<5->_:=fun y B hy r=>(⟨by omega,fun _=>⟨by omega,fun _=>⟨rfl,fun _=>⟨by omega,fun _=>⟨rfl,fun _=>⟨T t y a ht hy ha hl m (fun g=>B▸u r g),fun _=>⟨mu _ _ _ (by omega) m,fun _=>trivial⟩⟩⟩⟩⟩⟩⟩:Ni (l.length:Int) (Nd (((l.length:Int)+1)<67108865) (Nr (l.length:Int) (Ni ((l.length:Int)+1) (Nr ((l.length:Int)+1) (Nd (W9 [.lst C,.int i0,.int lv] [.int (i+1),.lst (rows l++(Sx.chunk 6 1 [(.int 1),(.str t),(.str y),(.lst (a.map Att.row)),(.str []),(.lst [])]))]) (Nd (aM [.lst C,.int i0,.int lv] [.int (i+1),.lst (rows l++(Sx.chunk 6 1 [(.int 1),(.str t),(.str y),(.lst (a.map Att.row)),(.str []),(.lst [])]))]<aM [.lst C,.int i0,.int lv] [.int i,.lst (rows l)]) True)))))))
 refine⟨fun q=>⟨by omega,fun _=>⟨by omega,fun _=>⟨by omega,fun _=>⟨⟨by omega,by omega,rfl,rfl,rfl,rfl,rfl,by simp⟩,fun _ k k1 t' y a' x c aa=>?_⟩⟩⟩⟩,fun q=>⟨T1 [] (Kg q).symm (.inl rfl),T2 [] (Kg q).symm (.inl rfl)⟩⟩;obtain⟨k0,k2,rfl,rfl,rfl,rfl,rfl,hy⟩:=aa;rw[bW]at hy;refine⟨fun G=>⟨by omega,fun _=>⟨by omega,fun _=>⟨by omega,fun _=>?_⟩⟩⟩,fun G=>?_⟩
 ·obtain⟨d,hd⟩:=Sx.get_at k0 G;have Y:=J4 (f:=a8.y) hd;simp only[cS,K5 hd,t2,v9];have st:∀J,(J=if y0∈(l.map a8.y).take (k+1).toNat then []else y0)->jf [.lst (rows l),.str t',.str y0,.lst (a.map Att.row)] [.int (k+1),.int 1,.str t',.str J,.lst (a.map Att.row),.str [],.lst []]:=fun J h=>⟨by omega,by simp;omega,rfl,rfl,rfl,rfl,rfl,by rw[bW];exact h⟩
  have mk:∀J ac,mE [.lst (rows l),.str t',.str y0,.lst (a.map Att.row)] [.int (k+1),.int 1,.str t',.str J,.lst (a.map Att.row),.str [],.lst []]<mE [.lst (rows l),.str t',.str y0,.lst (a.map Att.row)] [.int k,.int 1,.str t',.str ac,.lst (a.map Att.row),.str [],.lst []]:=fun _ _=>by simp only[mE,N0,Kf];omega
  rw[s8 k0 Y]at st;refine⟨fun e=>⟨⟨by omega,by omega⟩,fun _=>⟨st _ ?_,fun _=>⟨mk _ _,fun _=>trivial⟩⟩⟩,fun e=>⟨⟨by omega,by omega⟩,fun _=>⟨st _ ?_,fun _=>⟨mk _ _,fun _=>trivial⟩⟩⟩⟩
  ·by_cases hm:y0∈(l.map a8.y).take k.toNat
   ·rw[Ki (LG _ hm)]
   ·rw[Kg hm]at hy;rw[Ki (Lv _ (by rw[e,hy];simp))]
  ·by_cases hm:y0∈(l.map a8.y).take k.toNat
   ·rw[Ki (LG _ hm)];rwa[Ki hm]at hy
   ·rw[Kg hm]at hy;rw[Kg (fun h=>(Kx.1 h).elim hm fun h=>e (by rw[hy];exact(La.1 h).symm))];exact hy
 ·rw[E0 (by rw[Kf];omega)]at hy;have B:y=if(cI C i 0).tmod 8=3 then hJ l y0 else []:=by rw[Ki q,hy];rfl
  have hy:y=[]\/j8 y=true/\ ∀z∈l.map a8.y,z≠y:=by
   by_cases hm:y0∈l.map a8.y
   ·left;rw[hy,Ki hm]
   ·right;rw[hy,Kg hm];exact⟨H,fun z hz e=>hm (e▸hz)⟩
  exact⟨T1 y B hy,T2 y B hy⟩
theorem vcTree_ok :vcTree:=by
 rintro n y C ⟨hn,hy,k⟩;have d:∀a L j,j8 (oR n)=true->(a=[]\/j8 a=true)->lU (fX y)->a=(if y.tmod 3=1 then [114,111,111,116]else [])->U4 [.lst C,.int 0,.int 2] [.lst L,.int j]->fi [.int n,.int y,.lst C] [.int 1,.str (oR n),.str a,.lst ((fX y).map Att.row),.str [],.lst L]:=by
  rintro a L j ht f ha o ⟨q1,q2,c,rfl,g,p⟩;have e:ofN n y C= .mk 1 (oR n) a (fX y) [] c:=by unfold ofN;grind
  refine⟨by rw[e];exact⟨rfl,rfl,rfl,rfl,rfl,rfl⟩,by rw[e];exact qV ht f ha g,?_,?_⟩
  ·have:=g.2.2.2.2;rw[e,P0];show a8.sizes c+1<=64;omega
  ·have:=g.2.2.2.1;rw[e,aP];show a8.depths c+1<=6;omega
 refine⟨hn,fun _ t ht=>⟨hy,fun _ A m=>?_⟩⟩;obtain⟨rfl,ha⟩:=m;obtain⟨rfl,ht⟩:=ht;refine⟨fun h=>⟨⟨k,by omega,by omega,by omega,by omega⟩,fun _ L j hr=>⟨by omega,fun _=>⟨rfl,fun _=>⟨d _ _ j ht (.inr rfl) ha (Ki h).symm hr,fun _=>trivial⟩⟩⟩⟩,fun h=>⟨⟨k,by omega,by omega,by omega,by omega⟩,fun _ L j hr=>(by grind)⟩⟩
end Go.D
