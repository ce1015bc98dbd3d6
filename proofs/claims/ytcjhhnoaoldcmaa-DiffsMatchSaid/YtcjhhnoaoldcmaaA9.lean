/- The trees of the laws are valid.
  Conditions: none. -/
import Derived.Test.YtcjhhnoaoldcmaaA6
import Derived.Test.YtcjhhnoaoldcmaaA8
set_option linter.unusedVariables false
set_option linter.unusedSimpArgs false
namespace Go.D
open Go Go.Xe Go.Sx
theorem wrap_u8 (x:Int):u8 (IntKind.wrap .u8 x):=by
 simp only[u8,IntKind.wrap,IntKind.bits,IntKind.signed]
 simp;omega
theorem mod4 {n:Int}(h:u8 n):n.tmod 4=0\/n.tmod 4=1\/n.tmod 4=2\/n.tmod 4=3:=by
 have:=Int.tmod_eq_emod_of_nonneg (a:=n) (b:=4) h.1
 omega
theorem vcTag_ok :vcTag:=by
 unfold vcTag
 intro n hn
 have h:=mod4 hn
 simp only[Nd,tagRel,bM7,bL7]
 rcases h with h|h|h|h<;>rw[h]<;>exact⟨by omega,fun _=>⟨by omega,fun _=>⟨by omega,fun _=>by decide⟩⟩⟩
theorem ats_v {n:Int}(h:u8 n):vStr (cS kAts0 (n.tmod 4) 0)=true:=by
 rcases mod4 h with h|h|h|h<;>rw[h]<;>decide
theorem ok_ats {a:List Att}(h:(a.map Att.n).Sublist [[99,108,97,115,115],[105,100],[122,57]])(hv:∀x∈a,vStr x.v=true):OkAts a:=by
 refine⟨by simpa using h.length_le,fun x hx=>⟨?_,hv x hx⟩,List.Pairwise.sublist h (by unfold lt;decide)⟩
 have:=h.subset (List.mem_map_of_mem (f:=Att.n) hx)
 simp only[bJ2,List.not_mem_nil,or_false]at this
 rcases this with h|h|h<;>rw[h]<;>decide
theorem ok1 {n a:Str}(h:List.Sublist [n] [[99,108,97,115,115],[105,100],[122,57]])(ha:vStr a=true):∃l:List Att,Sx.chunk 2 1 [.str n,.str a]=l.map Att.row/\OkAts l:=
 ⟨[⟨n,a⟩],rfl,ok_ats h (by simp[ha])⟩
theorem ok2 {n m a b:Str}(h:List.Sublist [n,m] [[99,108,97,115,115],[105,100],[122,57]])(ha:vStr a=true)(hb:vStr b=true):∃l:List Att,Sx.chunk 2 2 [.str n,.str a,.str m,.str b]=l.map Att.row/\OkAts l:=
 ⟨[⟨n,a⟩,⟨m,b⟩],rfl,ok_ats h (by simp[ha,hb])⟩
theorem ok3 {a b c:Str}(ha:vStr a=true)(hb:vStr b=true)(hc:vStr c=true):∃l:List Att,Sx.chunk 2 3 [.str [99,108,97,115,115],.str a,.str [105,100],.str b,.str [122,57],.str c]=l.map Att.row/\OkAts l:=
 ⟨[⟨_,a⟩,⟨_,b⟩,⟨_,c⟩],rfl,ok_ats (List.Sublist.refl _) (by simp[ha,hb,hc])⟩
theorem vcAts_ok :vcAts:=by
 unfold vcAts
 intro n hn
 have nd:∀(x:Int) {q:Prop},(vStr (cS kAts0 ((IntKind.wrap .u8 x).tmod 4) 0)=true->q)->Nd (I64 (IntKind.wrap .u8 x)) (Nd (¬((((IntKind.wrap .u8 x):Int).tmod (4))<0)) (Nd ((((IntKind.wrap .u8 x):Int).tmod (4))<4) (Nd ((((IntKind.wrap .u8 x):Int).tmod (4))<4) q))):=fun x q hq=>by
  have h:=wrap_u8 x
  have h4:=mod4 h
  obtain⟨h1,h2⟩:=h
  exact⟨⟨by omega,by omega⟩,fun _=>⟨by omega,fun _=>⟨by omega,fun _=>⟨by omega,fun _=>hq (ats_v (wrap_u8 x))⟩⟩⟩⟩
 repeat' with_reducible first| (refine nd _ fun _=>?_)| (refine bI2 ?_ ?_)|intro _
 all_goals first
  |exact trivial
  |exact⟨[],rfl,ok_ats (List.nil_sublist _) (by simp)⟩
  | (refine ok1 ?_ ?_<;>first|assumption| (repeat (first|exact List.Sublist.slnil|apply List.Sublist.cons_cons|apply List.Sublist.cons)))
  | (refine ok2 ?_ ?_ ?_<;>first|assumption| (repeat (first|exact List.Sublist.slnil|apply List.Sublist.cons_cons|apply List.Sublist.cons)))
  | (refine ok3 ?_ ?_ ?_<;>assumption)
theorem mk_row (k:Int)(t y:Str)(a:List Att)(x:Str)(c:List Tree):(Tree.mk k t y a x c).row=[.int k,.str t,.str y,.lst (a.map Att.row),.str x,.lst (rows c)]:=row_def _
theorem kids_add {l:List Tree}{lv m m':Int}{c:Tree}(h:Kids l lv m)(hA:AllA c)(hl:l.length≠16)(hy:c.y=[]\/ ∀z∈l.map Tree.y,z≠c.y)(hd:lv+c.depth<=6)(hs:c.size+m<=m'):Kids (l++ [c]) lv m':=by
 obtain⟨h1,h2,h3,h4,h5⟩:=h
 refine⟨by simp;omega,(AllAs_app _ _).2 ⟨h2,hA,trivial⟩,?_,by rw[depths_app,one_d];omega,by rw[sizes_app,one_s];omega⟩
 rw[bK1]
 refine List.pairwise_append.2 ⟨h3,List.pairwise_singleton _ _,fun x hx y hy' e=>?_⟩
 simp only[bK5,List.map_nil,bL9]at hy'
 subst hy'
 rcases hy with h|h
 ·exact absurd h e
 ·exact h x hx
theorem kids_le {l:List Tree}{lv m m':Int}(h:Kids l lv m)(hm:m<=m'):Kids l lv m':=⟨h.1,h.2.1,h.2.2.1,h.2.2.2.1,by have:=h.2.2.2.2;omega⟩
theorem words_ok {v:Str}(h:vStr v=true):AllA (.mk 2 [] [] [] v []):=(AllA_iff _).2 ⟨.inl ⟨rfl,h,rfl,rfl,rfl,rfl⟩,trivial⟩
theorem elem_ok {t y:Str}{a:List Att}{c:List Tree}{lv n:Int}(ht:vName t=true)(hy:y=[]\/vName y=true)(ha:OkAts a)(hc:Kids c lv n):AllA (.mk 1 t y a [] c):=
 (AllA_iff _).2 ⟨.inr ⟨rfl,ht,hy,rfl,by have:=ha.1;show a.length<=8;omega,hc.1,ha.2.1,ha.2.2,hc.2.2.1⟩,hc.2.1⟩
theorem kids_nil {lv n:Int}(h:lv<=6)(hn:0<=n):Kids [] lv n:=⟨by simp,trivial,List.Pairwise.nil,by simp[Tree.depths];omega,by simp[Tree.sizes];omega⟩
theorem bld_v {n:Int}(h:u8 n):vStr (cS kBld0 (n.tmod 4) 0)=true:=by
 rcases mod4 h with h|h|h|h<;>rw[h]<;>decide
theorem bld_k {n:Int}(h:u8 n):vName (cS kBld1 (n.tmod 4) 0)=true:=by
 rcases mod4 h with h|h|h|h<;>rw[h]<;>decide
theorem vcBld_ok (n : Nat) : vcBld n := by
 unfold vcBld
 rintro C i0 lv ⟨⟨hC,h0,h19,h2,h5⟩,hm⟩
 simp only[bldMu]at hm
 refine⟨⟨hC,h0,by omega,h19,h2,h5,[],rfl,kids_nil (by omega) (by omega)⟩,fun _ i L hinv=>?_⟩
 obtain⟨_,_,hi0,hi,_,_,l,rfl,hk⟩:=hinv
 have hll:ln (rows l)=l.length:=by simp[ln]
 have hR:∀j,i<=j->j<=19->bldRel [.lst C,.int i0,.int lv] [.lst (rows l),.int j]:=fun j h1 h2=>⟨by omega,h2,l,rfl,kids_le hk (by omega)⟩
 have hI:∀j c M,i<j->j<=19->M=[c.row]->AllA c->l.length≠16->(c.y=[]\/ ∀z∈l.map Tree.y,z≠c.y)->lv+c.depth<=6->c.size+i<=j->blInv [.lst C,.int i0,.int lv] [.int j,.lst (rows l++M)]:=fun j c M h1 h2' e hA hl hy hd hs=>
  ⟨hC,h0,by omega,h2',h2,h5,l++ [c],by rw[e];simp[rows],kids_add hk hA hl hy hd (by omega)⟩
 have h16:=hk.1
 have hE1 : ∀ t y a L j, vName t = true → (y = [] ∨ vName y = true ∧ ∀ z ∈ l.map Tree.y, z ≠ y) → OkAts a → l.length ≠ 16 → bldRel [.lst C, .int (i + 1), .int (lv + 1)] [.lst L, .int j] →
   blInv [.lst C,.int i0,.int lv] [.int j,.lst (rows l++Sx.chunk 6 1 [.int 1,.str t,.str y,.lst (a.map Att.row),.str [],.lst L])]/\i<j:=by
  intro t y a L j ht hy ha hl ⟨q1,q2,c,q3,q4⟩
  have q5:=q4.2.2.2
  refine⟨hI j (.mk 1 t y a [] c) _ (by omega) q2 (by rw[mk_row,q3];rfl) (elem_ok ht (hy.imp id fun h=>h.1) ha q4) hl (hy.imp id fun h=>h.2) ?_ ?_,by omega⟩
  ·rw[depth_def];show lv+((Tree.depths c+1:Nat):Int)<=6;omega
  ·rw[size_def];show((Tree.sizes c+1:Nat):Int)+i<=j;omega
 have hE2 : ∀ t y a, vName t = true → (y = [] ∨ vName y = true ∧ ∀ z ∈ l.map Tree.y, z ≠ y) → OkAts a → l.length ≠ 16 → i < 19 →
   blInv [.lst C,.int i0,.int lv] [.int (i+1),.lst (rows l++Sx.chunk 6 1 [.int 1,.str t,.str y,.lst (a.map Att.row),.str [],.lst []])]:=by
  intro t y a ht hy ha hl h
  exact hI (i+1) (.mk 1 t y a [] []) _ (by omega) (by omega) (by rw[mk_row];rfl) (elem_ok ht (hy.imp id fun h=>h.1) ha (kids_nil (lv:=0) (n:=0) (by omega) (by omega))) hl (hy.imp id fun h=>h.2) (by rw[depth_def];show lv+((0+1:Nat):Int)<=6;omega) (by rw[size_def];show((0+1:Nat):Int)+i<=_;omega)
 have hW:∀v,vStr v=true->l.length≠16->i<19->blInv [.lst C,.int i0,.int lv] [.int (i+1),.lst (rows l++Sx.chunk 6 1 [.int 2,.str [],.str [],.lst [],.str v,.lst []])]:=by
  intro v hv hl h
  exact hI (i+1) (.mk 2 [] [] [] v []) _ (by omega) (by omega) (by rw[mk_row];rfl) (words_ok hv) hl (.inl rfl) (by rw[depth_def];show lv+((0+1:Nat):Int)<=6;omega) (by rw[size_def];show((0+1:Nat):Int)+i<=_;omega)
 have mu:∀j L M,i<j->i<19->blMu [.lst C,.int i0,.int lv] [.int j,.lst L]<blMu [.lst C,.int i0,.int lv] [.int i,.lst M]:=fun j L M h1 h2=>by simp only[blMu];omega
 simp only[hll]
 refine bI2 (fun hC1=>bI2 (fun hi1=>?_) fun _=>⟨by omega,fun _=>⟨rfl,fun _=>⟨hR _ (by omega) (by omega),fun _=>trivial⟩⟩⟩) fun _=>⟨by omega,fun _=>⟨rfl,fun _=>⟨hR _ (by omega) (by omega),fun _=>trivial⟩⟩⟩
 refine⟨by omega,fun _=>⟨hC1,fun _=>⟨⟨by omega,by omega⟩,fun _=>?_⟩⟩⟩
 have hw:=wrap_u8 ((cI C i 0).tdiv 8)
 have hw2:=wrap_u8 ((cI C i 0).tdiv 2)
 generalize IntKind.wrap .u8 ((cI C i 0).tdiv 8)=w at hw⊢
 generalize IntKind.wrap .u8 ((cI C i 0).tdiv 2)=w2 at hw2⊢
 have hv:=bld_v hw
 have hk4:=bld_k hw
 have h4:=mod4 hw
 generalize cS kBld0 (w.tmod 4) 0=v at hv⊢
 generalize cS kBld1 (w.tmod 4) 0=y0 at hk4⊢
 generalize w.tmod 4=w4 at h4⊢
 have hy0:y0≠ []:=fun e=>by rw[e]at hk4;cases hk4
 refine⟨fun _=>⟨by omega,fun _=>⟨rfl,fun _=>⟨hR _ (by omega) (by omega),fun _=>trivial⟩⟩⟩,fun _=>⟨fun h=>?_,fun h=>?_⟩⟩
 ·exact⟨by omega,fun _=>⟨rfl,fun _=>⟨⟨hC,h0,by omega,by omega,h2,h5,l,rfl,kids_le hk (by omega)⟩,fun _=>⟨mu _ _ _ (by omega) hi1,fun _=>trivial⟩⟩⟩⟩
 have hl:l.length≠16:=fun e=>h (by omega)
 refine⟨fun _=>?_,fun _=>⟨hw,fun _ t ht=>⟨hw2,fun _ A hA=>?_⟩⟩⟩
 ·exact⟨by omega,fun _=>⟨by omega,fun _=>⟨by omega,fun _=>⟨by omega,fun _=>⟨by omega,fun _=>⟨rfl,fun _=>⟨by omega,fun _=>⟨rfl,fun _=>⟨hW v hv hl hi1,fun _=>⟨mu _ _ _ (by omega) hi1,fun _=>trivial⟩⟩⟩⟩⟩⟩⟩⟩⟩⟩
 obtain⟨a,rfl,ha⟩:=hA
 have ht:vName t=true:=ht
 have T1:∀y,(y=[]\/vName y=true/\ ∀z∈l.map Tree.y,z≠y)->lv<5->_:=fun y hy h5'=>(⟨⟨by omega,by omega⟩,fun _=>⟨⟨⟨hC,by omega,by omega,by omega,by omega⟩,by simp only[bldMu];omega⟩,fun _ L j hr=>⟨by omega,fun _=>⟨by omega,fun _=>⟨rfl,fun _=>⟨by omega,fun _=>⟨rfl,fun _=>⟨(hE1 t y a L j ht hy ha hl hr).1,fun _=>⟨mu _ _ _ (hE1 t y a L j ht hy ha hl hr).2 hi1,fun _=>trivial⟩⟩⟩⟩⟩⟩⟩⟩⟩:Nd (I64 (lv+1)) (Nd ((bldPre [.lst C,.int (i+1),.int (lv+1)])/\bldMu [.lst C,.int (i+1),.int (lv+1)]<n) (∀(L:Sx.Rows) (j:Int),(bldRel [.lst C,.int (i+1),.int (lv+1)] [.lst L,.int j])->Ni (l.length:Int) (Nd (((l.length:Int)+1)<67108865) (Nr (l.length:Int) (Ni ((l.length:Int)+1) (Nr ((l.length:Int)+1) (Nd (blInv [.lst C,.int i0,.int lv] [.int j,.lst (rows l++(Sx.chunk 6 1 [(.int 1),(.str t),(.str y),(.lst (a.map Att.row)),(.str []),(.lst L)]))]) (Nd (blMu [.lst C,.int i0,.int lv] [.int j,.lst (rows l++(Sx.chunk 6 1 [(.int 1),(.str t),(.str y),(.lst (a.map Att.row)),(.str []),(.lst L)]))]<blMu [.lst C,.int i0,.int lv] [.int i,.lst (rows l)]) True)))))))))
 have T2:∀y,(y=[]\/vName y=true/\ ∀z∈l.map Tree.y,z≠y)->_:=fun y hy=>(⟨by omega,fun _=>⟨by omega,fun _=>⟨rfl,fun _=>⟨by omega,fun _=>⟨rfl,fun _=>⟨hE2 t y a ht hy ha hl hi1,fun _=>⟨mu _ _ _ (by omega) hi1,fun _=>trivial⟩⟩⟩⟩⟩⟩⟩:Ni (l.length:Int) (Nd (((l.length:Int)+1)<67108865) (Nr (l.length:Int) (Ni ((l.length:Int)+1) (Nr ((l.length:Int)+1) (Nd (blInv [.lst C,.int i0,.int lv] [.int (i+1),.lst (rows l++(Sx.chunk 6 1 [(.int 1),(.str t),(.str y),(.lst (a.map Att.row)),(.str []),(.lst [])]))]) (Nd (blMu [.lst C,.int i0,.int lv] [.int (i+1),.lst (rows l++(Sx.chunk 6 1 [(.int 1),(.str t),(.str y),(.lst (a.map Att.row)),(.str []),(.lst [])]))]<blMu [.lst C,.int i0,.int lv] [.int i,.lst (rows l)]) True)))))))
 refine⟨fun _=>⟨by omega,fun _=>⟨by omega,fun _=>⟨by omega,fun _=>⟨⟨by omega,by omega,rfl,rfl,rfl,rfl,rfl,.inr ⟨rfl,by simp⟩⟩,fun _ k k1 t' y a' x c hki=>?_⟩⟩⟩⟩,fun _=>⟨T1 [] (.inl rfl),fun _=>T2 [] (.inl rfl)⟩⟩
 obtain⟨k0,k2,rfl,rfl,rfl,rfl,rfl,hy⟩:=hki
 have k2:k<=(l.length:Int):=by simpa using k2
 rw[keysR_rows]at hy
 refine⟨fun hk'=>⟨by omega,fun _=>⟨by omega,fun _=>⟨by omega,fun _=>?_⟩⟩⟩,fun hk'=>?_⟩
 ·obtain⟨d,hd⟩:=Sx.get_at k0 hk'
  have hd':=map_get (f:=Tree.y) hd
  simp only[cS,cell_rows hd,t2,z5]
  have st:∀y',(y'= []\/y'=y0/\ ∀z∈(l.map Tree.y).take (k+1).toNat,z≠y0)->keyInv [.lst (rows l),.str t',.str y0,.lst (a.map Att.row)] [.int (k+1),.int 1,.str t',.str y',.lst (a.map Att.row),.str [],.lst []]:=fun y' h=>⟨by omega,by simp;omega,rfl,rfl,rfl,rfl,rfl,by rw[keysR_rows];exact h⟩
  have mk:∀y' y'',keyMu [.lst (rows l),.str t',.str y0,.lst (a.map Att.row)] [.int (k+1),.int 1,.str t',.str y',.lst (a.map Att.row),.str [],.lst []]<keyMu [.lst (rows l),.str t',.str y0,.lst (a.map Att.row)] [.int k,.int 1,.str t',.str y'',.lst (a.map Att.row),.str [],.lst []]:=fun _ _=>by simp only[keyMu,slMu,bH3];omega
  refine⟨fun e=>⟨⟨by omega,by omega⟩,fun _=>⟨st _ (.inl rfl),fun _=>⟨mk _ _,fun _=>trivial⟩⟩⟩,fun e=>⟨⟨by omega,by omega⟩,fun _=>⟨st _ (hy.imp id fun h=>⟨h.1,fun z hz=>?_⟩),fun _=>⟨mk _ _,fun _=>trivial⟩⟩⟩⟩
  rw[take_step k0 hd',bJ1,bL9]at hz
  rcases hz with hz|rfl
  ·exact h.2 z hz
  ·rw[<-h.1];exact e
 ·rw[take_full (by rw[bH3];omega)]at hy
  have hy:y=[]\/vName y=true/\ ∀z∈l.map Tree.y,z≠y:=hy.imp id fun h=>⟨by rw[h.1];exact hk4,by rw[h.1];exact h.2⟩
  exact⟨T1 y hy,fun _=>T2 y hy⟩
theorem vcTree_ok :vcTree:=by
 unfold vcTree
 rintro n y C ⟨hn,hy,hC⟩
 have fin:∀t y' a L,vName t=true->(y'= []\/vName y'=true)->OkAts a->(∃j,bldRel [.lst C,.int 0,.int 2] [.lst L,.int j])->treeRel [.int n,.int y,.lst C] [.int 1,.str t,.str y',.lst (a.map Att.row),.str [],.lst L]:=by
  rintro t y' a L ht hy' ha ⟨j,q1,q2,c,rfl,q3⟩
  refine⟨.mk 1 t y' a [] c,⟨rfl,rfl,rfl,rfl,rfl,rfl⟩,⟨elem_ok ht hy' ha q3,?_,?_⟩,rfl⟩
  ·have:=q3.2.2.2.2;rw[size_def];show Tree.sizes c+1<=64;omega
  ·have:=q3.2.2.2.1;rw[depth_def];show Tree.depths c+1<=6;omega
 refine⟨hn,fun _ t ht=>⟨hy,fun _ A hA=>?_⟩⟩
 obtain⟨a,rfl,ha⟩:=hA
 have ht:vName t=true:=ht
 refine⟨fun _=>⟨⟨hC,by omega,by omega,by omega,by omega⟩,fun _ L j hr=>⟨fin _ _ a _ ht (.inr (by decide)) ha ⟨j,hr⟩,fun _=>trivial⟩⟩,fun _=>⟨⟨hC,by omega,by omega,by omega,by omega⟩,fun _ L j hr=>⟨fin _ _ a _ ht (.inl rfl) ha ⟨j,hr⟩,fun _=>trivial⟩⟩⟩
end Go.D
