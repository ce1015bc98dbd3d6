/- The trees of the laws are valid.
  Conditions: none. -/
import Derived.Test.YtcjhhnoaoldcmaaA5
import Derived.Test.YtcjhhnoaoldcmaaA8
set_option linter.unusedVariables false
set_option linter.unusedSimpArgs false
namespace Go.D
open Go Go.Xe Go.Sx
theorem wrap_u8 (x:Int):u8 (IntKind.wrap .u8 x):=by
 simp only[u8,IntKind.wrap,IntKind.bits,IntKind.signed]
 simp;omega
variable {n:Int}
theorem mod4 (h:u8 n):n.tmod 4=0\/n.tmod 4=1\/n.tmod 4=2\/n.tmod 4=3:=by
 have:=Int.tmod_eq_emod_of_nonneg (a:=n) (b:=4) h.1
 omega
theorem vcTag_ok :vcTag:=by
 unfold vcTag
 intro n hn
 have h:=mod4 hn
 simp only[Nd,tagRel,bH2,bG3]
 refine⟨by omega,fun _=>⟨by omega,fun _=>⟨by omega,fun _=>⟨rfl,?_⟩⟩⟩⟩
 rcases h with h|h|h|h<;>rw[h]<;>decide
theorem ats_v (h:u8 n):vStr (cS kAts0 (n.tmod 4) 0)=true:=by
 rcases mod4 h with h|h|h|h<;>rw[h]<;>decide
variable {a:List Att}
theorem ok_ats (h:(a.map Att.n).Sublist [[99,108,97,115,115],[105,100],[122,57]])(c:∀x∈a,vStr x.v=true):OkAts a:=by
 refine⟨by simpa using h.length_le,fun x hx=>⟨?_,c x hx⟩,List.Pairwise.sublist h (by unfold lt;decide)⟩
 have:=h.subset (List.mem_map_of_mem (f:=Att.n) hx)
 simp only[bD9,List.not_mem_nil,or_false]at this
 rcases this with h|h|h<;>rw[h]<;>decide
theorem atB_sub (b:Int)(n:Str)(w:Int):((atB b n w).map Att.n).Sublist [n]:=by
 unfold atB
 split
 ·exact List.Sublist.refl _
 ·exact List.nil_sublist _
variable {b w:Int}
theorem atB_v {n:Str}:∀x∈atB b n w,vStr x.v=true:=by
 unfold atB
 intro x hx
 split at hx
 ·rw[bG5.1 hx];exact ats_v (wrap_u8 w)
 ·cases hx
theorem atsF_ok (n:Int):OkAts (atsF n):=by
 unfold atsF
 refine ok_ats ?_ fun x hx=>?_
 ·rw[bE8,bE8]
  exact(atB_sub _ _ _).append ((atB_sub _ _ _).append (atB_sub _ _ _))
 ·simp only[bD8]at hx
  rcases hx with h|h|h<;>exact atB_v x h
theorem atB_y {n:Str}(h:b.tmod 2=1):atB b n w=[⟨n,cS tabA ((IntKind.wrap .u8 w).tmod 4) 0⟩]:=bC3 h
theorem atB_n {n:Str}(h:¬b.tmod 2=1):atB b n w=[]:=bC1 h
theorem vcAts_ok :vcAts:=by
 unfold vcAts
 intro n hn
 have ok:=atsF_ok n
 have c:∀L:Sx.Rows,L=(atsF n).map Att.row->atsRel [.int n] [.lst L]:=fun L h=>⟨h,ok⟩
 have nd:∀(x:Int) {q:Prop},q->Nd (I64 (IntKind.wrap .u8 x)) (Nd (¬((((IntKind.wrap .u8 x):Int).tmod (4))<0)) (Nd ((((IntKind.wrap .u8 x):Int).tmod (4))<4) (Nd ((((IntKind.wrap .u8 x):Int).tmod (4))<4) q))):=fun x q hq=>by
  have h:=wrap_u8 x
  have h4:=mod4 h
  obtain⟨h1,h2⟩:=h
  exact⟨⟨by omega,by omega⟩,fun _=>⟨by omega,fun _=>⟨by omega,fun _=>⟨by omega,fun _=>hq⟩⟩⟩⟩
 unfold atsF at c
 refine⟨fun h0=>nd _ ⟨fun h1=>nd _ ⟨fun h2=>nd _ ⟨c _ ?_,fun _=>trivial⟩,fun h2=>⟨c _ ?_,fun _=>trivial⟩⟩,fun h1=>⟨fun h2=>nd _ ⟨c _ ?_,fun _=>trivial⟩,fun h2=>⟨c _ ?_,fun _=>trivial⟩⟩⟩,
  fun h0=>⟨fun h1=>nd _ ⟨fun h2=>nd _ ⟨c _ ?_,fun _=>trivial⟩,fun h2=>⟨c _ ?_,fun _=>trivial⟩⟩,fun h1=>⟨fun h2=>nd _ ⟨c _ ?_,fun _=>trivial⟩,fun h2=>⟨c _ ?_,fun _=>trivial⟩⟩⟩⟩
 all_goals
  first|rw[atB_y h0]|rw[atB_n h0]
  first|rw[atB_y h1]|rw[atB_n h1]
  first|rw[atB_y h2]|rw[atB_n h2]
  rfl
theorem mk_row (k:Int)(t y:Str)(a:List Att)(x:Str)(c:List Tree):(Tree.mk k t y a x c).row=[.int k,.str t,.str y,.lst (a.map Att.row),.str x,.lst (rows c)]:=row_def _
variable {l:List Tree}{lv:Int}
theorem kids_add {m f:Int}{c:Tree}(h:Kids l lv m)(g:AllA c)(hl:l.length≠16)(hy:c.y=[]\/ ∀z∈l.map Tree.y,z≠c.y)(hd:lv+c.depth<=6)(hs:c.size+m<=f):Kids (l++ [c]) lv f:=by
 obtain⟨h1,h2,h3,h4,h5⟩:=h
 refine⟨by simp;omega,(AllAs_app _ _).2 ⟨h2,g,trivial⟩,?_,by rw[depths_app,one_d];omega,by rw[sizes_app,one_s];omega⟩
 rw[bE8]
 refine List.pairwise_append.2 ⟨h3,List.pairwise_singleton _ _,fun x hx y d e=>?_⟩
 simp only[bF2,List.map_nil,bG5]at d
 subst d
 rcases hy with h|h
 ·exact absurd h e
 ·exact h x hx
theorem kids_le {m c:Int}(h:Kids l lv m)(hm:m<=c):Kids l lv c:=⟨h.1,h.2.1,h.2.2.1,h.2.2.2.1,by have:=h.2.2.2.2;omega⟩
theorem words_ok {v:Str}(h:vStr v=true):AllA (.mk 2 [] [] [] v []):=(AllA_iff _).2 ⟨.inl ⟨rfl,h,rfl,rfl,rfl,rfl⟩,trivial⟩
theorem elem_ok {t y:Str}{c:List Tree}(ht:vName t=true)(hy:y=[]\/vName y=true)(d:OkAts a)(hc:Kids c lv n):AllA (.mk 1 t y a [] c):=
 (AllA_iff _).2 ⟨.inr ⟨rfl,ht,hy,rfl,by have:=d.1;show a.length<=8;omega,hc.1,d.2.1,d.2.2,hc.2.2.1⟩,hc.2.1⟩
theorem kids_nil (h:lv<=6)(hn:0<=n):Kids [] lv n:=⟨by simp,trivial,List.Pairwise.nil,by simp[Tree.depths];omega,by simp[Tree.sizes];omega⟩
theorem bld_v (h:u8 n):vStr (cS kBld1 (n.tmod 4) 0)=true:=by
 rcases mod4 h with h|h|h|h<;>rw[h]<;>decide
theorem bld_k (h:u8 n):vName (cS kBld0 (n.tmod 4) 0)=true:=by
 rcases mod4 h with h|h|h|h<;>rw[h]<;>decide
section
variable {C :Sx.Rows}{i lv:Int}{l:List Tree}
theorem bldF_out (h:¬(i<ln C/\i<19))(g:Nat):bldF g C i lv l=(l,i):=by
 cases g with
 |zero=>rfl
 |succ g=>unfold bldF;rw[bC1 h]
theorem bldF_end (h:i<ln C/\i<19)(h0:(cI C i 0).tmod 8=0)(g:Nat):bldF (g+1) C i lv l=(l,i+1):=by
 unfold bldF;rw[bC3 h,bC3 h0]
theorem bldF_skip (h:i<ln C/\i<19)(h0:¬(cI C i 0).tmod 8=0)(hl:l.length=16)(g:Nat):bldF (g+1) C i lv l=bldF g C (i+1) lv l:=by
 conv=>lhs;unfold bldF
 rw[bC3 h,bC1 h0,bC3 hl]
theorem bldF_words (h:i<ln C/\i<19)(h0:¬(cI C i 0).tmod 8=0)(hl:¬l.length=16)(h3:(cI C i 0).tmod 8<3)(g:Nat):bldF (g+1) C i lv l=bldF g C (i+1) lv (l++ [.mk 2 [] [] [] (cS kBld1 ((IntKind.wrap .u8 ((cI C i 0).tdiv 8)).tmod 4) 0) []]):=by
 conv=>lhs;unfold bldF
 rw[bC3 h,bC1 h0,bC1 hl,bC3 h3];rfl
theorem bldF_elem (h : i < ln C ∧ i < 19) (h0 : ¬ (cI C i 0).tmod 8 = 0) (hl : ¬ l.length = 16) (h3 : ¬ (cI C i 0).tmod 8 < 3) (h5 : lv < 5) (g : Nat) {j : Int} {c : List Tree} (hr : bldF g C (i + 1) (lv + 1) [] = (c, j)) :
  bldF (g+1) C i lv l=bldF g C j lv (l++ [.mk 1 (tagF (IntKind.wrap .u8 ((cI C i 0).tdiv 8))) (if(cI C i 0).tmod 8=3 then aj3 l (cS kBld0 ((IntKind.wrap .u8 ((cI C i 0).tdiv 8)).tmod 4) 0)else []) (atsF (IntKind.wrap .u8 ((cI C i 0).tdiv 2))) [] c]):=by
 conv=>lhs;unfold bldF
 rw[bC3 h,bC1 h0,bC1 hl,bC1 h3,bC3 h5,hr];rfl
theorem bldF_leaf (h : i < ln C ∧ i < 19) (h0 : ¬ (cI C i 0).tmod 8 = 0) (hl : ¬ l.length = 16) (h3 : ¬ (cI C i 0).tmod 8 < 3) (h5 : ¬ lv < 5) (g : Nat) :
  bldF (g+1) C i lv l=bldF g C (i+1) lv (l++ [.mk 1 (tagF (IntKind.wrap .u8 ((cI C i 0).tdiv 8))) (if(cI C i 0).tmod 8=3 then aj3 l (cS kBld0 ((IntKind.wrap .u8 ((cI C i 0).tdiv 8)).tmod 4) 0)else []) (atsF (IntKind.wrap .u8 ((cI C i 0).tdiv 2))) [] []]):=by
 conv=>lhs;unfold bldF
 rw[bC3 h,bC1 h0,bC1 hl,bC1 h3,bC1 h5];rfl
end
theorem vcBld_ok (n : Nat) : vcBld n := by
 unfold vcBld
 rintro C i0 lv ⟨⟨Q,h0,T,h2,h5⟩,hm⟩
 simp only[bldMu]at hm
 refine⟨⟨Q,h0,by omega,T,h2,h5,[],rfl,kids_nil (by omega) (by omega),fun f h=>⟨f,h,rfl⟩⟩,fun _ i L I=>?_⟩
 obtain⟨_,_,ah,hi,_,_,l,rfl,hk,hF⟩:=I
 have ac:ln (rows l)=l.length:=by simp[ln]
 have hR:∀j,i<=j->j<=19->(∀g:Nat,bldF (g+1) C i lv l=(l,j))->bldRel [.lst C,.int i0,.int lv] [.lst (rows l),.int j]:=fun j h1 h2 h3=>⟨by omega,h2,l,rfl,kids_le hk (by omega),fun f hf=>by
  obtain⟨g,g1,S⟩:=hF f hf
  obtain⟨g,rfl⟩:∃k,g=k+1:=⟨g-1,by omega⟩
  rw[S,h3]⟩
 have hS:∀j (l':List Tree),i<j->(∀g:Nat,20-i<=g+1->bldF (g+1) C i lv l=bldF g C j lv l')-> ∀f:Nat,20-i0<=f-> ∃g:Nat,20-j<=g/\bldF f C i0 lv []=bldF g C j lv l':=fun j l' h1 h2 f hf=>by
  obtain⟨g,g1,S⟩:=hF f hf
  obtain⟨g,rfl⟩:∃k,g=k+1:=⟨g-1,by omega⟩
  exact⟨g,by omega,S.trans (h2 g (by omega))⟩
 have hI:∀j c M,i<j->j<=19->M=[c.row]->AllA c->l.length≠16->(c.y=[]\/ ∀z∈l.map Tree.y,z≠c.y)->lv+c.depth<=6->c.size+i<=j->(∀g:Nat,20-i<=g+1->bldF (g+1) C i lv l=bldF g C j lv (l++ [c]))->blInv [.lst C,.int i0,.int lv] [.int j,.lst (rows l++M)]:=fun j c M h1 U e V hl hy hd hs G=>
  ⟨Q,h0,by omega,U,h2,h5,l++ [c],by rw[e];simp[rows],kids_add hk V hl hy hd (by omega),hS j _ h1 G⟩
 have ae:=hk.1
 have   H : ∀ t y a L j, vName t = true → (y = [] ∨ vName y = true ∧ ∀ z ∈ l.map Tree.y, z ≠ y) → OkAts a → l.length ≠ 16 → bldRel [.lst C, .int (i + 1), .int (lv + 1)] [.lst L, .int j] → (∀ (g : Nat) c, bldF g C (i + 1) (lv + 1) [] = (c, j) → bldF (g + 1) C i lv l = bldF g C j lv (l ++ [.mk 1 t y a [] c])) →
   blInv [.lst C,.int i0,.int lv] [.int j,.lst (rows l++Sx.chunk 6 1 [.int 1,.str t,.str y,.lst (a.map Att.row),.str [],.lst L])]/\i<j:=by
  intro t y a L j ht hy E hl ⟨q1,q2,c,q3,q4,q6⟩ G
  have q5:=q4.2.2.2
  refine⟨hI j (.mk 1 t y a [] c) _ (by omega) q2 (by rw[mk_row,q3];rfl) (elem_ok ht (hy.imp id fun h=>h.1) E q4) hl (hy.imp id fun h=>h.2) ?_ ?_ fun g h=>G g c (q6 g (by omega)),by omega⟩
  ·rw[depth_def];show lv+((Tree.depths c+1:Nat):Int)<=6;omega
  ·rw[size_def];show((Tree.sizes c+1:Nat):Int)+i<=j;omega
 have   Y : ∀ t y a, vName t = true → (y = [] ∨ vName y = true ∧ ∀ z ∈ l.map Tree.y, z ≠ y) → OkAts a → l.length ≠ 16 → i < 19 → (∀ g : Nat, bldF (g + 1) C i lv l = bldF g C (i + 1) lv (l ++ [.mk 1 t y a [] []])) →
   blInv [.lst C,.int i0,.int lv] [.int (i+1),.lst (rows l++Sx.chunk 6 1 [.int 1,.str t,.str y,.lst (a.map Att.row),.str [],.lst []])]:=by
  intro t y a ht hy E hl h G
  exact hI (i+1) (.mk 1 t y a [] []) _ (by omega) (by omega) (by rw[mk_row];rfl) (elem_ok ht (hy.imp id fun h=>h.1) E (kids_nil (lv:=0) (n:=0) (by omega) (by omega))) hl (hy.imp id fun h=>h.2) (by rw[depth_def];show lv+((0+1:Nat):Int)<=6;omega) (by rw[size_def];show((0+1:Nat):Int)+i<=_;omega) fun g _=>G g
 have hW:∀v,vStr v=true->l.length≠16->i<19->(∀g:Nat,bldF (g+1) C i lv l=bldF g C (i+1) lv (l++ [.mk 2 [] [] [] v []]))->blInv [.lst C,.int i0,.int lv] [.int (i+1),.lst (rows l++Sx.chunk 6 1 [.int 2,.str [],.str [],.lst [],.str v,.lst []])]:=by
  intro v R hl h G
  exact hI (i+1) (.mk 2 [] [] [] v []) _ (by omega) (by omega) (by rw[mk_row];rfl) (words_ok R) hl (.inl rfl) (by rw[depth_def];show lv+((0+1:Nat):Int)<=6;omega) (by rw[size_def];show((0+1:Nat):Int)+i<=_;omega) fun g _=>G g
 have mu:∀j L M,i<j->i<19->blMu [.lst C,.int i0,.int lv] [.int j,.lst L]<blMu [.lst C,.int i0,.int lv] [.int i,.lst M]:=fun j L M h1 h2=>by simp only[blMu];omega
 have X:=fun(h:i<ln C/\i<19) h0 hl g=>bldF_skip (lv:=lv) (l:=l) h h0 hl g
 have W:=fun(h:i<ln C/\i<19) h0 hl h3 g=>bldF_words (lv:=lv) (l:=l) h h0 hl h3 g
 have q:=fun(h:i<ln C/\i<19) h0 hl h3 h5 g j c hr=>bldF_elem (lv:=lv) (l:=l) h h0 hl h3 h5 g (j:=j) (c:=c) hr
 have D:=fun(h:i<ln C/\i<19) h0 hl h3 h5 g=>bldF_leaf (lv:=lv) (l:=l) h h0 hl h3 h5 g
 have Z:=fun(h:i<ln C/\i<19) h0 g=>bldF_end (lv:=lv) (l:=l) h h0 g
 simp only[ac]
 refine bC9 (fun u=>bC9 (fun m=>?_) fun m=>⟨by omega,fun _=>⟨rfl,fun _=>⟨hR _ (by omega) (by omega) fun g=>bldF_out (fun h=>m h.2) _,fun _=>trivial⟩⟩⟩) fun u=>⟨by omega,fun _=>⟨rfl,fun _=>⟨hR _ (by omega) (by omega) fun g=>bldF_out (fun h=>u h.1) _,fun _=>trivial⟩⟩⟩
 refine⟨by omega,fun _=>⟨u,fun _=>⟨⟨by omega,by omega⟩,fun _=>?_⟩⟩⟩
 have K:=wrap_u8 ((cI C i 0).tdiv 8)
 have N:=wrap_u8 ((cI C i 0).tdiv 2)
 generalize IntKind.wrap .u8 ((cI C i 0).tdiv 8)=w at K W q D⊢
 generalize IntKind.wrap .u8 ((cI C i 0).tdiv 2)=w2 at N q D⊢
 have R:=bld_v K
 have B:=bld_k K
 have h4:=mod4 K
 generalize cS kBld1 (w.tmod 4) 0=v at R W⊢
 generalize cS kBld0 (w.tmod 4) 0=o at B q D⊢
 generalize w.tmod 4=w4 at h4⊢
 have p:i<ln C/\i<19:=⟨u,m⟩
 have ai:o≠ []:=fun e=>by rw[e]at B;cases B
 refine⟨fun c0=>⟨by omega,fun _=>⟨rfl,fun _=>⟨hR _ (by omega) (by omega) (Z p c0),fun _=>trivial⟩⟩⟩,fun c0=>⟨fun h=>?_,fun h=>?_⟩⟩
 ·exact⟨by omega,fun _=>⟨rfl,fun _=>⟨⟨Q,h0,by omega,by omega,h2,h5,l,rfl,kids_le hk (by omega),hS _ _ (by omega) fun g _=>X p c0 (by omega) g⟩,fun _=>⟨mu _ _ _ (by omega) m,fun _=>trivial⟩⟩⟩⟩
 have hl:l.length≠16:=fun e=>h (by omega)
 refine⟨fun P=>?_,fun P=>⟨K,fun _ t ht=>⟨N,fun _ A V=>?_⟩⟩⟩
 ·exact⟨by omega,fun _=>⟨by omega,fun _=>⟨by omega,fun _=>⟨by omega,fun _=>⟨by omega,fun _=>⟨rfl,fun _=>⟨by omega,fun _=>⟨rfl,fun _=>⟨hW v R hl m (W p c0 hl P),fun _=>⟨mu _ _ _ (by omega) m,fun _=>trivial⟩⟩⟩⟩⟩⟩⟩⟩⟩⟩
 obtain⟨rfl,E⟩:=V
 obtain⟨rfl,ht⟩:=ht
 have q:=fun h5 g j c hr=>q p c0 hl P h5 g j c hr
 have D:=fun h5 g=>D p c0 hl P h5 g
 generalize tagF w=t at ht q D⊢
 generalize atsF w2=a at E q D⊢
 have T1:∀y,y=(if(cI C i 0).tmod 8=3 then aj3 l o else [])->(y=[]\/vName y=true/\ ∀z∈l.map Tree.y,z≠y)->lv<5->_:=fun y F hy s=>(⟨⟨by omega,by omega⟩,fun _=>⟨⟨⟨Q,by omega,by omega,by omega,by omega⟩,by simp only[bldMu];omega⟩,fun _ L j hr=>⟨by omega,fun _=>⟨rfl,fun _=>⟨by omega,fun _=>⟨by omega,fun _=>⟨rfl,fun _=>⟨by omega,fun _=>⟨rfl,fun _=>⟨(H t y a L j ht hy E hl hr fun g c h=>F▸q s g j c h).1,fun _=>⟨mu _ _ _ (H t y a L j ht hy E hl hr fun g c h=>F▸q s g j c h).2 m,fun _=>trivial⟩⟩⟩⟩⟩⟩⟩⟩⟩⟩⟩:Nd (I64 (lv+1)) (Nd ((bldPre [.lst C,.int (i+1),.int (lv+1)])/\bldMu [.lst C,.int (i+1),.int (lv+1)]<n) (∀(L:Sx.Rows) (j:Int),(bldRel [.lst C,.int (i+1),.int (lv+1)] [.lst L,.int j])->Ni (ln L) (Nr (ln L) (Ni (l.length:Int) (Nd (((l.length:Int)+1)<67108865) (Nr (l.length:Int) (Ni ((l.length:Int)+1) (Nr ((l.length:Int)+1) (Nd (blInv [.lst C,.int i0,.int lv] [.int j,.lst (rows l++(Sx.chunk 6 1 [(.int 1),(.str t),(.str y),(.lst (a.map Att.row)),(.str []),(.lst L)]))]) (Nd (blMu [.lst C,.int i0,.int lv] [.int j,.lst (rows l++(Sx.chunk 6 1 [(.int 1),(.str t),(.str y),(.lst (a.map Att.row)),(.str []),(.lst L)]))]<blMu [.lst C,.int i0,.int lv] [.int i,.lst (rows l)]) True)))))))))))
 have T2:∀y,y=(if(cI C i 0).tmod 8=3 then aj3 l o else [])->(y=[]\/vName y=true/\ ∀z∈l.map Tree.y,z≠y)-> ¬lv<5->_:=fun y F hy s=>(⟨by omega,fun _=>⟨by omega,fun _=>⟨rfl,fun _=>⟨by omega,fun _=>⟨rfl,fun _=>⟨Y t y a ht hy E hl m (fun g=>F▸D s g),fun _=>⟨mu _ _ _ (by omega) m,fun _=>trivial⟩⟩⟩⟩⟩⟩⟩:Ni (l.length:Int) (Nd (((l.length:Int)+1)<67108865) (Nr (l.length:Int) (Ni ((l.length:Int)+1) (Nr ((l.length:Int)+1) (Nd (blInv [.lst C,.int i0,.int lv] [.int (i+1),.lst (rows l++(Sx.chunk 6 1 [(.int 1),(.str t),(.str y),(.lst (a.map Att.row)),(.str []),(.lst [])]))]) (Nd (blMu [.lst C,.int i0,.int lv] [.int (i+1),.lst (rows l++(Sx.chunk 6 1 [(.int 1),(.str t),(.str y),(.lst (a.map Att.row)),(.str []),(.lst [])]))]<blMu [.lst C,.int i0,.int lv] [.int i,.lst (rows l)]) True)))))))
 refine⟨fun r=>⟨by omega,fun _=>⟨by omega,fun _=>⟨by omega,fun _=>⟨⟨by omega,by omega,rfl,rfl,rfl,rfl,rfl,by simp⟩,fun _ k k1 t' y a' x c ab=>?_⟩⟩⟩⟩,fun r=>⟨T1 [] (bC1 r).symm (.inl rfl),T2 [] (bC1 r).symm (.inl rfl)⟩⟩
 obtain⟨k0,k2,rfl,rfl,rfl,rfl,rfl,hy⟩:=ab
 have k2:k<=(l.length:Int):=by simpa using k2
 rw[keysR_rows]at hy
 refine⟨fun J=>⟨by omega,fun _=>⟨by omega,fun _=>⟨by omega,fun _=>?_⟩⟩⟩,fun J=>?_⟩
 ·obtain⟨d,hd⟩:=Sx.get_at k0 J
  have aa:=map_get (f:=Tree.y) hd
  simp only[cS,cell_rows hd,t2,i5]
  have st:∀O,(O=if o∈(l.map Tree.y).take (k+1).toNat then []else o)->keyInv [.lst (rows l),.str t',.str o,.lst (a.map Att.row)] [.int (k+1),.int 1,.str t',.str O,.lst (a.map Att.row),.str [],.lst []]:=fun O h=>⟨by omega,by simp;omega,rfl,rfl,rfl,rfl,rfl,by rw[keysR_rows];exact h⟩
  have mk:∀O ad,keyMu [.lst (rows l),.str t',.str o,.lst (a.map Att.row)] [.int (k+1),.int 1,.str t',.str O,.lst (a.map Att.row),.str [],.lst []]<keyMu [.lst (rows l),.str t',.str o,.lst (a.map Att.row)] [.int k,.int 1,.str t',.str ad,.lst (a.map Att.row),.str [],.lst []]:=fun _ _=>by simp only[keyMu,slMu,bC0];omega
  rw[take_step k0 aa]at st
  refine⟨fun e=>⟨⟨by omega,by omega⟩,fun _=>⟨st _ ?_,fun _=>⟨mk _ _,fun _=>trivial⟩⟩⟩,fun e=>⟨⟨by omega,by omega⟩,fun _=>⟨st _ ?_,fun _=>⟨mk _ _,fun _=>trivial⟩⟩⟩⟩
  ·by_cases hm:o∈(l.map Tree.y).take k.toNat
   ·rw[bC3 (bJ0 _ hm)]
   ·rw[bC1 hm]at hy
    rw[bC3 (bI3 _ (by rw[e,hy];simp))]
  ·by_cases hm:o∈(l.map Tree.y).take k.toNat
   ·rw[bC3 (bJ0 _ hm)]
    rwa[bC3 hm]at hy
   ·rw[bC1 hm]at hy
    rw[bC1 (fun h=>(bD8.1 h).elim hm fun h=>e (by rw[hy];exact(bG5.1 h).symm))]
    exact hy
 ·rw[take_full (by rw[bC0];omega)]at hy
  have F:y=if(cI C i 0).tmod 8=3 then aj3 l o else []:=by rw[bC3 r,hy];rfl
  have hy:y=[]\/vName y=true/\ ∀z∈l.map Tree.y,z≠y:=by
   by_cases hm:o∈l.map Tree.y
   ·left;rw[hy,bC3 hm]
   ·right;rw[hy,bC1 hm];exact⟨B,fun z hz e=>hm (e▸hz)⟩
  exact⟨T1 y F hy,T2 y F hy⟩
theorem vcTree_ok :vcTree:=by
 unfold vcTree
 rintro n y C ⟨hn,hy,o⟩
 have f:∀d L j,vName (tagF n)=true->(d=[]\/vName d=true)->OkAts (atsF y)->d=(if y.tmod 3=1 then [114,111,111,116]else [])->bldRel [.lst C,.int 0,.int 2] [.lst L,.int j]->treeRel [.int n,.int y,.lst C] [.int 1,.str (tagF n),.str d,.lst ((atsF y).map Att.row),.str [],.lst L]:=by
  rintro d L j ht k g p ⟨q1,q2,c,rfl,m,r⟩
  have e:ofN n y C= .mk 1 (tagF n) d (atsF y) [] c:=by
   unfold ofN
   rw[r 20 (by omega),p]
  refine⟨by rw[e];exact⟨rfl,rfl,rfl,rfl,rfl,rfl⟩,by rw[e];exact elem_ok ht k g m,?_,?_⟩
  ·have:=m.2.2.2.2;rw[e,size_def];show Tree.sizes c+1<=64;omega
  ·have:=m.2.2.2.1;rw[e,depth_def];show Tree.depths c+1<=6;omega
 refine⟨hn,fun _ t ht=>⟨hy,fun _ A q=>?_⟩⟩
 obtain⟨rfl,g⟩:=q
 obtain⟨rfl,ht⟩:=ht
 refine⟨fun h=>⟨⟨o,by omega,by omega,by omega,by omega⟩,fun _ L j hr=>⟨by omega,fun _=>⟨rfl,fun _=>⟨f _ _ j ht (.inr (by decide)) g (bC3 h).symm hr,fun _=>trivial⟩⟩⟩⟩,fun h=>⟨⟨o,by omega,by omega,by omega,by omega⟩,fun _ L j hr=>⟨by omega,fun _=>⟨rfl,fun _=>⟨f _ _ j ht (.inl rfl) g (bC1 h).symm hr,fun _=>trivial⟩⟩⟩⟩⟩
end Go.D
