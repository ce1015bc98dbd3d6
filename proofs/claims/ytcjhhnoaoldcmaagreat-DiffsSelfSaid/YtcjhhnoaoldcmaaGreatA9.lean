/- The trees of the laws are valid.
  Conditions: none. -/
import Derived.Test.YtcjhhnoaoldcmaaGreatA6
import Derived.Test.YtcjhhnoaoldcmaaGreatA8
set_option linter.unusedVariables false
set_option linter.unusedSimpArgs false
namespace Go.D
open Go Go.Xe Go.Sx
theorem wrap_u8 (x:Int):u8 (IntKind.wrap .u8 x):=by
 simp only[u8,IntKind.wrap,IntKind.bits,IntKind.signed]
 simp;omega
variable {n:Int}
theorem mod4 (h:u8 n):n.tmod 4=0\/n.tmod 4=1\/n.tmod 4=2\/n.tmod 4=3:=by
 have:=Int.tmod_eq_emod_of_nonneg (a:=n) (b:=4) h.1
 omega
theorem vcTag_ok :vcTag:=by
 unfold vcTag
 intro n hn
 have h:=mod4 hn
 simp only[Nd,tagRel,bM4,bL4]
 refine⟨by omega,fun _=>⟨by omega,fun _=>⟨by omega,fun _=>⟨rfl,?_⟩⟩⟩⟩
 rcases h with h|h|h|h<;>rw[h]<;>decide
theorem ats_v (h:u8 n):vStr (cS kAts0 (n.tmod 4) 0)=true:=by
 rcases mod4 h with h|h|h|h<;>rw[h]<;>decide
variable {a:List Att}
theorem ok_ats (h:(a.map Att.n).Sublist [[99,108,97,115,115],[105,100],[122,57]])(c:∀x∈a,vStr x.v=true):OkAts a:=by
 refine⟨by simpa using h.length_le,fun x hx=>⟨?_,c x hx⟩,List.Pairwise.sublist h (by unfold lt;decide)⟩
 have:=h.subset (List.mem_map_of_mem (f:=Att.n) hx)
 simp only[bI9,List.not_mem_nil,or_false]at this
 rcases this with h|h|h<;>rw[h]<;>decide
theorem atB_sub (b:Int)(n:Str)(w:Int):((atB b n w).map Att.n).Sublist [n]:=by
 unfold atB
 split
 ·exact List.Sublist.refl _
 ·exact List.nil_sublist _
variable {b w:Int}
theorem atB_v {n:Str}:∀x∈atB b n w,vStr x.v=true:=by
 unfold atB
 intro x hx
 split at hx
 ·rw[bL6.1 hx];exact ats_v (wrap_u8 w)
 ·cases hx
theorem atsF_ok (n:Int):OkAts (atsF n):=by
 unfold atsF
 refine ok_ats ?_ fun x hx=>?_
 ·rw[bJ8,bJ8]
  exact(atB_sub _ _ _).append ((atB_sub _ _ _).append (atB_sub _ _ _))
 ·simp only[bI8]at hx
  rcases hx with h|h|h<;>exact atB_v x h
theorem atB_y {n:Str}(h:b.tmod 2=1):atB b n w=[⟨n,cS tabA ((IntKind.wrap .u8 w).tmod 4) 0⟩]:=bH3 h
theorem atB_n {n:Str}(h:¬b.tmod 2=1):atB b n w=[]:=bH1 h
theorem vcAts_ok :vcAts:=by
 unfold vcAts
 intro n hn
 have ok:=atsF_ok n
 have c:∀L:Sx.Rows,L=(atsF n).map Att.row->atsRel [.int n] [.lst L]:=fun L h=>⟨h,ok⟩
 have d:∀(x:Int) {q:Prop},q->Nd (I64 (IntKind.wrap .u8 x)) (Nd (¬((((IntKind.wrap .u8 x):Int).tmod (4))<0)) (Nd ((((IntKind.wrap .u8 x):Int).tmod (4))<4) (Nd ((((IntKind.wrap .u8 x):Int).tmod (4))<4) q))):=fun x q hq=>by
  have h:=wrap_u8 x
  have h4:=mod4 h
  obtain⟨h1,h2⟩:=h
  exact⟨⟨by omega,by omega⟩,fun _=>⟨by omega,fun _=>⟨by omega,fun _=>⟨by omega,fun _=>hq⟩⟩⟩⟩
 unfold atsF at c
 refine⟨fun h0=>d _ ⟨fun h1=>d _ ⟨fun h2=>d _ ⟨c _ ?_,fun _=>trivial⟩,fun h2=>⟨c _ ?_,fun _=>trivial⟩⟩,fun h1=>⟨fun h2=>d _ ⟨c _ ?_,fun _=>trivial⟩,fun h2=>⟨c _ ?_,fun _=>trivial⟩⟩⟩,
  fun h0=>⟨fun h1=>d _ ⟨fun h2=>d _ ⟨c _ ?_,fun _=>trivial⟩,fun h2=>⟨c _ ?_,fun _=>trivial⟩⟩,fun h1=>⟨fun h2=>d _ ⟨c _ ?_,fun _=>trivial⟩,fun h2=>⟨c _ ?_,fun _=>trivial⟩⟩⟩⟩
 all_goals
  first|rw[atB_y h0]|rw[atB_n h0]
  first|rw[atB_y h1]|rw[atB_n h1]
  first|rw[atB_y h2]|rw[atB_n h2]
  rfl
theorem mk_row (k:Int)(t y:Str)(a:List Att)(x:Str)(c:List Tree):(Tree.mk k t y a x c).row=[.int k,.str t,.str y,.lst (a.map Att.row),.str x,.lst (rows c)]:=row_def _
variable {l:List Tree}{lv:Int}
theorem kids_add {m f:Int}{c:Tree}(h:Kids l lv m)(g:AllA c)(hl:l.length≠16)(hy:c.y=[]\/ ∀z∈l.map Tree.y,z≠c.y)(k:lv+c.depth<=6)(hs:c.size+m<=f):Kids (l++ [c]) lv f:=by
 obtain⟨h1,h2,h3,h4,j⟩:=h
 refine⟨by simp;omega,(AllAs_app _ _).2 ⟨h2,g,trivial⟩,?_,by rw[depths_app,one_d];omega,by rw[sizes_app,one_s];omega⟩
 rw[bJ8]
 refine List.pairwise_append.2 ⟨h3,List.pairwise_singleton _ _,fun x hx y d e=>?_⟩
 simp only[bK2,List.map_nil,bL6]at d
 subst d
 rcases hy with h|h
 ·exact absurd h e
 ·exact h x hx
theorem kids_le {m c:Int}(h:Kids l lv m)(hm:m<=c):Kids l lv c:=⟨h.1,h.2.1,h.2.2.1,h.2.2.2.1,by have:=h.2.2.2.2;omega⟩
theorem words_ok {v:Str}(h:vStr v=true):AllA (.mk 2 [] [] [] v []):=(AllA_iff _).2 ⟨.inl ⟨rfl,h,rfl,rfl,rfl,rfl⟩,trivial⟩
theorem elem_ok {t y:Str}{c:List Tree}(ht:vName t=true)(hy:y=[]\/vName y=true)(d:OkAts a)(hc:Kids c lv n):AllA (.mk 1 t y a [] c):=
 (AllA_iff _).2 ⟨.inr ⟨rfl,ht,hy,rfl,by have:=d.1;show a.length<=8;omega,hc.1,d.2.1,d.2.2,hc.2.2.1⟩,hc.2.1⟩
theorem kids_nil (h:lv<=6)(hn:0<=n):Kids [] lv n:=⟨by simp,trivial,List.Pairwise.nil,by simp[Tree.depths];omega,by simp[Tree.sizes];omega⟩
theorem bld_v (h:u8 n):vStr (cS kBld1 (n.tmod 4) 0)=true:=by
 rcases mod4 h with h|h|h|h<;>rw[h]<;>decide
theorem bld_k (h:u8 n):vName (cS kBld0 (n.tmod 4) 0)=true:=by
 rcases mod4 h with h|h|h|h<;>rw[h]<;>decide
section
variable {C :Sx.Rows}{i lv:Int}{l:List Tree}
theorem bldF_out (h:¬(i<ln C/\i<19))(g:Nat):bldF g C i lv l=(l,i):=by
 cases g with
 |zero=>rfl
 |succ g=>unfold bldF;rw[bH1 h]
theorem bldF_end (h:i<ln C/\i<19)(h0:(cI C i 0).tmod 8=0)(g:Nat):bldF (g+1) C i lv l=(l,i+1):=by
 unfold bldF;rw[bH3 h,bH3 h0]
theorem bldF_skip (h:i<ln C/\i<19)(h0:¬(cI C i 0).tmod 8=0)(hl:l.length=16)(g:Nat):bldF (g+1) C i lv l=bldF g C (i+1) lv l:=by
 conv=>lhs;unfold bldF
 rw[bH3 h,bH1 h0,bH3 hl]
theorem bldF_words (h:i<ln C/\i<19)(h0:¬(cI C i 0).tmod 8=0)(hl:¬l.length=16)(h3:(cI C i 0).tmod 8<3)(g:Nat):bldF (g+1) C i lv l=bldF g C (i+1) lv (l++ [.mk 2 [] [] [] (cS kBld1 ((IntKind.wrap .u8 ((cI C i 0).tdiv 8)).tmod 4) 0) []]):=by
 conv=>lhs;unfold bldF
 rw[bH3 h,bH1 h0,bH1 hl,bH3 h3];rfl
theorem bldF_elem (h : i < ln C ∧ i < 19) (h0 : ¬ (cI C i 0).tmod 8 = 0) (hl : ¬ l.length = 16) (h3 : ¬ (cI C i 0).tmod 8 < 3) ( d : lv < 5) (g : Nat) {j : Int} {c : List Tree} (hr : bldF g C (i + 1) (lv + 1) [] = (c, j)) :
  bldF (g+1) C i lv l=bldF g C j lv (l++ [.mk 1 (tagF (IntKind.wrap .u8 ((cI C i 0).tdiv 8))) (if(cI C i 0).tmod 8=3 then aj8 l (cS kBld0 ((IntKind.wrap .u8 ((cI C i 0).tdiv 8)).tmod 4) 0)else []) (atsF (IntKind.wrap .u8 ((cI C i 0).tdiv 2))) [] c]):=by
 conv=>lhs;unfold bldF
 rw[bH3 h,bH1 h0,bH1 hl,bH1 h3,bH3 d,hr];rfl
theorem bldF_leaf (h : i < ln C ∧ i < 19) (h0 : ¬ (cI C i 0).tmod 8 = 0) (hl : ¬ l.length = 16) (h3 : ¬ (cI C i 0).tmod 8 < 3) ( c : ¬ lv < 5) (g : Nat) :
  bldF (g+1) C i lv l=bldF g C (i+1) lv (l++ [.mk 1 (tagF (IntKind.wrap .u8 ((cI C i 0).tdiv 8))) (if(cI C i 0).tmod 8=3 then aj8 l (cS kBld0 ((IntKind.wrap .u8 ((cI C i 0).tdiv 8)).tmod 4) 0)else []) (atsF (IntKind.wrap .u8 ((cI C i 0).tdiv 2))) [] []]):=by
 conv=>lhs;unfold bldF
 rw[bH3 h,bH1 h0,bH1 hl,bH1 h3,bH1 c];rfl
end
theorem vcBld_ok (n : Nat) : vcBld n := by
 unfold vcBld
 rintro C i0 lv ⟨⟨R,h0,V,h2,p⟩,hm⟩
 simp only[bldMu]at hm
 refine⟨⟨R,h0,by omega,V,h2,p,[],rfl,kids_nil (by omega) (by omega),fun f h=>⟨f,h,rfl⟩⟩,fun _ i L J=>?_⟩
 obtain⟨_,_,ai,hi,_,_,l,rfl,hk,hF⟩:=J
 have ad:ln (rows l)=l.length:=by simp[ln]
 have hR:∀j,i<=j->j<=19->(∀g:Nat,bldF (g+1) C i lv l=(l,j))->bldRel [.lst C,.int i0,.int lv] [.lst (rows l),.int j]:=fun j h1 h2 h3=>⟨by omega,h2,l,rfl,kids_le hk (by omega),fun f hf=>by
  obtain⟨g,g1,U⟩:=hF f hf
  obtain⟨g,rfl⟩:∃k,g=k+1:=⟨g-1,by omega⟩
  rw[U,h3]⟩
 have hS:∀j (l':List Tree),i<j->(∀g:Nat,20-i<=g+1->bldF (g+1) C i lv l=bldF g C j lv l')-> ∀f:Nat,20-i0<=f-> ∃g:Nat,20-j<=g/\bldF f C i0 lv []=bldF g C j lv l':=fun j l' h1 h2 f hf=>by
  obtain⟨g,g1,U⟩:=hF f hf
  obtain⟨g,rfl⟩:∃k,g=k+1:=⟨g-1,by omega⟩
  exact⟨g,by omega,U.trans (h2 g (by omega))⟩
 have hI:∀j c M,i<j->j<=19->M=[c.row]->AllA c->l.length≠16->(c.y=[]\/ ∀z∈l.map Tree.y,z≠c.y)->lv+c.depth<=6->c.size+i<=j->(∀g:Nat,20-i<=g+1->bldF (g+1) C i lv l=bldF g C j lv (l++ [c]))->blInv [.lst C,.int i0,.int lv] [.int j,.lst (rows l++M)]:=fun j c M h1 Y e hA hl hy S hs H=>
  ⟨R,h0,by omega,Y,h2,p,l++ [c],by rw[e];simp[rows],kids_add hk hA hl hy S (by omega),hS j _ h1 H⟩
 have ah:=hk.1
 have   I : ∀ t y a L j, vName t = true → (y = [] ∨ vName y = true ∧ ∀ z ∈ l.map Tree.y, z ≠ y) → OkAts a → l.length ≠ 16 → bldRel [.lst C, .int (i + 1), .int (lv + 1)] [.lst L, .int j] → (∀ (g : Nat) c, bldF g C (i + 1) (lv + 1) [] = (c, j) → bldF (g + 1) C i lv l = bldF g C j lv (l ++ [.mk 1 t y a [] c])) →
   blInv [.lst C,.int i0,.int lv] [.int j,.lst (rows l++Sx.chunk 6 1 [.int 1,.str t,.str y,.lst (a.map Att.row),.str [],.lst L])]/\i<j:=by
  intro t y a L j ht hy F hl ⟨q1,q2,c,q3,q4,q6⟩ H
  have q5:=q4.2.2.2
  refine⟨hI j (.mk 1 t y a [] c) _ (by omega) q2 (by rw[mk_row,q3];rfl) (elem_ok ht (hy.imp id fun h=>h.1) F q4) hl (hy.imp id fun h=>h.2) ?_ ?_ fun g h=>H g c (q6 g (by omega)),by omega⟩
  ·rw[depth_def];show lv+((Tree.depths c+1:Nat):Int)<=6;omega
  ·rw[size_def];show((Tree.sizes c+1:Nat):Int)+i<=j;omega
 have  aa : ∀ t y a, vName t = true → (y = [] ∨ vName y = true ∧ ∀ z ∈ l.map Tree.y, z ≠ y) → OkAts a → l.length ≠ 16 → i < 19 → (∀ g : Nat, bldF (g + 1) C i lv l = bldF g C (i + 1) lv (l ++ [.mk 1 t y a [] []])) →
   blInv [.lst C,.int i0,.int lv] [.int (i+1),.lst (rows l++Sx.chunk 6 1 [.int 1,.str t,.str y,.lst (a.map Att.row),.str [],.lst []])]:=by
  intro t y a ht hy F hl h H
  exact hI (i+1) (.mk 1 t y a [] []) _ (by omega) (by omega) (by rw[mk_row];rfl) (elem_ok ht (hy.imp id fun h=>h.1) F (kids_nil (lv:=0) (n:=0) (by omega) (by omega))) hl (hy.imp id fun h=>h.2) (by rw[depth_def];show lv+((0+1:Nat):Int)<=6;omega) (by rw[size_def];show((0+1:Nat):Int)+i<=_;omega) fun g _=>H g
 have hW:∀v,vStr v=true->l.length≠16->i<19->(∀g:Nat,bldF (g+1) C i lv l=bldF g C (i+1) lv (l++ [.mk 2 [] [] [] v []]))->blInv [.lst C,.int i0,.int lv] [.int (i+1),.lst (rows l++Sx.chunk 6 1 [.int 2,.str [],.str [],.lst [],.str v,.lst []])]:=by
  intro v T hl h H
  exact hI (i+1) (.mk 2 [] [] [] v []) _ (by omega) (by omega) (by rw[mk_row];rfl) (words_ok T) hl (.inl rfl) (by rw[depth_def];show lv+((0+1:Nat):Int)<=6;omega) (by rw[size_def];show((0+1:Nat):Int)+i<=_;omega) fun g _=>H g
 have mu:∀j L M,i<j->i<19->blMu [.lst C,.int i0,.int lv] [.int j,.lst L]<blMu [.lst C,.int i0,.int lv] [.int i,.lst M]:=fun j L M h1 h2=>by simp only[blMu];omega
 have X:=fun(h:i<ln C/\i<19) h0 hl g=>bldF_skip (lv:=lv) (l:=l) h h0 hl g
 have W:=fun(h:i<ln C/\i<19) h0 hl h3 g=>bldF_words (lv:=lv) (l:=l) h h0 hl h3 g
 have r:=fun(h:i<ln C/\i<19) h0 hl h3 p g j c hr=>bldF_elem (lv:=lv) (l:=l) h h0 hl h3 p g (j:=j) (c:=c) hr
 have E:=fun(h:i<ln C/\i<19) h0 hl h3 p g=>bldF_leaf (lv:=lv) (l:=l) h h0 hl h3 p g
 have Z:=fun(h:i<ln C/\i<19) h0 g=>bldF_end (lv:=lv) (l:=l) h h0 g
 simp only[ad]
 refine bH9 (fun B=>bH9 (fun m=>?_) fun m=>⟨by omega,fun _=>⟨rfl,fun _=>⟨hR _ (by omega) (by omega) fun g=>bldF_out (fun h=>m h.2) _,fun _=>trivial⟩⟩⟩) fun B=>⟨by omega,fun _=>⟨rfl,fun _=>⟨hR _ (by omega) (by omega) fun g=>bldF_out (fun h=>B h.1) _,fun _=>trivial⟩⟩⟩
 refine⟨by omega,fun _=>⟨B,fun _=>⟨⟨by omega,by omega⟩,fun _=>?_⟩⟩⟩
 have N:=wrap_u8 ((cI C i 0).tdiv 8)
 have O:=wrap_u8 ((cI C i 0).tdiv 2)
 generalize IntKind.wrap .u8 ((cI C i 0).tdiv 8)=w at N W r E⊢
 generalize IntKind.wrap .u8 ((cI C i 0).tdiv 2)=w2 at O r E⊢
 have T:=bld_v N
 have D:=bld_k N
 have h4:=mod4 N
 generalize cS kBld1 (w.tmod 4) 0=v at T W⊢
 generalize cS kBld0 (w.tmod 4) 0=o at D r E⊢
 generalize w.tmod 4=w4 at h4⊢
 have q:i<ln C/\i<19:=⟨B,m⟩
 have aj:o≠ []:=fun e=>by rw[e]at D;cases D
 refine⟨fun c0=>⟨by omega,fun _=>⟨rfl,fun _=>⟨hR _ (by omega) (by omega) (Z q c0),fun _=>trivial⟩⟩⟩,fun c0=>⟨fun h=>?_,fun h=>?_⟩⟩
 ·exact⟨by omega,fun _=>⟨rfl,fun _=>⟨⟨R,h0,by omega,by omega,h2,p,l,rfl,kids_le hk (by omega),hS _ _ (by omega) fun g _=>X q c0 (by omega) g⟩,fun _=>⟨mu _ _ _ (by omega) m,fun _=>trivial⟩⟩⟩⟩
 have hl:l.length≠16:=fun e=>h (by omega)
 refine⟨fun Q=>?_,fun Q=>⟨N,fun _ t ht=>⟨O,fun _ A hA=>?_⟩⟩⟩
 ·exact⟨by omega,fun _=>⟨by omega,fun _=>⟨by omega,fun _=>⟨by omega,fun _=>⟨by omega,fun _=>⟨rfl,fun _=>⟨by omega,fun _=>⟨rfl,fun _=>⟨hW v T hl m (W q c0 hl Q),fun _=>⟨mu _ _ _ (by omega) m,fun _=>trivial⟩⟩⟩⟩⟩⟩⟩⟩⟩⟩
 obtain⟨rfl,F⟩:=hA
 obtain⟨rfl,ht⟩:=ht
 have r:=fun p g j c hr=>r q c0 hl Q p g j c hr
 have E:=fun p g=>E q c0 hl Q p g
 generalize tagF w=t at ht r E⊢
 generalize atsF w2=a at F r E⊢
 have T1:∀y,y=(if(cI C i 0).tmod 8=3 then aj8 l o else [])->(y=[]\/vName y=true/\ ∀z∈l.map Tree.y,z≠y)->lv<5->_:=fun y G hy u=>(⟨⟨by omega,by omega⟩,fun _=>⟨⟨⟨R,by omega,by omega,by omega,by omega⟩,by simp only[bldMu];omega⟩,fun _ L j hr=>⟨by omega,fun _=>⟨rfl,fun _=>⟨by omega,fun _=>⟨by omega,fun _=>⟨rfl,fun _=>⟨by omega,fun _=>⟨rfl,fun _=>⟨(I t y a L j ht hy F hl hr fun g c h=>G▸r u g j c h).1,fun _=>⟨mu _ _ _ (I t y a L j ht hy F hl hr fun g c h=>G▸r u g j c h).2 m,fun _=>trivial⟩⟩⟩⟩⟩⟩⟩⟩⟩⟩⟩:Nd (I64 (lv+1)) (Nd ((bldPre [.lst C,.int (i+1),.int (lv+1)])/\bldMu [.lst C,.int (i+1),.int (lv+1)]<n) (∀(L:Sx.Rows) (j:Int),(bldRel [.lst C,.int (i+1),.int (lv+1)] [.lst L,.int j])->Ni (ln L) (Nr (ln L) (Ni (l.length:Int) (Nd (((l.length:Int)+1)<67108865) (Nr (l.length:Int) (Ni ((l.length:Int)+1) (Nr ((l.length:Int)+1) (Nd (blInv [.lst C,.int i0,.int lv] [.int j,.lst (rows l++(Sx.chunk 6 1 [(.int 1),(.str t),(.str y),(.lst (a.map Att.row)),(.str []),(.lst L)]))]) (Nd (blMu [.lst C,.int i0,.int lv] [.int j,.lst (rows l++(Sx.chunk 6 1 [(.int 1),(.str t),(.str y),(.lst (a.map Att.row)),(.str []),(.lst L)]))]<blMu [.lst C,.int i0,.int lv] [.int i,.lst (rows l)]) True)))))))))))
 have T2:∀y,y=(if(cI C i 0).tmod 8=3 then aj8 l o else [])->(y=[]\/vName y=true/\ ∀z∈l.map Tree.y,z≠y)-> ¬lv<5->_:=fun y G hy u=>(⟨by omega,fun _=>⟨by omega,fun _=>⟨rfl,fun _=>⟨by omega,fun _=>⟨rfl,fun _=>⟨aa t y a ht hy F hl m (fun g=>G▸E u g),fun _=>⟨mu _ _ _ (by omega) m,fun _=>trivial⟩⟩⟩⟩⟩⟩⟩:Ni (l.length:Int) (Nd (((l.length:Int)+1)<67108865) (Nr (l.length:Int) (Ni ((l.length:Int)+1) (Nr ((l.length:Int)+1) (Nd (blInv [.lst C,.int i0,.int lv] [.int (i+1),.lst (rows l++(Sx.chunk 6 1 [(.int 1),(.str t),(.str y),(.lst (a.map Att.row)),(.str []),(.lst [])]))]) (Nd (blMu [.lst C,.int i0,.int lv] [.int (i+1),.lst (rows l++(Sx.chunk 6 1 [(.int 1),(.str t),(.str y),(.lst (a.map Att.row)),(.str []),(.lst [])]))]<blMu [.lst C,.int i0,.int lv] [.int i,.lst (rows l)]) True)))))))
 refine⟨fun s=>⟨by omega,fun _=>⟨by omega,fun _=>⟨by omega,fun _=>⟨⟨by omega,by omega,rfl,rfl,rfl,rfl,rfl,by simp⟩,fun _ k k1 t' y a' x c ac=>?_⟩⟩⟩⟩,fun s=>⟨T1 [] (bH1 s).symm (.inl rfl),T2 [] (bH1 s).symm (.inl rfl)⟩⟩
 obtain⟨k0,k2,rfl,rfl,rfl,rfl,rfl,hy⟩:=ac
 have k2:k<=(l.length:Int):=by simpa using k2
 rw[keysR_rows]at hy
 refine⟨fun K=>⟨by omega,fun _=>⟨by omega,fun _=>⟨by omega,fun _=>?_⟩⟩⟩,fun K=>?_⟩
 ·obtain⟨d,S⟩:=Sx.get_at k0 K
  have ab:=map_get (f:=Tree.y) S
  simp only[cS,cell_rows S,t2,j7]
  have st:∀P,(P=if o∈(l.map Tree.y).take (k+1).toNat then []else o)->keyInv [.lst (rows l),.str t',.str o,.lst (a.map Att.row)] [.int (k+1),.int 1,.str t',.str P,.lst (a.map Att.row),.str [],.lst []]:=fun P h=>⟨by omega,by simp;omega,rfl,rfl,rfl,rfl,rfl,by rw[keysR_rows];exact h⟩
  have mk:∀P ae,keyMu [.lst (rows l),.str t',.str o,.lst (a.map Att.row)] [.int (k+1),.int 1,.str t',.str P,.lst (a.map Att.row),.str [],.lst []]<keyMu [.lst (rows l),.str t',.str o,.lst (a.map Att.row)] [.int k,.int 1,.str t',.str ae,.lst (a.map Att.row),.str [],.lst []]:=fun _ _=>by simp only[keyMu,slMu,bH0];omega
  rw[take_step k0 ab]at st
  refine⟨fun e=>⟨⟨by omega,by omega⟩,fun _=>⟨st _ ?_,fun _=>⟨mk _ _,fun _=>trivial⟩⟩⟩,fun e=>⟨⟨by omega,by omega⟩,fun _=>⟨st _ ?_,fun _=>⟨mk _ _,fun _=>trivial⟩⟩⟩⟩
  ·by_cases hm:o∈(l.map Tree.y).take k.toNat
   ·rw[bH3 (bO8 _ hm)]
   ·rw[bH1 hm]at hy
    rw[bH3 (bN6 _ (by rw[e,hy];simp))]
  ·by_cases hm:o∈(l.map Tree.y).take k.toNat
   ·rw[bH3 (bO8 _ hm)]
    rwa[bH3 hm]at hy
   ·rw[bH1 hm]at hy
    rw[bH1 (fun h=>(bI8.1 h).elim hm fun h=>e (by rw[hy];exact(bL6.1 h).symm))]
    exact hy
 ·rw[take_full (by rw[bH0];omega)]at hy
  have G:y=if(cI C i 0).tmod 8=3 then aj8 l o else []:=by rw[bH3 s,hy];rfl
  have hy:y=[]\/vName y=true/\ ∀z∈l.map Tree.y,z≠y:=by
   by_cases hm:o∈l.map Tree.y
   ·left;rw[hy,bH3 hm]
   ·right;rw[hy,bH1 hm];exact⟨D,fun z hz e=>hm (e▸hz)⟩
  exact⟨T1 y G hy,T2 y G hy⟩
theorem vcTro_ok :vcTro:=by
 unfold vcTro
 rintro n y C ⟨hn,hy,o⟩
 have f:∀d L j,vName (tagF n)=true->(d=[]\/vName d=true)->OkAts (atsF y)->d=(if y.tmod 3=1 then [114,111,111,116]else [])->bldRel [.lst C,.int 0,.int 2] [.lst L,.int j]->treeRel [.int n,.int y,.lst C] [.int 1,.str (tagF n),.str d,.lst ((atsF y).map Att.row),.str [],.lst L]:=by
  rintro d L j ht k g p ⟨q1,q2,c,rfl,m,r⟩
  have e:ofN n y C= .mk 1 (tagF n) d (atsF y) [] c:=by
   unfold ofN
   rw[r 20 (by omega),p]
  refine⟨by rw[e];exact⟨rfl,rfl,rfl,rfl,rfl,rfl⟩,by rw[e];exact elem_ok ht k g m,?_,?_⟩
  ·have:=m.2.2.2.2;rw[e,size_def];show Tree.sizes c+1<=64;omega
  ·have:=m.2.2.2.1;rw[e,depth_def];show Tree.depths c+1<=6;omega
 refine⟨hn,fun _ t ht=>⟨hy,fun _ A q=>?_⟩⟩
 obtain⟨rfl,g⟩:=q
 obtain⟨rfl,ht⟩:=ht
 refine⟨fun h=>⟨⟨o,by omega,by omega,by omega,by omega⟩,fun _ L j hr=>⟨by omega,fun _=>⟨rfl,fun _=>⟨f _ _ j ht (.inr (by decide)) g (bH3 h).symm hr,fun _=>trivial⟩⟩⟩⟩,fun h=>⟨⟨o,by omega,by omega,by omega,by omega⟩,fun _ L j hr=>⟨by omega,fun _=>⟨rfl,fun _=>⟨f _ _ j ht (.inl rfl) g (bH1 h).symm hr,fun _=>trivial⟩⟩⟩⟩⟩
end Go.D
