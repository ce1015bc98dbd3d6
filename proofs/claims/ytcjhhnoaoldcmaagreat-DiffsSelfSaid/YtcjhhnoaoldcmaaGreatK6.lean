/- DiffsSelf: its loops' steps, its two diffs.
  Conditions: none. -/
import Derived.Test.YtcjhhnoaoldcmaaGreatI7
import Derived.Test.YtcjhhnoaoldcmaaGreatK1
set_option linter.unusedVariables false
set_option linter.unusedSimpArgs false
namespace Go.D
open Go Go.Xe Go.Sx
open Go.C36 (row j0 lis)
theorem set_row {l : List Tree} {i : Int} {c : Tree} (h : l[i.toNat]? = some c) (k : Int) (t y : Str) (a : List Att) (x : Str) (d : List Tree) :
  setAt (setAt (setAt (setAt (setAt (setAt (rows l) i 0 (.int k)) i 1 (.str t)) i 2 (.str y)) i 3 (.lst (a.map Att.row))) i 4 (.str x)) i 5 (.lst (rows d))=rows (l.set i.toNat (.mk k t y a x d)):=by
 unfold setAt
 refine List.ext_getElem? fun j=>?_
 simp only[List.getElem?_modify,rows,bK1,List.getElem?_set]
 by_cases hj:i.toNat=j
 ·subst hj;simp[h,row_def,(bF4.1 h).1];exact⟨rfl,rfl,rfl,rfl,rfl,rfl⟩
 ·simp[hj]
variable {s:Tree}
theorem sa_step  {i k : Int} {t y x d : Str} {a c : Sx.Rows} (h : saInv [.int s.k, .str s.t, .str s.y, .lst (s.a.map Att.row), .str s.x, .lst (rows s.c)] [.int i, .int k, .str t, .str y, .lst a, .str x, .lst c]) (hi : i < ln c) :
  saInv [.int s.k,.str s.t,.str s.y,.lst (s.a.map Att.row),.str s.x,.lst (rows s.c)] [.int (i+1),.int k,.str t,.str y,.lst a,.str x,.lst (setAt (setAt (setAt (setAt (setAt (setAt c i 0 (.int 1)) i 1 (.str [97])) i 2 (.str ([107]++d))) i 3 (.lst [])) i 4 (.str [])) i 5 (.lst (cL c i 5)))]:=by
 obtain⟨h0,h1,h2,h3,h4,g,m,n,o⟩:=h
 obtain⟨l,rfl,e,hz⟩:=o _ rfl
 have hlt:i.toNat<l.length:=by simp only[ln,bH0]at hi;omega
 have hc:=bG3 hlt
 refine⟨by omega,by simp only[ln,bH0]at hi⊢;omega,h2,h3,h4,g,m,n,fun r hl=>?_⟩
 rw[rows_eq]at hl;subst hl
 have p:cL (rows l) i 5=rows l[i.toNat].c:=by unfold cL;rw[cell_rows hc,t5];rfl
 refine⟨l.set i.toNat (.mk 1 [97] ([107]++d) [] [] l[i.toNat].c),?_,by rw[List.length_set];exact e,fun z f=>?_⟩
 ·rw[p];exact set_row hc 1 [97] ([107]++d) [] [] _
 ·obtain⟨j,hj,b⟩:=List.mem_iff_getElem.1 f
  rw[List.getElem_take,List.getElem_set]at b
  rw[bI6,List.length_set]at hj
  split at b
  ·rw[<-b];exact fun h=>by cases h
  ·rename_i q
   exact hz z (List.mem_iff_getElem.2 ⟨j,by rw[bI6];omega,by rw[List.getElem_take];exact b⟩)
theorem sb_step {s : Tree} {i k j : Int} {t y x : Str} {a c : Sx.Rows} (h : sbInv [.int s.k, .str s.t, .str s.y, .lst (s.a.map Att.row), .str s.x, .lst (rows s.c)] [.int i, .int k, .str t, .str y, .lst a, .str x, .lst c]) (hi : i < ln (rows s.c)) (h0 : 0 ≤ j) (h1 : j < ln (rows s.c)) :
  sbInv [.int s.k,.str s.t,.str s.y,.lst (s.a.map Att.row),.str s.x,.lst (rows s.c)] [.int (i+1),.int k,.str t,.str y,.lst a,.str x,.lst (c++Sx.chunk 6 1 [.int (cI (rows s.c) j 0),.str (cS (rows s.c) j 1),.str (cS (rows s.c) j 2),.lst (cL (rows s.c) j 3),.str (cS (rows s.c) j 4),.lst (cL (rows s.c) j 5)])]:=by
 obtain⟨q,r,d,f,g,m,n,o,p⟩:=h
 obtain⟨l,rfl,e,hz⟩:=p _ rfl
 have hlt:j.toNat<s.c.length:=by simp only[ln,bH0]at h1;omega
 have hc:=bG3 hlt
 refine⟨by omega,by omega,d,f,g,m,n,o,fun u hl=>?_⟩
 rw[rows_eq]at hl;subst hl
 refine⟨l++ [s.c[j.toNat]],?_,by rw[bH8,List.length_singleton];omega,fun z b=>?_⟩
 ·unfold cI cS cL
  simp only[cell_rows hc,t0,t1,t2,t3,t4,t5]
  show _=(l++ [s.c[j.toNat]]).map Tree.row
  rw[bJ8,List.map_singleton,row_def]
  rfl
 ·rcases bI8.1 b with h|h
  ·exact hz z h
  ·rw[bL6.1 h];exact bP6 _
theorem tmod_rng {a n:Int}(h:0<=a)(hn:0<n):0<=a.tmod n/\a.tmod n<n:=by
 rw[Int.tmod_eq_emod_of_nonneg h]
 exact⟨Int.emod_nonneg _ (by omega),Int.emod_lt_of_pos _ hn⟩
abbrev otherS :Str:=[111,116,104,101,114]
theorem other_valid (hk:s.k=1)(v:Valid s):Valid (.mk s.k s.t otherS s.a s.x s.c):=by
 obtain⟨v1,b,d⟩:=v
 have A:=(AllA_iff s).1 v1
 refine⟨(AllA_iff _).2 ⟨?_,A.2⟩,by rw[size_def]at b⊢;exact b,by rw[depth_def]at d⊢;exact d⟩
 rcases A.1 with h|h
 ·exact absurd h.1 (by rw[hk];decide)
 ·exact .inr ⟨h.1,h.2.1,.inr (show vName otherS=true by decide),h.2.2.2⟩
variable {L:Sx.Rows}
theorem self_dda (v:Valid s){e:Int}(h:ddaRel [.int s.k,.str s.t,.str s.y,.lst (s.a.map Att.row),.str s.x,.lst (rows s.c),.int s.k,.str s.t,.str otherS,.lst (s.a.map Att.row),.str s.x,.lst (rows s.c)] [.lst L,.int e]):L=[]/\e=0:=by
 obtain⟨h1,_,h3⟩:=h s (.mk s.k s.t otherS s.a s.x s.c) ⟨rfl,rfl,rfl,rfl,rfl,rfl⟩ ⟨rfl,rfl,rfl,rfl,rfl,rfl⟩
 exact⟨(h3 _ (bH4 _)).trans (diff_self _ _ _ _ v.1 rfl rfl rfl),h1⟩
theorem two_dda {s':Tree} (v : Valid s) (v' : Valid s') (hx : s'.x = s.x) ( d : s'.a = s.a) (hy : ∀ c ∈ s.c, c.y ≠ []) (hl : s'.c.length = s.c.length) (hm : ∀ c ∈ s'.c, c ∈ s.c)  {e : Int}
  (h:ddaRel [.int s.k,.str s.t,.str s.y,.lst (s.a.map Att.row),.str s.x,.lst (rows s.c),.int s'.k,.str s'.t,.str s'.y,.lst (s'.a.map Att.row),.str s'.x,.lst (rows s'.c)] [.lst L,.int e]):
  e=0/\ ∃b,MvS s.c.length L b/\((b.length:Int)<max (s.c.length:Int) 1)/\mvs s.c b=s'.c:=by
 obtain⟨h1,_,h3⟩:=h s s' ⟨rfl,rfl,rfl,rfl,rfl,rfl⟩ ⟨rfl,rfl,rfl,rfl,rfl,rfl⟩
 rw[h3 (s'.depth+1) (by omega)]
 exact⟨h1,diff_moves v.1 v'.1 hx d hy hl hm _⟩
end Go.D
