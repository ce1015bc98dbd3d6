/- The diff of a tree and itself is empty: plain law.
  Conditions: none. -/
import Derived.Test.YtcjhhnoaoldcmaaGreatD8
set_option linter.unusedVariables false
set_option linter.unusedSimpArgs false
namespace Go.D
open Go Go.Xe Go.Sx
open Go.C36 (row j0 lis frm maxL pickL best)
theorem best_rise {x:Int}:∀ {l fs:List Int},(∀y∈l,x<y)->l.length=fs.length->best x l fs=maxL fs
 | [],[],_,_=>rfl
 | [],_::_,_,h=>by simp at h
 |_::_,[],_,h=>by simp at h
 |y::l,f::fs,h,hl=>by
  rw[C36.best_cons,bH3 (h y (by simp)),best_rise (fun z hz=>h z (by simp[hz])) (by simpa using hl)]
  rfl
theorem maxL_frm_rise :∀ {l:List Int},l.Pairwise (· < ·)->maxL (frm l)=l.length
 | [],_=>rfl
 |x::l,h=>by
  obtain⟨h1,h2⟩:=List.pairwise_cons.1 h
  have a:=maxL_frm_rise h2
  rw[C36.frm_cons,best_rise h1 (C36.frm_len l).symm,a]
  show max (1+(l.length:Int)) (maxL (frm l))=_
  rw[a,bJ4];omega
theorem pick_rise :∀ {l:List Int} (i:Int) (last:Option Int),l.Pairwise (· < ·)->(∀y,last=some y-> ∀z∈l,y<z)->pickL l (frm l) i l.length last=(List.range l.length).map fun k:Nat=>i+(k:Int)
 | [],i,last,_,_=>rfl
 |x::l,i,last,h,hl=>by
  obtain⟨h1,h2⟩:=List.pairwise_cons.1 h
  have e:1+best x l (frm l)=((x::l).length:Int):=by
   rw[best_rise h1 (C36.frm_len l).symm,maxL_frm_rise h2,bJ4];omega
  rw[C36.frm_cons,C36.pickL_cons,e,bH3 ⟨by rw[bJ4];omega,rfl,fun y hy=>hl y hy x (by simp)⟩]
  have a:=pick_rise (i+1) (some x) h2 fun y hy z hz=>by cases hy;exact h1 z hz
  rw[show((x::l).length:Int)-1=l.length by rw[bJ4];omega,a,bJ4,List.range_succ_eq_map,bK2,List.map_map]
  congr 1
  ·simp
  ·refine List.map_congr_left fun k _=>?_
   simp only[Function.comp];omega
theorem lis_rise {l:List Int}(h:l.Pairwise (· < ·)):lis l=(List.range l.length).map Int.ofNat:=by
 unfold lis
 rw[maxL_frm_rise h,pick_rise 0 none h fun y hy=>by cases hy]
 refine List.map_congr_left fun k _=>?_
 show(0:Int)+k=k
 omega
theorem atF_nn :∀ {m:List Int} (i:Int),(∀x∈m,0<=x)->atF i m=(List.range m.length).map fun k:Nat=>i+(k:Int)
 | [],i,_=>rfl
 |x::m,i,h=>by
  unfold atF
  rw[bH3 (h x (by simp)),atF_nn (i+1) fun y hy=>h y (by simp[hy]),bJ4,List.range_succ_eq_map,bK2,List.map_map]
  congr 1
  ·simp
  ·refine List.map_congr_left fun k _=>?_
   simp only[Function.comp];omega
theorem putF_all {a:List Int}:∀(z:List Int) (o:List Bool) (i:Nat),(o[i]? =some true\/i<o.length/\ ∃k∈z,(a.getD k.toNat 0).toNat=i)->(D0 a true z o)[i]? =some true
 | [],o,i,h=>by
  rcases h with h| ⟨_,k,h,_⟩
  ·exact h
  ·cases h
 |k::z,o,i,h=>by
  unfold D0
  refine putF_all z _ i ?_
  rcases h with h| ⟨h0,j,h1,h2⟩
  ·left
   rw[List.getElem?_set]
   split
   ·rename_i e
    rw[bH3 (by have:=(bF4.1 h).1;omega)]
   ·exact h
  ·rcases bI9.1 h1 with rfl|h1
   ·left
    rw[List.getElem?_set,bH3 h2,bH3 (by omega)]
   ·right
    exact⟨by rw[List.length_set];exact h0,j,h1,h2⟩
variable {m:List Int}
theorem pl_nn (h:∀x∈m,0<=x):pl m=m:=by
 unfold pl
 exact List.filter_eq_self.2 fun x hx=>by simpa using h x hx
theorem stay_rise (h0:∀x∈m,0<=x)(h:m.Pairwise (· < ·)){i:Nat}(hi:i<m.length):(stayM m).getD i false=true:=by
 have:(stayM m)[i]? =some true:=by
  unfold stayM
  rw[pl_nn h0,lis_rise h,atF_nn 0 h0]
  refine putF_all _ _ _ (.inr ⟨by rw[List.length_replicate];exact hi,(i:Int),bN4.2 ⟨i,List.mem_range.2 hi,rfl⟩,?_⟩)
  rw[bJ2,bI2,bK1,List.getElem?_range hi]
  show((0:Int)+i).toNat=i
  omega
 rw[bI2,this];rfl
theorem adf_self :∀a:List Att,adf a a=[]
 | []=>by rw[adf]
 |x::a=>by
  rw[adf,bH1 (by rw[lt_irrefl];decide),bH3 rfl,bH3 rfl]
  exact adf_self a
theorem lastIx_at {f:Nat->List KV}{s:List KV}{j:Nat}(hs:f j=s):∀ {n:Nat},j<n->0<=lastIx f n s
 |0,h=>by omega
 |n+1,h=>by
  unfold lastIx
  split
  ·omega
  ·rename_i c
   by_cases e:j=n
   ·subst e;exact absurd hs c
   ·exact lastIx_at hs (by omega)
theorem mtch_self {c:List Tree}(hk:Keys (c.map Tree.y)):mtch c c=(List.range c.length).map Int.ofNat:=by
 unfold mtch
 refine List.map_congr_left fun i hi=>?_
 have hi:=List.mem_range.1 hi
 have h0:=lastIx_at (f:=spotAt c) rfl hi
 have h1:=lastIx_lt (spotAt c) (spotAt c i) c.length
 have h2:=lastIx_eq (spotAt c) (spotAt c i) c.length h0
 have:=spot_inj hk (by omega) hi h2
 show _=(i:Int)
 omega
theorem range_rise (n:Nat):((List.range n).map Int.ofNat).Pairwise (· < ·):=
 List.pairwise_map.2 ((List.pairwise_lt_range).imp fun h=>Int.ofNat_lt.2 h)
theorem range_mem {n i:Nat}(h:i<n):(i:Int)∈(List.range n).map Int.ofNat:=bN4.2 ⟨i,List.mem_range.2 h,rfl⟩
theorem frees_none {m:List Int}{P:Sx.Rows}:∀ {n:Nat},(∀i:Nat,i<n->(i:Int)∈m)->freesS m P n=[]
 |0,_=>rfl
 |n+1,h=>by
  unfold freesS
  rw[bH3 (h n (by omega)),frees_none fun i hi=>h i (by omega)]
theorem kids_self {  a : Tree → Tree → Sx.Rows → Sx.Rows} {c : List Tree} {P : Sx.Rows} {t : List Int} {m : List Int} {q : List Bool} (hm : m = (List.range c.length).map Int.ofNat) (hq : ∀ i : Nat, i < c.length → q.getD i false = true)
  (hr:∀(i:Nat) (x:Tree) P,c[i]? =some x->a x x P=[]):∀n,n<=c.length->kidS a c c m q P t n=(t,[])
 |0,_=>rfl
 |n+1,h=>by
  have d:=kids_self (P:=P) (t:=t) hm hq hr n (by omega)
  unfold kidS
  simp only[d]
  have hx:=bG3 (l:=c) (i:=n) (by omega)
  have b:m.getD n 0=(n:Int):=by rw[hm,bI2,bK1,List.getElem?_range (by omega)];rfl
  have hc:c.getD n zT=c[n]:=by rw[bI2,hx];rfl
  unfold kidR
  simp only[b,bH1 (show¬(n:Int)<0 by omega),hq n (by omega),bO3,bJ2,hc,hr n _ _ hx,bO1]
theorem diff_self : ∀ (f : Nat) (s s' : Tree) (P : Sx.Rows), AllA s → s'.x = s.x → s'.a = s.a → s'.c = s.c → diffN f s s' P = []
 |0,_,_,_,_,_,_,_=>rfl
 | f + 1, s, s', P,  d, h1, h2, h3 => by
  have A:=(AllA_iff s).1 d
  have hk:=kids_keys A.1
  unfold diffN
  rw[h3,mtch_self hk]
  have b:ownS s s' P=[]:=by unfold ownS;rw[bH3 h1.symm,h2,adf_self];rfl
  rw [ b, frees_none fun i hi => range_mem hi, kids_self rfl (fun i hi => stay_rise (fun x hx => by
    obtain⟨k,_,rfl⟩:=bN4.1 hx
    exact Int.natCast_nonneg k) (range_rise _) (by simpa using hi)) (fun i x P hx=>diff_self f x x P (AllAs_mem A.2 hx) rfl rfl rfl) _ (bH4 _)]
  rfl
end Go.D
