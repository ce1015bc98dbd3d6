/- Chapter 36 (rises), what is kept of two orders: the conditions hold.
  Conditions: none. -/
import Derived.Test.YtpdcecfnlccicaaR9
set_option linter.unusedVariables false
set_option linter.unusedSimpArgs false
namespace Go.C36
open Go Go.Xe Go.Sx
theorem forall_eq2 {α β : Sort _} {a : α} {b : β} {p : α→β→Prop} : (∀ x y,x=a∧y=b→p x y) ↔ p a b :=
 ⟨fun h=>h _ _ ⟨rfl,rfl⟩,fun h x y ⟨e,f⟩=>by subst e; subst f; exact h⟩
theorem chkF_nodup : ∀ {l s : List Int} {k : Nat} {x : Int},chkF s l=0→l[k]? = some x→x ∉ s∧x ∉ l.take k
 | y :: l,s,0,x,h,hk=>by
  cases hk
  rw [chkF_cons] at h
  split at h
  ·omega
  ·split at h
   ·omega
   ·rename_i h1; exact ⟨h1,by simp⟩
 | y :: l,s,k+1,x,h,hk=>by
  rw [chkF_cons] at h
  split at h
  ·omega
  ·split at h
   ·omega
   ·obtain ⟨h1,h2⟩:=chkF_nodup (l:=l) (k:=k) (x:=x) h hk
    refine ⟨fun c=>h1 (by simp [c]),fun c => ?_⟩
    rcases List.mem_cons.1 c with c | c
    ·exact h1 (by simp [c])
    ·exact h2 c
 | [],s,k,x,h,hk=>by simp at hk
theorem mhas_mput (k x : List Int) (h : k.length=x.length) (v : Dat) : ∀ M : Sx.Rows,mhasR (mputR M k v) x=(decide (x=k) || mhasR M x)
 | []=>by
  unfold mputR mhasR
  rw [keyR_mk h]
  by_cases e : x=k
  ·subst e; simp [mhasR]
  ·simp [mhasR,e,show ¬ k=x from fun c=>e c.symm]
 | r :: M=>by
  unfold mputR
  by_cases hr : keyR k.length r=k
  ·rw [if_pos hr]
   unfold mhasR
   rw [keyR_mk h,← h,hr]
   by_cases e : x=k
   ·subst e; simp
   ·simp [e,show ¬ k=x from fun c=>e c.symm]
  ·rw [if_neg hr]
   unfold mhasR
   rw [mhas_mput k x h v M]
   by_cases e : x=k
   ·simp [e]
   ·simp [e]
theorem vcKepti_ok : vcKepti:=by
 unfold vcKepti Nd
 rintro _ _ ⟨⟨l,rfl,hl⟩,⟨m,rfl,hm⟩⟩
 have hL : isN (l.map row):=⟨l,rfl,hl⟩
 have hM : isN (m.map row):=⟨m,rfl,hm⟩
 simp only [checkPre,onePre,checkRel,keptiRel,plInv,plMu,longRel,hL,hM,forall_eq,forall_eq2,List.length_map,nums_map,need_twice,need_known,implies_true,and_true,true_and,true_implies]
 refine And.intro (fun hc1=>And.intro (fun hc2 => ?_) fun hc2 => ?_) fun hc1 => ?_
 ·refine And.intro ⟨by omega,by omega,fun x=>⟨by simp [mhasR],by simp⟩⟩ fun _ k M ⟨k0,k1,hM'⟩=>And.intro (fun hk => ?_) fun hk => ?_
  ·obtain ⟨x,hx⟩:=Sx.get_at (T:=l) (i:=k) k0 hk
   have e:=toNat_succ k0
   have hnd:=(chkF_nodup (s:=[]) hc1 hx).2
   simp only [cellAt_map hx,row0,toInt_int]
   have inv : ∀ y,mhasR (mputR M [x] (.int k)) [y]=decide (y ∈ l.take (k+1).toNat)∧(y ∈ l.take (k+1).toNat→mgetR (mputR M [x] (.int k)) [y] (.int 0) = .int (atI l y)):=fun y=>by
    rw [mhas_mput [x] [y] rfl,mget_mput [x] [y] rfl,e,take_succ_at hx]
    by_cases hy : y=x
    ·subst hy
     refine ⟨by simp,fun _ => ?_⟩
     rw [if_pos rfl,atI_at hnd hx]
     congr 1; omega
    ·rw [if_neg (fun c=>hy (List.cons.inj c).1),(hM' y).1]
     refine ⟨by simp [hy],fun h=>(hM' y).2 ?_⟩
     rcases List.mem_append.1 h with h | h
     ·exact h
     ·simp at h; exact absurd h hy
   repeat' first
    | exact inv
    | (with_reducible refine And.intro ?_ ?_)
    | intro _
    | omega
  ·have hkl : l.take k.toNat=l:=List.take_of_length_le (by omega)
   rw [hkl] at hM'
   have hs : Sx.part ((List.replicate m.length 0).map row) 0 m.length=(List.replicate m.length 0).map row:=part_row (by simp)
   simp only [rep_row,List.length_map,List.length_replicate,Int.toNat_natCast,hs,orInv,orMu,nums_map,Int.lt_irrefl,not_false_eq_true,true_and,true_implies]
   repeat (refine And.intro (by omega) fun _ => ?_)
   refine And.intro ⟨by omega,by omega,(by intro h; first | exact h.elim | omega),by simp,_,rfl,by simp,by simp [ordOf]⟩ fun _ j O ⟨j0,j1,jl,jm,o,hO,ol,ot⟩ => ?_
   subst hO
   simp only [List.length_map]
   have e16 : (¬ l.length=m.length ∨ ∃ x ∈ m,x ∉ l)→pairE l m=16:=fun h=>by
    unfold pairE
    rw [if_pos hc1,if_pos hc2,if_neg]
    rintro ⟨h1,h2⟩
    rcases h with h | ⟨x,h3,h4⟩
    ·exact h h1
    ·exact h4 (h2 x h3)
   have f16 : (¬ l.length=m.length ∨ ∃ x ∈ m,x ∉ l)→([] : Sx.Rows)=(if pairE l m=0 then lis (ordOf l m) else []).map row∧16=pairE l m:=fun h=>by rw [e16 h]; exact ⟨rfl,rfl⟩
   refine And.intro (fun hj => ?_) fun hj => ?_
   ·obtain ⟨y,hy⟩:=Sx.get_at (T:=m) (i:=j) j0 hj
    have e:=toNat_succ j0
    simp only [cellAt_map hy,row0,toInt_int,(hM' y).1,decide_eq_true_eq,over_row]
    refine And.intro (by omega) fun _=>And.intro (by omega) fun _=>And.intro (fun hin => ?_) fun hin => ?_
    ·have hg:=(hM' y).2 hin
     simp only [hg,toInt_int,true_and,true_implies,hin]
     refine And.intro (fun hlen => ?_) fun hlen => ?_
     ·have hjo : j.toNat < o.length:=by omega
      have so : Sx.part ((setN o j.toNat (atI l y)).map row) 0 o.length=(setN o j.toNat (atI l y)).map row:=part_row (by rw [setN_len hjo])
      have sl : ((setN o j.toNat (atI l y)).map row).length=o.length:=by rw [List.length_map,setN_len hjo]
      rw [so]
      simp only [sl]
      have inv : ∃ o' : List Int,(setN o j.toNat (atI l y)).map row=o'.map row∧o'.length=m.length∧o'.take (j+1).toNat=ordOf l (m.take (j+1).toNat):=by
       refine ⟨_,rfl,by rw [setN_len hjo]; exact ol, ?_⟩
       have hg' : (setN o j.toNat (atI l y))[j.toNat]? = some (atI l y):=by rw [setN_get (by omega),if_pos rfl]
       have ht : (setN o j.toNat (atI l y)).take j.toNat=o.take j.toNat:=by
        unfold setN
        rw [List.take_left' (by rw [List.length_take]; omega)]
       rw [e,take_succ_at hg',take_succ_at hy,ht,ot]
       unfold ordOf
       rw [List.map_append]; rfl
      have mem : ∀ x ∈ m.take (j+1).toNat,x ∈ l:=fun x hx=>by
       rw [e,take_succ_at hy] at hx
       rcases List.mem_append.1 hx with hx | hx
       ·exact jm x hx
       ·simp at hx; rw [hx]; exact hin
      have hl2 : 0 < j+1→l.length=m.length:=fun _=>by omega
      have hl3 : 0 < j+1→(l.length : Int)=m.length:=fun _=>hlen
      repeat' first
       | exact inv
       | exact mem
       | (with_reducible refine And.intro ?_ ?_)
       | intro _
       | omega
     ·exact f16 (.inl (by omega))
    ·have:=f16 (.inr ⟨y,List.mem_of_getElem? hy,hin⟩)
     repeat' first
      | exact this
      | (with_reducible refine And.intro ?_ ?_)
      | exact hin
      | intro _
   ·rw [List.take_of_length_le (l:=m) (by omega)] at jm ot
    rw [List.take_of_length_le (by omega)] at ot
    refine And.intro (fun hlen => ?_) fun hlen=>f16 (.inl (by omega))
    have e0 : pairE l m=0:=by
     unfold pairE
     rw [if_pos hc1,if_pos hc2,if_pos ⟨by omega,jm⟩]
    have hP : isN (o.map row):=⟨o,rfl,by omega⟩
    rw [e0,ot]
    rw [ot] at hP
    simp only [longPre,onePre,hP,nums_map,if_true,Int.lt_irrefl,not_false_eq_true,true_and,true_implies,and_self,implies_true]
 ·have e0 : pairE l m=chk m:=by unfold pairE; rw [if_pos hc1,if_neg hc2]
  rw [e0,if_neg hc2]; exact ⟨rfl,rfl⟩
 ·have e0 : pairE l m=chk l:=by unfold pairE; rw [if_neg hc1]
  rw [e0,if_neg hc1]; exact ⟨rfl,rfl⟩
end Go.C36
