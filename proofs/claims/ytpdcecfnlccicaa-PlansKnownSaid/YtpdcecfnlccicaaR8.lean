/- Chapter 36 (rises), checking: the conditions hold.
  Conditions: none. -/
import Derived.Test.YtpdcecfnlccicaaR7
set_option linter.unusedVariables false
set_option linter.unusedSimpArgs false
namespace Go.C36
open Go Go.Xe Go.Sx
theorem chkF_cons (s : List Int) (x : Int) (l : List Int) : chkF s (x :: l)=if x < 0 then 1 else if x ∈ s then 8 else chkF (s ++ [x]) l:=by rw [chkF]
theorem chkF_nil (s : List Int) : chkF s []=0:=rfl
theorem atI_cons (y : Int) (l : List Int) (x : Int) : atI (y :: l) x=if y=x then 0 else (if atI l x < 0 then -1 else atI l x+1):=rfl
theorem atI_no : ∀ {l : List Int} {x : Int},x ∉ l→atI l x = -1
 | [],x,h=>rfl
 | y :: l,x,h=>by
  have ih:=atI_no (l:=l) (x:=x) (fun h' => h (by simp [h']))
  rw [atI_cons,if_neg (fun e=>h (by simp [e])),ih]; rfl
theorem atI_at : ∀ {l : List Int} {k : Nat} {x : Int},x ∉ l.take k→l[k]? = some x→atI l x=k
 | y :: l,0,x,h,hk=>by cases hk; rw [atI_cons,if_pos rfl]; rfl
 | y :: l,k+1,x,h,hk=>by
  have ih:=atI_at (l:=l) (k:=k) (x:=x) (fun h' => h (by simp [h'])) hk
  rw [atI_cons,if_neg (fun e=>h (by simp [e])),ih,if_neg (by omega)]; omega
 | [],k,x,h,hk=>by simp at hk
theorem vcCheck_ok : vcCheck:=by
 unfold vcCheck Nd
 rintro _ ⟨l,rfl,hl⟩
 simp only [checkRel,seenInv,seenMu,List.length_map,nums_map,need_twice,need_known,implies_true,and_true,true_and,true_implies]
 refine And.intro (fun h=>by omega) fun _=>And.intro ⟨by omega,by omega,fun x=>by simp [mgetR,Dat.toBool],rfl⟩ fun _ k M ⟨k0,k1,hm,hc⟩=>And.intro (fun hk => ?_) fun hk => ?_
 ·obtain ⟨x,hx⟩:=Sx.get_at (T:=l) (i:=k) k0 hk
  have e:=toNat_succ k0
  rw [Sx.drop_at hx,chkF_cons] at hc
  simp only [cellAt_map hx,row0,toInt_int]
  refine And.intro (by omega) fun _=>And.intro (by omega) fun _ => ?_
  refine And.intro (fun h0 => ?_) fun h0 => ?_
  ·rw [if_pos h0] at hc; exact hc
  ·rw [if_neg h0] at hc
   refine And.intro (fun h1 => ?_) fun h1 => ?_
   ·rw [hm,decide_eq_true_eq] at h1
    rw [if_pos h1] at hc; exact hc
   ·rw [hm,decide_eq_true_eq] at h1
    rw [if_neg h1] at hc
    have inv : ∀ y,(mgetR (mputR M [x] (.bool true)) [y] (.bool false)).toBool=decide (y ∈ l.take (k+1).toNat):=fun y=>by
     rw [mget_mput [x] [y] rfl,e,take_succ_at hx]
     by_cases hy : y=x
     ·rw [hy,if_pos rfl]; simp [Dat.toBool]
     ·rw [if_neg (fun c=>hy (List.cons.inj c).1),hm]; simp [hy]
    have cc : chkF (l.take (k+1).toNat) (l.drop (k+1).toNat)=chk l:=by rw [e,take_succ_at hx]; exact hc
    repeat' first
     | exact inv
     | exact cc
     | (with_reducible refine And.intro ?_ ?_)
     | intro _
     | omega
 ·rw [List.drop_of_length_le (by omega),chkF_nil] at hc; exact hc
end Go.C36
