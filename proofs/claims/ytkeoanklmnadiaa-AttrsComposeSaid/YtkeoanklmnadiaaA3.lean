/- Chapter 13, strings: the conditions hold.
  Conditions: none. -/
import Derived.Test.YtkeoanklmnadiaaA2
set_option linter.unusedVariables false
set_option linter.unusedSimpArgs false
namespace Go.C13
open Go Go.Xe Go.Sx

theorem byte_at {s : Str} {k : Int} (h0 : 0 ≤ k) (h1 : k < (s.length : Int)) : ∃ b, s[k.toNat]? = some b ∧ byteAt s k = b.toNat := by
  obtain ⟨b, hb⟩ := Sx.get_at h0 h1
  refine ⟨b, hb, ?_⟩
  unfold byteAt
  rw [List.getD_eq_getElem?_getD, hb]; rfl

theorem all_bad {s : Str} {p : UInt8 → Bool} {k : Nat} {b : UInt8} (h : s[k]? = some b) (hb : p b = false) : s.all p = false := by
  cases ha : s.all p with
  | false => rfl
  | true => rw [List.all_eq_true] at ha; rw [ha b (List.mem_of_getElem? h)] at hb; cases hb

theorem all_step {s : Str} {p : UInt8 → Bool} {k : Int} {b : UInt8} (h : s[k.toNat]? = some b) (h0 : 0 ≤ k) (ha : (s.take k.toNat).all p = true) (hb : p b = true) : (s.take (k + 1).toNat).all p = true := by
  rw [toNat_succ h0, take_succ_at h, List.all_append, ha]
  simp [hb]

theorem nameB_of {b : UInt8} (h : (97 ≤ b.toNat ∧ b.toNat ≤ 122) ∨ (48 ≤ b.toNat ∧ b.toNat ≤ 57)) : nameB b = true := by
  unfold nameB; simp; exact h
theorem nameB_not {b : UInt8} (h : ¬ ((97 ≤ b.toNat ∧ b.toNat ≤ 122) ∨ (48 ≤ b.toNat ∧ b.toNat ≤ 57))) : nameB b = false := by
  cases hb : nameB b with
  | false => rfl
  | true => unfold nameB at hb; simp at hb; exact absurd hb h
theorem vName_all {s : Str} (h : s.all nameB = false) : vName s = false := by unfold vName; rw [h]; simp

theorem vName_len {s : Str} (h : s.length < 1 ∨ 16 < s.length) : vName s = false := by
  unfold vName
  rcases h with h | h
  · rw [decide_eq_false (by omega)]; rfl
  · rw [decide_eq_false (p := s.length ≤ 16) (by omega), Bool.and_false]; rfl
theorem vName_yes {s : Str} (h0 : 1 ≤ s.length) (h1 : s.length ≤ 16) (h : s.all nameB = true) : vName s = true := by
  unfold vName
  rw [decide_eq_true h0, decide_eq_true h1, h]; rfl
theorem take_all_of {s : Str} {p : UInt8 → Bool} {k : Int} (h : (s.take k.toNat).all p = true) (hk : (s.length : Int) ≤ k) : s.all p = true := by
  rwa [List.take_of_length_le (by omega)] at h

theorem vcNamed_ok : vcNamed := by
  unfold vcNamed Nd
  intro s hp
  simp only [namedRel, nmInv, nmMu, slMu, need_twice, need_known, implies_true, and_true, true_and, true_implies]
  refine And.intro (fun h => (vName_len (.inl (by omega))).symm) fun h => And.intro (fun h2 => (vName_len (.inr (by omega))).symm) fun h2 => And.intro ⟨by omega, by omega, rfl⟩ fun _ k ⟨k0, k1, k2⟩ => And.intro (fun hk => ?_) fun hk => ?_
  · obtain ⟨b, hb, eb⟩ := byte_at k0 hk
    rw [eb]
    repeat' first | (refine And.intro ?_ ?_) | intro _
    all_goals first | omega | exact (vName_all (all_bad hb (nameB_not (by omega)))).symm | exact all_step hb k0 k2 (nameB_of (by omega))
  · exact (vName_yes (by omega) (by omega) (take_all_of k2 (by omega))).symm

theorem vcRname_ok : vcRname := by
  unfold vcRname Nd
  intro s hp
  simp only [rnameRel, namedRel, nm17Inv, nm17Mu, slMu, need_twice, need_known, implies_true, and_true, true_and, true_implies]
  refine And.intro ⟨by omega, by omega, by omega, rfl⟩ fun _ k ⟨k0, k1, k3, k2⟩ => ?_
  have hend : ¬ (k < (s.length : Int) ∧ k < 17) → ∀ b : Bool, (b = true ↔ 1 ≤ (s.length : Int) ∧ (s.length : Int) ≤ 16) → b = vName s := fun h b hb => by
    by_cases h1 : 1 ≤ s.length ∧ s.length ≤ 16
    · rw [vName_yes h1.1 h1.2 (take_all_of k2 (by omega))]; exact hb.2 (by omega)
    · rw [vName_len (by omega)]
      cases b with
      | false => rfl
      | true => have := hb.1 rfl; omega
  refine And.intro (fun hk => And.intro (fun h17 => ?_) fun h17 => ?_) fun hk => ?_
  · obtain ⟨b, hb, eb⟩ := byte_at k0 hk
    rw [eb]
    repeat' first | (refine And.intro ?_ ?_) | intro _
    all_goals first | omega | exact (vName_all (all_bad hb (nameB_not (by omega)))).symm | exact all_step hb k0 k2 (nameB_of (by omega))
  all_goals
    repeat' first | (refine And.intro ?_ ?_) | intro _
    all_goals first | omega | exact hend (by omega) _ (by simp; omega)

theorem strB_of {b : UInt8} (h0 : 32 ≤ b.toNat) (h1 : b.toNat ≤ 126) : strB b = true := by unfold strB; rw [decide_eq_true h0, decide_eq_true h1]; rfl
theorem strB_not {b : UInt8} (h : b.toNat < 32 ∨ 126 < b.toNat) : strB b = false := by
  unfold strB
  rcases h with h | h
  · rw [decide_eq_false (by omega)]; rfl
  · rw [decide_eq_false (p := b.toNat ≤ 126) (by omega), Bool.and_false]
theorem vStr_all {s : Str} (h : s.all strB = false) : vStr s = false := by unfold vStr; rw [h]; simp
theorem vStr_len {s : Str} (h : 64 < s.length) : vStr s = false := by unfold vStr; rw [decide_eq_false (by omega)]; rfl
theorem vStr_yes {s : Str} (h1 : s.length ≤ 64) (h : s.all strB = true) : vStr s = true := by unfold vStr; rw [decide_eq_true h1, h]; rfl

theorem vcRstr_ok : vcRstr := by
  unfold vcRstr Nd
  intro s hp
  simp only [rstrRel, textRel, stInv, stMu, slMu, need_twice, need_known, implies_true, and_true, true_and, true_implies]
  refine And.intro (fun h => (vStr_len (by omega)).symm) fun h => And.intro ⟨by omega, by omega, rfl⟩ fun _ k ⟨k0, k1, k2⟩ => And.intro (fun hk => ?_) fun hk => (vStr_yes (by omega) (take_all_of k2 (by omega))).symm
  obtain ⟨b, hb, eb⟩ := byte_at k0 hk
  rw [eb]
  repeat' first | (refine And.intro ?_ ?_) | intro _
  all_goals first | omega | exact (vStr_all (all_bad hb (strB_not (by omega)))).symm | exact all_step hb k0 k2 (strB_of (by omega) (by omega))

theorem get_byte {s : Str} {k : Nat} {b : UInt8} (h : s[k]? = some b) : (⟨s.toArray⟩ : ByteArray).get! (k + 0) = b := by
  show s.toArray[k + 0]! = b
  simp [h]

/-- The rune at a place: a byte below 128 is one; any other is above 127. -/
theorem rune_small {s : Str} {k : Nat} {b : UInt8} (h : s[k]? = some b) (hb : b.toNat < 128) : runeAt s k = b.toNat ∧ runeW s k = 1 := by
  have hd : Utf8.decode ⟨s.toArray⟩ k = (b.toNat, 1) := by
    unfold Utf8.decode
    simp only [get_byte h]
    rw [if_pos hb]
  unfold runeAt runeW
  rw [Int.toNat_natCast, hd]
  exact ⟨rfl, rfl⟩
theorem rune_great {s : Str} {k : Nat} {b : UInt8} (h : s[k]? = some b) (hb : 128 ≤ b.toNat) : 128 ≤ runeAt s k := by
  have hd : 128 ≤ (Utf8.decode ⟨s.toArray⟩ k).1 := by
    unfold Utf8.decode
    simp only [get_byte h]
    rw [if_neg (by omega)]
    split
    · split
      · assumption
      · decide
    · split
      · split
        · rename_i h2
          simp only [Bool.and_eq_true, decide_eq_true_eq] at h2
          have := h2.1
          show 128 ≤ _
          omega
        · decide
      · split
        · split
          · rename_i h2
            simp only [Bool.and_eq_true, decide_eq_true_eq] at h2
            have := h2.1
            show 128 ≤ _
            omega
          · decide
        · decide
  unfold runeAt
  rw [Int.toNat_natCast]
  omega

theorem vcText_ok : vcText := by
  unfold vcText Nd
  intro s hp
  simp only [textRel, stInv, stMu, slMu, need_twice, need_known, implies_true, and_true, true_and, true_implies]
  refine And.intro (fun h => (vStr_len (by omega)).symm) fun h => And.intro ⟨by omega, by omega, rfl⟩ fun _ k ⟨k0, k1, k2⟩ => And.intro (fun hk => ?_) fun hk => ⟨h, fun _ => (vStr_yes (by omega) (take_all_of k2 (by omega))).symm⟩
  obtain ⟨b, hb, eb⟩ := byte_at k0 hk
  have e : ((k.toNat : Nat) : Int) = k := by omega
  have hd : decide (k < 0) = false := decide_eq_false (by omega)
  rw [hd]
  by_cases h128 : b.toNat < 128
  · obtain ⟨r1, r2⟩ := rune_small hb h128
    rw [e] at r1 r2
    rw [r1, r2]
    repeat' first | (refine And.intro ?_ ?_) | intro _
    all_goals first | omega | exact (vStr_all (all_bad hb (strB_not (by omega)))).symm | exact all_step hb k0 k2 (strB_of (by omega) (by omega))
  · have r1 := rune_great hb (by omega)
    rw [e] at r1
    repeat' first | (refine And.intro ?_ ?_) | intro _
    all_goals first | omega | exact (vStr_all (all_bad hb (strB_not (by omega)))).symm

theorem vcCmp_ok : vcCmp := by
  unfold vcCmp Nd
  intro a b hp
  simp only [cmpRel, need_twice, need_known, implies_true, and_true, true_and, true_implies, not_true_eq_false, false_implies]
  unfold cmpS lt
  refine And.intro (fun h => by rw [if_pos h]) fun h => And.intro (fun e => by rw [if_neg h, if_pos e]) fun e => by rw [if_neg h, if_neg e]

theorem chunk_one_at {l : List Dat} {i : Int} {d : Dat} (h : l[i.toNat]? = some d) : cellAt (chunk 1 l.length l) i 0 = d := by
  unfold cellAt
  rw [List.getD_eq_getElem?_getD (l := chunk _ _ _), chunk_one_get, h]; rfl
theorem names_at {i : Int} (h0 : 0 ≤ i) (h1 : i < 12) : (names.map Dat.str)[i.toNat]? = some (.str (nameOf i)) := by
  have : i.toNat < names.length := by show i.toNat < 12; omega
  unfold nameOf
  rw [List.getElem?_map, List.getD_eq_getElem?_getD, List.getElem?_eq_getElem this]; rfl
theorem vals_at {i : Int} (h0 : 0 ≤ i) (h1 : i < 256) : (values.map Dat.str)[(i.tmod 4).toNat]? = some (.str (valOf i)) := by
  have : (i.tmod 4).toNat < values.length := by
    have := Int.tmod_lt_of_pos i (show (0 : Int) < 4 by decide)
    show (i.tmod 4).toNat < 4; omega
  unfold valOf
  rw [List.getElem?_map, List.getD_eq_getElem?_getD, List.getElem?_eq_getElem this]; rfl

theorem vcNm_ok : vcNm := by
  unfold vcNm Nd
  intro i hp
  obtain ⟨h0, h1⟩ := hp
  have h := chunk_one_at (names_at h0 h1)
  refine ⟨by omega, fun _ => ⟨h1, fun _ => ⟨h1, fun _ => ⟨?_, fun _ => trivial⟩⟩⟩⟩
  show (cellAt (chunk 1 (names.map Dat.str).length (names.map Dat.str)) i 0).toStr = nameOf i
  rw [h]; rfl

theorem vcVal_ok : vcVal := by
  unfold vcVal Nd
  intro i hp
  obtain ⟨h0, h1⟩ := hp
  have h := chunk_one_at (vals_at h0 h1)
  have h2 := Int.tmod_lt_of_pos i (show (0 : Int) < 4 by decide)
  have h3 := Int.tmod_nonneg 4 h0
  refine ⟨by omega, fun _ => ⟨h2, fun _ => ⟨h2, fun _ => ⟨?_, fun _ => trivial⟩⟩⟩⟩
  show (cellAt (chunk 1 (values.map Dat.str).length (values.map Dat.str)) (i.tmod 4) 0).toStr = valOf i
  rw [h]; rfl

end Go.C13
