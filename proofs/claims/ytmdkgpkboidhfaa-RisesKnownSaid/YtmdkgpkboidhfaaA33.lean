/- Chapter 08, carrying steps out: the condition of Carry holds.
  Conditions: none. -/
import Derived.Test.YtmdkgpkboidhfaaA32
set_option linter.unusedVariables false
set_option linter.unusedSimpArgs false
namespace Go.C08
open Go Go.Xe Go.Sx
structure CR (l : List Int) (ss : List Sp) (i : Int) (o : List Int) : Prop where
 chk0 : chk l=0
 len : ss.length≤4096
 l4 : l.length≤4096
 i0 : 0≤i
 i1 : i≤ss.length
 ol : o.length=l.length
 car : carL l (ss.take i.toNat)=(o,0)
section
variable {l o : List Int} {ss : List Sp} {i : Int} {s : Sp}
theorem CR.of (h0 : chk l=0) (hl : l.length≤4096) (hs : ss.length≤4096) {O : Sx.Rows} (h : caInv [.lst (l.map row), .lst (ss.map Sp.row)] [.int i, .lst O]) : ∃ o,O=o.map row∧CR l ss i o:=by
 simp only [caInv,nums_map,sps_map,List.length_map] at h
 obtain ⟨h1,h2,o,rfl,h3,h4⟩:=h
 exact ⟨o,rfl,h0,hs,hl,h1,h2,h3,h4⟩
theorem CR.inv (h : CR l ss i o) : caInv [.lst (l.map row), .lst (ss.map Sp.row)] [.int i, .lst (o.map row)]:=by
 simp only [caInv,nums_map,sps_map,List.length_map]
 exact ⟨h.i0,h.i1,o,rfl,h.ol,h.car⟩
theorem carry_rel (h0 : chk l=0) (hs : ss.length≤4096) {D : List Int} {e : Int} (h : carL l ss=(D,e)) : carryRel [.lst (l.map row), .lst (ss.map Sp.row)] [.lst (D.map row), .int e]:=by
 simp only [carryRel,nums_map,sps_map,carryL]
 rw [if_neg (by omega),if_neg (by omega),h]
 exact ⟨rfl,rfl⟩
theorem CR.err (h : CR l ss i o) (hs : ss[i.toNat]? = some s) {e : Int} (he : stepE o s=e) (hne : e ≠ 0) : carryRel [.lst (l.map row), .lst (ss.map Sp.row)] [.lst [], .int e]:=by
 have:=car_err h.car hs (by rw [he]; exact hne)
 rw [he] at this
 exact carry_rel (D:=[]) h.chk0 h.len this
theorem CR.fin (h : CR l ss i o) (hi : ¬ i < ss.length) : carryRel [.lst (l.map row), .lst (ss.map Sp.row)] [.lst (o.map row), .int 0]:=by
 have:=h.i1
 refine carry_rel h.chk0 h.len ?_
 rw [← h.car,List.take_of_length_le (by omega)]
theorem CR.next (h : CR l ss i o) (hs : ss[i.toNat]? = some s) (he : stepE o s=0) : CR l ss (i+1) (stepL o s):=by
 have:=(List.getElem?_eq_some_iff.1 hs).1
 have h0:=h.i0
 refine ⟨h.chk0,h.len,h.l4,by omega,by omega, ?_,car_next h.i0 h.car hs he⟩
 rw [(stepL_perm (stepE_0.1 he).1).length_eq,h.ol]
theorem ca_mu {A B : Dat} (h0 : 0≤i) (h1 : i < ss.length) : caMu [.lst (l.map row), .lst (ss.map Sp.row)] [.int (i+1),A] < caMu [.lst (l.map row), .lst (ss.map Sp.row)] [.int i,B]:=by
 simp only [caMu,List.length_map]; omega
theorem e11 (h : s.w ∉ o ∨ (s.a ≠ -1∧s.a ∉ o)) : stepE o s=11:=by unfold stepE; rw [if_pos h]
theorem e1 (h1 : s.w ∈ o) (h2 : s.a = -1 ∨ s.a ∈ o) (h3 : s.w=s.a) : stepE o s=1:=by
 unfold stepE
 rw [if_neg,if_pos h3]
 rintro (c | ⟨c,d⟩)
 ·exact c h1
 ·exact h2.elim c d
theorem ins_all {m : List Int} {w t n : Int} (h0 : 0≤t) (h1 : t≤m.length) (hn : n=m.length) : Sx.part ((Sx.part (m.map row) 0 t ++ Sx.chunk 1 1 [.int w]) ++ Sx.part (m.map row) t (n - t)) 0 (n+1)=(m.take t.toNat ++ w :: m.drop t.toNat).map row:=by
 rw [ins_rows w h0 h1 hn]
 exact part_all _ (by simp; omega)
theorem ins_len {m : List Int} {t n : Int} (h0 : 0≤t) (h1 : t≤m.length) (hn : n=m.length) : (((Sx.part (m.map row) 0 t).length : Int)+1)+((Sx.part (m.map row) t (n - t)).length : Int)=n+1:=by
 rw [part_take,part_drop m h0 (by omega)]
 simp
 omega
theorem del_len (h0 : 0≤i) (h1 : i < o.length) : ((Sx.part (o.map row) 0 i).length : Int)=i∧((Sx.part (o.map row) (i+1) ((o.length : Int) - (i+1))).length : Int)=(o.length : Int) - (i+1):=by
 rw [part_take,part_drop o (by omega) rfl]
 simp
 omega
theorem carry2 (h : CR l ss i []) (hi : i < ss.length) : vcCarry2 (l.map row) (ss.map Sp.row) i []:=by
 obtain ⟨s,hs,c0,c1⟩:=sp_at h.i0 hi
 have h0:=h.i0
 unfold vcCarry2 Nd
 simp only [nd_eq,c0,c1,List.length_map,List.length_nil]
 refine And.intro (by omega) (And.intro (by omega) (And.intro (ix_0 [] s.w) fun j hj => ?_))
 have hj0 : 0≤j:=by simp only [ixInv] at hj; exact hj.1
 exact And.intro (fun c=>absurd c (by omega)) fun _=>And.intro (h.err hs (e11 (.inl (by simp))) (by omega)) trivial
end
theorem vcCarry_ok : vcCarry:=by
 unfold vcCarry Nd
 rintro x0 x1 ⟨⟨l,rfl,hl⟩,ss,rfl⟩
 have hN : isN (l.map row):=⟨l,rfl,hl⟩
 simp only [nd_eq,checkPre,onePre,hN,checkRel,nums_map,forall_eq,List.length_map,true_and,true_implies,and_true]
 refine And.intro (fun h0=>And.intro (fun hs => ?_) fun hs b => ?_) fun h0 => ?_
 ·simp only [carryRel,nums_map,sps_map,carryL]
  rw [if_neg (by omega),if_pos (by omega)]
  exact ⟨rfl,rfl⟩
 ·have hss : ss.length≤4096:=by omega
  have C0 : CR l ss 0 l:=⟨h0,hss,hl,by omega,by omega,rfl,rfl⟩
  refine And.intro (fun _ hz => ?_) fun _=>And.intro (by omega) (And.intro (fun hpos => ?_) fun hz => ?_)
  ·have hl0 : l=[]:=List.eq_nil_of_length_eq_zero (by omega)
   subst hl0
   refine And.intro C0.inv fun i O hi => ?_
   obtain ⟨o,rfl,C⟩:=CR.of h0 hl hss hi
   have ho : o=[]:=List.eq_nil_of_length_eq_zero C.ol
   subst ho
   refine And.intro (fun hlt=>carry2 C hlt) fun hge => ?_
   unfold vcCarry3 Nd
   simp only [nd_eq,List.map_nil,List.length_nil]
   repeat' first
    | omega
    | trivial
    | (with_reducible refine And.intro ?_ ?_)
    | exact C.fin hge
  ·have hch : Sx.chunk 1 0 [] ++ l.map row=l.map row:=rfl
   simp only [hch]
   repeat (with_reducible refine And.intro (by omega) ?_)
   refine And.intro C0.inv fun i O hi => ?_
   obtain ⟨o,rfl,C⟩:=CR.of h0 hl hss hi
   have hol:=C.ol
   have i0:=C.i0
   refine And.intro (fun hlt => ?_) fun hge => ?_
   ·obtain ⟨s,hs,c0,c1⟩:=sp_at C.i0 hlt
    simp only [c0,c1,List.length_map]
    repeat (with_reducible refine And.intro (by omega) ?_)
    refine And.intro (ix_0 o s.w) fun j hj=>And.intro (fun hjl => ?_) fun hjl => ?_
    ·obtain ⟨y,hy,cy⟩:=row_at (o:=o) (k:=j) (by simp only [ixInv] at hj; exact hj.1) hjl
     have j0 : 0≤j:=by simp only [ixInv] at hj; exact hj.1
     rw [cy]
     repeat (with_reducible refine And.intro (by omega) ?_)
     refine And.intro (fun hw => ?_) fun hw => ?_
     ·subst hw
      obtain ⟨hwo,hix⟩:=ix_y hj hy
      refine And.intro (fun c=>absurd c (by omega)) fun _ => ?_
      repeat (with_reducible refine And.intro (by omega) ?_)
      have hM : Sx.part (o.map row) 0 j ++ Sx.part (o.map row) (j+1) ((o.length : Int) - (j+1))=(o.erase s.w).map row:=by
       have:=del_rows hy j0 hix
       rwa [List.length_map] at this
      obtain ⟨q1,q2⟩:=del_len j0 hjl
      have heL : ((o.erase s.w).length : Int)=o.length - 1:=by
       rw [List.length_erase,if_pos hwo]; omega
      simp only [hM,q1,q2]
      refine And.intro (fun ha => ?_) fun ha => ?_
      ·repeat (with_reducible refine And.intro (by omega) ?_)
       refine And.intro (fun hwa=>C.err hs (e1 hwo (.inl ha) hwa) (by omega)) fun hwa => ?_
       have he : stepE o s=0:=stepE_0.2 ⟨hwo, .inl ha,hwa⟩
       have C' := (C.next hs he).inv
       have hst : stepL o s=(o.erase s.w).take (j+((o.length : Int) - (j+1))).toNat ++ s.w :: (o.erase s.w).drop (j+((o.length : Int) - (j+1))).toNat:=by
        unfold stepL
        simp only
        rw [if_pos ha,show (j+((o.length : Int) - (j+1))).toNat=(o.erase s.w).length by omega]
       have hi1:=ins_all (m:=o.erase s.w) (w:=s.w) (t:=j+((o.length : Int) - (j+1))) (n:=j+((o.length : Int) - (j+1))) (by omega) (by omega) (by omega)
       have hi2:=ins_len (m:=o.erase s.w) (t:=j+((o.length : Int) - (j+1))) (n:=j+((o.length : Int) - (j+1))) (by omega) (by omega) (by omega)
       simp only [hi1,hi2,← hst]
       repeat' first
        | (with_reducible exact C')
        | (with_reducible exact ca_mu i0 hlt)
        | omega
        | (with_reducible refine And.intro ?_ ?_)
      ·repeat (with_reducible refine And.intro (by omega) ?_)
       refine And.intro (ix_0 o s.a) fun j2 hj2=>And.intro (fun h2l => ?_) fun h2l => ?_
       ·have j20 : 0≤j2:=by simp only [ixInv] at hj2; exact hj2.1
        obtain ⟨y2,hy2,cy2⟩:=row_at (o:=o) j20 h2l
        rw [cy2]
        repeat (with_reducible refine And.intro (by omega) ?_)
        refine And.intro (fun ca => ?_) fun ca => ?_
        ·have hao : s.a ∈ o:=by rw [ca]; exact List.mem_of_getElem? hy2
         repeat (with_reducible refine And.intro (by omega) ?_)
         refine fun _=>And.intro (fun hwa=>C.err hs (e1 hwo (.inr hao) hwa) (by omega)) fun hwa => ?_
         have he : stepE o s=0:=stepE_0.2 ⟨hwo, .inr hao,hwa⟩
         have C' := (C.next hs he).inv
         have hae : s.a ∈ o.erase s.w:=(List.mem_erase_of_ne (Ne.symm hwa)).2 hao
         repeat (with_reducible refine And.intro (by omega) ?_)
         refine And.intro (ix_0 _ s.a) fun j3 hj3=>And.intro (fun h3l => ?_) fun h3l => ?_
         ·have j30 : 0≤j3:=by simp only [ixInv] at hj3; exact hj3.1
          obtain ⟨y3,hy3,cy3⟩:=row_at (o:=o.erase s.w) j30 (by omega)
          rw [cy3]
          repeat (with_reducible refine And.intro (by omega) ?_)
          refine And.intro (fun c3 => ?_) fun c3 => ?_
          ·subst c3
           obtain ⟨_,hix3⟩:=ix_y hj3 hy3
           have hst : stepL o s=(o.erase s.w).take j3.toNat ++ s.w :: (o.erase s.w).drop j3.toNat:=by
            unfold stepL
            simp only
            rw [if_neg ha,hix3]
           have hi1:=ins_all (m:=o.erase s.w) (w:=s.w) (t:=j3) (n:=j+((o.length : Int) - (j+1))) (by omega) (by omega) (by omega)
           have hi2:=ins_len (m:=o.erase s.w) (t:=j3) (n:=j+((o.length : Int) - (j+1))) (by omega) (by omega) (by omega)
           simp only [hi1,hi2,← hst]
           repeat' first
            | (with_reducible exact C')
            | (with_reducible exact ca_mu i0 hlt)
            | omega
            | (with_reducible refine And.intro ?_ ?_)
          ·exact And.intro (by omega) (And.intro (ix_s hj3 hy3 c3) (ix_m j30 (by omega)))
         ·exact absurd hae (ix_n hj3 (by omega))
        ·unfold vcCarry0 Nd
         simp only [nd_eq,c1]
         exact And.intro (by omega) (And.intro (ix_s hj2 hy2 ca) (And.intro (ix_m j20 h2l) trivial))
       ·repeat (with_reducible refine And.intro (by omega) ?_)
        exact C.err hs (e11 (.inr ⟨ha,ix_n hj2 h2l⟩)) (by omega)
     ·unfold vcCarry1 Nd
      simp only [nd_eq,c0]
      exact And.intro (by omega) (And.intro (ix_s hj hy hw) (And.intro (ix_m j0 hjl) trivial))
    ·exact C.err hs (e11 (.inl (ix_n hj hjl))) (by omega)
   ·unfold vcCarry3 Nd
    simp only [nd_eq,List.length_map]
    repeat' first
     | omega
     | trivial
     | (with_reducible refine And.intro ?_ ?_)
     | exact C.fin hge
  ·have hl0 : l=[]:=List.eq_nil_of_length_eq_zero (by omega)
   subst hl0
   have hov : Sx.part (Sx.over (Sx.chunk 1 0 []) 0 (([] : List Int).map row)) 0 ((([] : List Int).length : Nat) : Int)=([] : List Int).map row:=rfl
   have hov2 : ((Sx.over (Sx.chunk 1 0 []) 0 (([] : List Int).map row)).length : Int)=0:=rfl
   simp only [hov,hov2]
   refine And.intro (by simp) (And.intro C0.inv fun i O hi => ?_)
   obtain ⟨o,rfl,C⟩:=CR.of h0 hl hss hi
   have ho : o=[]:=List.eq_nil_of_length_eq_zero C.ol
   subst ho
   refine And.intro (fun hlt=>carry2 C hlt) fun hge => ?_
   simp only [List.map_nil,List.length_nil]
   repeat' first
    | omega
    | trivial
    | (with_reducible refine And.intro ?_ ?_)
    | exact C.fin hge
 ·simp only [carryRel,nums_map,sps_map,carryL]
  rw [if_pos h0]
  exact ⟨rfl,rfl⟩
end Go.C08
