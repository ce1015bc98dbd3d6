/- Chapter 08, the conditions of RisesMoves and RisesFewest hold.
  Conditions: none. -/
import Derived.Test.YtmdkgpkboidhfaaA33
set_option linter.unusedVariables false
set_option linter.unusedSimpArgs false
namespace Go.C08
open Go Go.Xe Go.Sx
theorem chk_mk {l : List Int} (h1 : l.Nodup) (h2 : ∀ x ∈ l,0≤x) : chk l=0:=by
 have key : ∀ (l s : List Int),l.Nodup→(∀ x ∈ l,0≤x)→(∀ x ∈ l,x ∉ s)→chkF s l=0:=by
  intro l
  induction l with
  | nil=>intro s _ _ _; rfl
  | cons x l ih =>
   intro s hn h0 hs
   obtain ⟨n1,n2⟩:=List.nodup_cons.1 hn
   rw [chkF_cons,if_neg (by have:=h0 x (by simp); omega),if_neg (hs x (by simp))]
   refine ih _ n2 (fun y hy=>h0 y (by simp [hy])) fun y hy hc => ?_
   rcases List.mem_append.1 hc with hc | hc
   ·exact hs y (by simp [hy]) hc
   ·simp only [List.mem_singleton] at hc
    subst hc
    exact n1 hy
 exact key l [] h1 h2 (fun x _ h=>by simp at h)
theorem rest_ok {f : Int} (hf : 0≤f) : ∀ n : Nat,(restL f n).Nodup ∧ ∀ x ∈ restL f n,0≤x∧x < f+3 * (n : Int)
 | 0=>⟨List.nodup_nil,fun x h=>by simp [restL] at h⟩
 | n+1=>by
  obtain ⟨h1,h2⟩:=rest_ok hf n
  rw [restL]
  refine ⟨List.nodup_append.2 ⟨h1,by simp,fun a ha b hb => ?_⟩,fun x hx => ?_⟩
  ·simp only [List.mem_singleton] at hb
   have:=h2 a ha
   omega
  ·rcases List.mem_append.1 hx with hx | hx
   ·have:=h2 x hx; omega
   ·simp only [List.mem_singleton] at hx
    omega
theorem two_orders {n f : Int} {o m : List Int} (hn : 0≤n∧n < 256) (hf : 0≤f∧f < 256) (ho : o.Perm (restL f (n.tmod 41).toNat)) (hm : m.Perm (restL f (n.tmod 41).toNat)) : pairE o m=0∧o.length≤40∧m.length≤40:=by
 have t0:=Int.tmod_nonneg (a:=n) 41 hn.1
 have t1:=Int.tmod_lt_of_pos n (b:=41) (by omega)
 obtain ⟨r1,r2⟩:=rest_ok hf.1 (n.tmod 41).toNat
 have c1 : chk o=0:=chk_mk (ho.symm.nodup r1) (fun x hx=>(r2 x (ho.mem_iff.1 hx)).1)
 have c2 : chk m=0:=chk_mk (hm.symm.nodup r1) (fun x hx=>(r2 x (hm.mem_iff.1 hx)).1)
 have l1:=ho.length_eq
 have l2:=hm.length_eq
 rw [restL_len] at l1 l2
 refine ⟨?_,by omega,by omega⟩
 unfold pairE
 rw [if_pos c1,if_pos c2,if_pos ⟨by omega,fun x hx=>ho.mem_iff.2 (hm.mem_iff.1 hx)⟩]
theorem vcRmv_ok : vcRmv:=by
 unfold vcRmv Nd
 rintro n f A B hpre
 have hpre' : pofPre [.int n, .int f, .lst A, .lst B]:=hpre
 refine And.intro hpre' fun _ x4 x5 hx => ?_
 obtain ⟨⟨o,rfl,ho⟩,m,rfl,hm⟩:=hx
 obtain ⟨hp,lo,lm⟩:=two_orders hpre'.1 hpre'.2.1 ho hm
 obtain ⟨p1,p2,p3,p4⟩:=pair_0 hp
 have hL : isN (o.map row):=⟨o,rfl,by omega⟩
 have hM : isN (m.map row):=⟨m,rfl,by omega⟩
 have hrk : rkeptPre [.lst (o.map row), .lst (m.map row)]:=⟨⟨o,rfl,by omega⟩,⟨m,rfl,by omega⟩,by rw [nums_map,nums_map]; exact hp⟩
 have g3:=keptL_le o m
 have hQ : isN ((keptL o m).map row):=⟨_,rfl,by omega⟩
 have hsm : samePre [.lst ((keptL o m).map row), .int 0, .lst ((keptL o m).map row), .int 0]:=⟨hQ,hQ⟩
 have hsm2 : samePre [.lst (m.map row), .int 0, .lst (m.map row), .int 0]:=⟨hM,hM⟩
 have hml:=moves_len hp
 have hst : stepsPre [.lst ((movesL o m).map Sp.row), .int 0, .lst ((movesL o m).map Sp.row), .int 0]:=⟨⟨_,rfl⟩,_,rfl,by omega⟩
 have hst2 : stepsPre [.lst ([] : Sx.Rows), .int 0, .lst ([] : Sx.Rows), .int 0]:=⟨⟨[],rfl⟩,[],rfl,by simp⟩
 have hcp : carryPre [.lst (o.map row), .lst ((movesL o m).map Sp.row)]:=⟨hL,_,rfl⟩
 have hcm:=carry_moves hp (by omega)
 have hpp : pairE m m=0:=by unfold pairE; rw [if_pos p2,if_pos p2,if_pos ⟨rfl,fun x h=>h⟩]
 have hself:=moves_self p2
 have hlen : (((keptL o m).length : Int)+((movesL o m).length : Int)=(o.length : Int))=True:=eq_true (by omega)
 have hadd : (¬ (((keptL o m).length : Int)+((movesL o m).length : Int)) < (-9223372036854775808))∧(((keptL o m).length : Int)+((movesL o m).length : Int)) < 9223372036854775808:=by omega
 simp only [nd_eq,keptPre,twoPre,hL,hM,keptRel,movesPre,movesRel,hp,hpp,hself,if_true,hrk,rkeptRel,hsm,hsm2,sameRel,rmovesPre,rmovesRel,hst,hst2,stepsRel,hcp,carryRel,hcm,nums_map,sps_map,mv_same hp,List.length_map,List.map_nil,hlen,hadd,forall_eq,forall_eq2,
  and_self,decide_true,eq_self,Int.lt_irrefl,not_false_eq_true,not_true_eq_false,false_implies,true_and,true_implies,need_twice,need_known,implies_true,and_true,livesPre,livesRel,yesRel,rmvRel,trueRel]
 exact fun x h=>h
theorem carL_stop : ∀ {a b : List Sp} {l w : List Int} {f : Int},carL l a=(w,f)→f ≠ 0→w=[]∧carL l (a ++ b)=([],f)
 | [],b,l,w,f,h,hf=>by
  simp only [carL,Prod.mk.injEq] at h
  exact absurd h.2.symm hf
 | s :: a,b,l,w,f,h,hf=>by
  simp only [carL] at h
  rw [List.cons_append,carL]
  split at h
  ·rename_i h0
   rw [if_pos h0]
   exact carL_stop h hf
  ·rename_i h0
   simp only [Prod.mk.injEq] at h
   rw [if_neg h0,h.2]
   exact ⟨h.1.symm,rfl⟩
theorem rfe_0 {n f : Int} {A B : Sx.Rows} {ss : List Sp} {e : Int} : vcRfe0 n f A B (ss.map Sp.row) e [] e:=by
 unfold vcRfe0 Nd
 simp only [nd_eq,sameRel,rfeRel,trueRel,livesPre,livesRel,yesRel,and_self,decide_true,eq_self,true_and,true_implies,forall_eq,and_true,not_true_eq_false,false_implies,implies_true]
 exact fun b hb=>hb
theorem vcRfe_ok : vcRfe:=by
 unfold vcRfe Nd
 rintro n f A B S ⟨hpre,ss,rfl⟩
 simp only [nd_eq,rfeRel,trueRel,livesPre,livesRel,yesRel,true_and,List.length_map,and_true]
 refine And.intro (fun _ x h=>h) fun h20=>And.intro hpre fun x5 x6 hx => ?_
 obtain ⟨⟨o,rfl,ho⟩,m,rfl,hm⟩:=hx
 obtain ⟨hp,lo,lm⟩:=two_orders hpre.1 hpre.2.1 ho hm
 obtain ⟨p1,p2,p3,p4⟩:=pair_0 hp
 obtain ⟨hO,_,_,h0⟩:=pair_mem hp
 have hL : isN (o.map row):=⟨o,rfl,by omega⟩
 have hE : isN []:=⟨[],rfl,by simp⟩
 have hcp : carryPre [.lst (o.map row), .lst (ss.map Sp.row)]:=⟨hL,ss,rfl⟩
 have hcl : carryL o ss=carL o ss:=by unfold carryL; rw [if_neg (by omega),if_neg (by omega)]
 refine And.intro ?_ fun k e W hi => ?_
 ·simp only [rfInv,nums_map,sps_map,List.length_map]
  exact ⟨by omega,by omega,o,rfl,by omega, .inl trivial,rfl⟩
 have hi' := hi
 simp only [rfInv,nums_map,sps_map,List.length_map] at hi
 obtain ⟨k0,k1,w,rfl,hw,_,hc⟩:=hi
 rw [rcar_eq hO h0] at hc
 refine And.intro (fun hk => ?_) fun hk => ?_
 ·obtain ⟨s,hs,c0,c1⟩:=sp_at k0 hk
  repeat (with_reducible refine And.intro (by omega) ?_)
  refine And.intro (fun he => ?_) fun he => ?_
  ·subst he
   have hpw:=carL_perm hc
   have hW : isN (w.map row):=⟨w,rfl,by omega⟩
   repeat (with_reducible refine And.intro (by omega) ?_)
   simp only [c0,c1]
   refine And.intro hW fun D e2 hr => ?_
   simp only [rcarryRel,nums_map] at hr
   obtain ⟨rfl,rfl⟩:=hr
   have hwn : w.Nodup:=hpw.symm.nodup hO
   have hw0 : ∀ x ∈ w,0≤x:=fun x hx=>h0 x (hpw.mem_iff.1 hx)
   have hcar : carL o (ss.take (k+1).toNat)=(if stepE w ⟨s.w,s.a⟩=0 then rstepL w ⟨s.w,s.a⟩ else [],stepE w ⟨s.w,s.a⟩):=by
    rw [toNat_succ k0,List.take_add_one,hs,carL_app _ _ _ _ hc]
    simp only [Option.toList_some,carL]
    by_cases hz : stepE w s=0
    ·rw [if_pos hz,if_pos hz,rstep_eq hwn hw0 hz,hz]
    ·rw [if_neg hz,if_neg hz]
   refine And.intro (by omega) (And.intro (by omega) (And.intro ?_ ?_))
   ·simp only [rfInv,nums_map,sps_map,List.length_map]
    refine ⟨by omega,by omega,_,rfl, ?_, ?_, ?_⟩
    ·by_cases hz : stepE w s=0
     ·have:=stepL_perm (stepE_0.1 hz).1
      rw [if_pos hz,rstep_eq hwn hw0 hz,this.length_eq,hpw.length_eq]; omega
     ·rw [if_neg hz]; simp
    ·by_cases hz : stepE w s=0
     ·exact .inl hz
     ·exact .inr (.inr hz)
    ·rw [rcar_eq hO h0]; exact hcar
   ·simp only [rfMu,List.length_map]; omega
  ·obtain ⟨rfl,hst⟩:=carL_stop (b:=ss.drop k.toNat) hc he
   rw [List.take_append_drop] at hst
   simp only [hcp,carryRel,nums_map,sps_map,hcl,hst,forall_eq2,List.map_nil,true_and]
   exact And.intro he (And.intro ⟨hE,hE⟩ rfe_0)
 ·have htk : ss.take k.toNat=ss:=List.take_of_length_le (by omega)
  rw [htk] at hc
  repeat (with_reducible refine And.intro hk ?_)
  simp only [hcp,carryRel,nums_map,sps_map,hcl,hc,forall_eq2,true_and]
  refine And.intro (fun he => ?_) fun he => ?_
  ·subst he
   have hpw:=carL_perm hc
   have hl:=hpw.length_eq
   have hW : isN (w.map row):=⟨w,rfl,by omega⟩
   have hcw : chk w=0:=chk_mk (hpw.symm.nodup hO) (fun x hx=>h0 x (hpw.mem_iff.1 hx))
   have hpp : pairE o w=0:=by unfold pairE; rw [if_pos p1,if_pos hcw,if_pos ⟨hl.symm,fun x hx=>hpw.mem_iff.1 hx⟩]
   have hf:=fewest hpp hc
   have hmv : movesPre [.lst (o.map row), .lst (w.map row)]:=⟨hL,hW⟩
   have hsm : samePre [.lst (w.map row), .int 0, .lst (w.map row), .int 0]:=⟨hW,hW⟩
   have hno : ((ss.length : Int) < ((movesL o w).length : Int))=False:=eq_false (by omega)
   simp only [hmv,movesRel,nums_map,hpp,if_true,forall_eq2,hsm,sameRel,forall_eq,and_self,decide_true,List.length_map,hno,eq_self,true_and,true_implies,not_true_eq_false,not_false_eq_true,false_implies,implies_true,and_true]
   exact fun x h=>h
  ·obtain ⟨rfl,_⟩:=carL_stop (b:=[]) hc he
   exact And.intro ⟨hE,hE⟩ rfe_0
end Go.C08
