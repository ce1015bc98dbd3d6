/- Chapter 08, RisesKnown: the conditions hold.
  Conditions: none. -/
import Derived.Test.YtmdkgpkboidhfaaA38
import Derived.Test.YtmdkgpkboidhfaaA39
set_option linter.unusedVariables false
set_option linter.unusedSimpArgs false
namespace Go.C08
open Go Go.Xe Go.Sx
theorem vcLongx_ok : vcLongx:=by
 unfold vcLongx
 rintro x0 ⟨l,rfl⟩
 by_cases h : 4096 < ((l.map row).length : Int)
 ·refine ⟨fun _ => ?_,fun c=>absurd h c⟩
  have : longxRel [.lst (l.map row)] [.lst [], .int 3]:=by
   simp only [longxRel,if_pos h,List.map_nil,and_self]
  exact ⟨this,fun _=>trivial⟩
 ·refine ⟨fun c=>absurd c h,fun _ => ?_⟩
  have e : ∀ D n,longxRel [.lst (l.map row)] [.lst D, .int n]=longRel [.lst (l.map row)] [.lst D, .int n]:=fun D n=>by simp only [longxRel,if_neg h,longRel]
  have:=(vcLong_ok (l.map row) ⟨l,rfl,by rw [List.length_map] at h; omega⟩).2 h
  simp only [e,eq_self] at this ⊢
  exact this
theorem vcCheckx_ok : vcCheckx:=by
 unfold vcCheckx
 rintro x0 ⟨l,rfl⟩
 by_cases h : 4096 < ((l.map row).length : Int)
 ·refine ⟨fun _ => ?_,fun c=>absurd h c⟩
  have : checkxRel [.lst (l.map row)] [.int 3]:=by
   simp only [checkxRel,if_pos h]
  exact ⟨this,fun _=>trivial⟩
 ·refine ⟨fun c=>absurd c h,fun _ => ?_⟩
  have e : ∀ n,checkxRel [.lst (l.map row)] [.int n]=checkRel [.lst (l.map row)] [.int n]:=fun n=>by simp only [checkxRel,if_neg h,checkRel]
  have:=(vcCheck_ok (l.map row) ⟨l,rfl,by rw [List.length_map] at h; omega⟩).2 h
  simp only [e,eq_self] at this ⊢
  exact this
theorem ka_0 : kaInv [] [.lst (List.replicate (4097 : Int).toNat [.int 0]), .lst (List.replicate (4097 : Int).toNat [.int 0]), .int 0]:=by
 generalize hn : (4097 : Int).toNat=n
 have hn' : n=4097:=by omega
 refine ⟨by omega,by omega,List.replicate n 0,List.replicate n 0,rep_row n,rep_row n, ?_, ?_,fun i hi=>by omega⟩
 ·rw [List.length_replicate]; exact hn'
 ·rw [List.length_replicate]; exact hn'
theorem kb_0 : kbInv [] [.lst (List.replicate (4096 : Int).toNat [.int 0]), .int 0]:=by
 generalize hn : (4096 : Int).toNat=n
 have hn' : n=4096:=by omega
 refine ⟨by omega,by omega,List.replicate n 0,rep_row n, ?_,fun i hi=>by omega⟩
 rw [List.length_replicate]; exact hn'
theorem kc_0 : kcInv [] [.lst (List.replicate (4097 : Int).toNat [.int 0, .int 0]), .int 0]:=by
 generalize hn : (4097 : Int).toNat=n
 have hn' : n=4097:=by omega
 refine ⟨by omega,by omega,List.replicate n ⟨0,0⟩,by rw [List.map_replicate]; rfl, ?_,fun i hi=>by omega⟩
 rw [List.length_replicate]; exact hn'
theorem set_more {α : Type} {l : List α} {g : Nat→α} {k : Int} (h0 : 0≤k) (h1 : k < l.length) (h : ∀ i : Nat,(i : Int) < k→l[i]? = some (g i)) {x : α} (hx : x=g k.toNat) : ∀ i : Nat,(i : Int) < k+1→(l.set k.toNat x)[i]? = some (g i):=by
 intro i hi
 rw [List.getElem?_set]
 by_cases c : k.toNat=i
 ·subst c; rw [if_pos rfl,if_pos (by omega),hx]
 ·rw [if_neg c]; exact h i (by omega)
theorem all_set {α : Type} {l m : List α} {g : Nat→α} {k : Int} (hk : k=l.length) (hm : m.length=l.length) (h : ∀ i : Nat,(i : Int) < k→l[i]? = some (g i)) (h' : ∀ i : Nat,(i : Int) < k→m[i]? = some (g i)) : l=m:=by
 refine List.ext_getElem? fun i => ?_
 by_cases c : (i : Int) < k
 ·rw [h i c,h' i c]
 ·rw [List.getElem?_eq_none (by omega),List.getElem?_eq_none (by omega)]
theorem longx_le {l o : List Int} (hl : l.length≤4096) (h : lis l=o) {D : Sx.Rows} {e : Int} : longxRel [.lst (l.map row)] [.lst D, .int e] ↔ D=o.map row∧e=0:=by
 have : ¬ 4096 < ((l.map row).length : Int):=by rw [List.length_map]; omega
 simp only [longxRel,if_neg this,nums_map,h]
theorem longx_gt {l : List Int} (hl : 4096 < l.length) {D : Sx.Rows} {e : Int} : longxRel [.lst (l.map row)] [.lst D, .int e] ↔ D=[]∧e=3:=by
 have : 4096 < ((l.map row).length : Int):=by rw [List.length_map]; omega
 simp only [longxRel,if_pos this,List.map_nil]
theorem checkx_gt {l : List Int} (hl : 4096 < l.length) {e : Int} : checkxRel [.lst (l.map row)] [.int e] ↔ e=3:=by
 have : 4096 < ((l.map row).length : Int):=by rw [List.length_map]; omega
 simp only [checkxRel,if_pos this]
theorem moves_0 {l m : List Int} (h : pairE l m=0) {D : Sx.Rows} {e : Int} : movesRel [.lst (l.map row), .lst (m.map row)] [.lst D, .int e] ↔ D=(movesL l m).map Sp.row∧e=0:=by
 simp only [movesRel,nums_map,h,if_true]
theorem carry_to {l o : List Int} {s : List Sp} {f : Int} (h : carryL l s=(o,f)) {D : Sx.Rows} {e : Int} : carryRel [.lst (l.map row), .lst (s.map Sp.row)] [.lst D, .int e] ↔ D=o.map row∧e=f:=by
 simp only [carryRel,nums_map,sps_map,h]
theorem same_yes {l : List Int} {b : Bool} : sameRel [.lst (l.map row), .int 0, .lst (l.map row), .int 0] [.bool b] ↔ b=true:=by
 simp only [sameRel,and_self,decide_true]
theorem isN_of {l : List Int} (h : l.length≤4096) : isN (l.map row):=⟨l,rfl,h⟩
set_option maxRecDepth 100000 in
theorem vcKn_ok : vcKn:=by
 unfold vcKn Nd
 simp only [nd_eq,and_true]
 refine fun _=>⟨ka_0,fun x0 x1 x2 hi=>⟨fun h => ?_,fun h=>⟨kb_0,fun x3 x4 hj=>⟨fun h' => ?_,fun h' => ?_⟩⟩⟩⟩
 ·obtain ⟨k0,k1,a,b,rfl,rfl,la,lb,hab⟩:=hi
  have sa : Sx.setAt (a.map row) x2 0 (.int x2)=(a.set x2.toNat x2).map row:=setAt_row k0 (by omega)
  have sb : Sx.setAt (b.map row) x2 0 (.int (4097 - x2))=(b.set x2.toNat (4097 - x2)).map row:=setAt_row k0 (by omega)
  simp only [sa,sb,List.length_map]
  have ga:=set_more (g:=fun i : Nat=>(i : Int)) (x:=x2) k0 (by omega) (fun i hi=>(hab i hi).1) (by show x2=(x2.toNat : Int); omega)
  have gb:=set_more (g:=fun i : Nat=>(4097 : Int) - i) (x:=4097 - x2) k0 (by omega) (fun i hi=>(hab i hi).2) (by show 4097 - x2=4097 - (x2.toNat : Int); omega)
  have hinv : kaInv [] [.lst ((a.set x2.toNat x2).map row), .lst ((b.set x2.toNat (4097 - x2)).map row), .int (x2+1)]:=⟨by omega,by omega,_,_,rfl,rfl,by rw [List.length_set]; exact la,by rw [List.length_set]; exact lb,fun i hi=>⟨ga i hi,gb i hi⟩⟩
  have hmu : ∀ A B C D,kaMu [] [A,B, .int (x2+1)] < kaMu [] [C,D, .int x2]:=fun A B C D=>by
   simp only [kaMu]; omega
  refine ⟨by omega,h,by omega,⟨by omega,by omega⟩,by omega,h,by omega,⟨by omega,by omega⟩,hinv,hmu _ _ _ _⟩
 ·obtain ⟨k0,k1,a,rfl,la,ha⟩:=hj
  have t0:=Int.tmod_nonneg (a:=x4+1000) 4096 (by omega)
  have sa : Sx.setAt (a.map row) x4 0 (.int ((x4+1000).tmod 4096))=(a.set x4.toNat ((x4+1000).tmod 4096)).map row:=setAt_row k0 (by omega)
  simp only [sa,List.length_map]
  have ga:=set_more (g:=fun i : Nat=>((i : Int)+1000).tmod 4096) (x:=(x4+1000).tmod 4096) k0 (by omega) ha (by show _=((x4.toNat : Int)+1000).tmod 4096; rw [Int.toNat_of_nonneg k0])
  have hinv : kbInv [] [.lst ((a.set x4.toNat ((x4+1000).tmod 4096)).map row), .int (x4+1)]:=⟨by omega,by omega,_,rfl,by rw [List.length_set]; exact la,ga⟩
  have hmu : ∀ A C,kbMu [] [A, .int (x4+1)] < kbMu [] [C, .int x4]:=fun A C=>by
   simp only [kbMu]; omega
  exact ⟨⟨by omega,by omega⟩,by omega,h',by omega,⟨by omega,by omega⟩,hinv,hmu _ _⟩
 ·obtain ⟨k0,k1,a,b,rfl,rfl,la,lb,hab⟩:=hi
  obtain ⟨j0,j1,c,rfl,lc,hc⟩:=hj
  obtain ⟨n,hn⟩ : ∃ n : Nat,n=3096:=⟨_,rfl⟩
  obtain ⟨m,hm⟩ : ∃ m : Nat,m=1000:=⟨_,rfl⟩
  have ea : a=asc 0 (n+m+1):=all_set (g:=fun i : Nat=>(i : Int)) (k:=x2) (by omega) (by rw [asc_len]; omega) (fun i hi=>(hab i hi).1) fun i hi=>by rw [asc_get,if_pos (by omega)]; congr 1; omega
  have eb : b=dwn 4097 (n+m+1):=all_set (g:=fun i : Nat=>(4097 : Int) - i) (k:=x2) (by omega) (by rw [dwn_len]; omega) (fun i hi=>(hab i hi).2) fun i hi=>by rw [dwn_get,if_pos (by omega)]
  have ec : c=trn m n:=all_set (g:=fun i : Nat=>((i : Int)+1000).tmod 4096) (k:=x4) (by omega) (by rw [trn_len]; omega) hc fun i hi=>by
   unfold trn
   rw [Int.tmod_eq_emod_of_nonneg (by omega)]
   by_cases ci : i < n
   ·rw [List.getElem?_append_left (by rw [asc_len]; exact ci),asc_get,if_pos ci]; congr 1; omega
   ·rw [List.getElem?_append_right (by rw [asc_len]; omega),asc_len,asc_get,if_pos (by omega)]; congr 1; omega
  subst ea eb ec
  clear hab hc k0 k1 j0 j1 h h' la lb lc
  have u4 : Sx.part ((asc 0 (n+m+1)).map row) 0 4096=(asc 0 (n+m)).map row:=by rw [part_take,show (4096 : Int).toNat=n+m by omega,asc_take]
  have u5 : Sx.part ((asc 0 (n+m+1)).map row) 0 4097=(asc 0 (n+m+1)).map row:=part_all _ (by rw [List.length_map,asc_len]; omega)
  have d4 : Sx.part ((dwn 4097 (n+m+1)).map row) 0 4096=(dwn 4097 (n+m)).map row:=by rw [part_take,show (4096 : Int).toNat=n+m by omega,dwn_take]
  have t4 : Sx.part ((trn m n).map row) 0 4096=(trn m n).map row:=part_all _ (by rw [List.length_map,trn_len]; omega)
  have lu4 : (asc 0 (n+m)).length≤4096:=by rw [asc_len]; omega
  have lu5 : 4096 < (asc 0 (n+m+1)).length:=by rw [asc_len]; omega
  have ld4 : (dwn 4097 (n+m)).length≤4096:=by rw [dwn_len]; omega
  have lt4 : (trn m n).length≤4096:=by rw [trn_len]; omega
  have g5 : ∀ D e,longxRel [.lst ((asc 0 (n+m)).map row)] [.lst D, .int e] ↔ D=(asc 0 (n+m)).map row∧e=0:=fun D e=>longx_le lu4 (lis_up 0 (n+m))
  have g7 : ∀ D e,longxRel [.lst ((dwn 4097 (n+m)).map row)] [.lst D, .int e] ↔ D=[0].map row∧e=0:=fun D e=>longx_le ld4 (by
   obtain ⟨j,hj⟩ : ∃ j,n+m=j+1:=⟨n+m - 1,by omega⟩
   rw [hj]; exact lis_dwn _ _)
  have g9 : ∀ D e,longxRel [.lst ((asc 0 (n+m+1)).map row)] [.lst D, .int e] ↔ D=[]∧e=3:=fun D e=>longx_gt lu5
  have g11 : ∀ D e,longxRel [.lst ((trn m n).map row)] [.lst D, .int e] ↔ D=(asc 0 n).map row∧e=0:=fun D e=>longx_le lt4 (lis_turned (by omega) (Int.le_refl _))
  have p5 : ∀ l : List Int,longxPre [.lst (l.map row)]:=fun l=>⟨l,rfl⟩
  have p6 : ∀ l : List Int,checkxPre [.lst (l.map row)]:=fun l=>⟨l,rfl⟩
  have g13 : ∀ e,checkxRel [.lst ((asc 0 (n+m+1)).map row)] [.int e] ↔ e=3:=fun e=>checkx_gt lu5
  have hp:=pair_trn m n
  obtain ⟨s1,s2,s3⟩:=moves_trn (m:=m) (n:=n) (by omega) (by omega)
  have hcar:=carry_moves hp lu4
  have gm : ∀ D e,movesRel [.lst ((asc 0 (n+m)).map row), .lst ((trn m n).map row)] [.lst D, .int e] ↔ D=(movesL (asc 0 (n+m)) (trn m n)).map Sp.row∧e=0:=fun D e=>moves_0 hp
  have pm : movesPre [.lst ((asc 0 (n+m)).map row), .lst ((trn m n).map row)]:=⟨isN_of lu4,isN_of lt4⟩
  generalize hS : movesL (asc 0 (n+m)) (trn m n)=S at *
  have c0 : (Sx.cellAt (S.map Sp.row) 0 0).toInt=(m : Int) - 1:=by rw [cellAt_map (i:=0) s2]; rfl
  have c1 : (Sx.cellAt (S.map Sp.row) 0 1).toInt = -1:=by rw [cellAt_map (i:=0) s2]; rfl
  have s3' : S[(999 : Int).toNat]? = some ⟨0,1⟩:=by rw [← s3]; congr 1; omega
  have c2 : (Sx.cellAt (S.map Sp.row) 999 0).toInt=0:=by rw [cellAt_map s3']; rfl
  have c3 : (Sx.cellAt (S.map Sp.row) 999 1).toInt=1:=by rw [cellAt_map s3']; rfl
  have gc : ∀ D e,carryRel [.lst ((asc 0 (n+m)).map row), .lst (S.map Sp.row)] [.lst D, .int e] ↔ D=(trn m n).map row∧e=0:=fun D e=>carry_to hcar
  have pc : carryPre [.lst ((asc 0 (n+m)).map row), .lst (S.map Sp.row)]:=⟨isN_of lu4,S,rfl⟩
  have a0 : (Sx.cellAt ((asc 0 n).map row) 0 0).toInt=0:=by rw [cellAt_map (i:=0) (s:=0) (by rw [asc_get,if_pos (by omega)]; rfl)]; rfl
  have b0 : (Sx.cellAt ([(0 : Int)].map row) 0 0).toInt=0:=rfl
  have one : Sx.chunk 1 1 [.int 1]=[(1 : Int)].map row:=rfl
  have two : Sx.chunk 1 2 [.int 1, .int 1]=[(1 : Int),1].map row:=rfl
  have k4 : ((n+m : Nat) : Int)=4096:=by omega
  have k5 : ((n+m+1 : Nat) : Int)=4097:=by omega
  have kn : (n : Int)=3096:=by omega
  have km : (m : Int)=1000:=by omega
  have k1 : ((1 : Nat) : Int)=1:=rfl
  simp only [u4,u5,d4,t4,g5,g7,g9,g11,p5,p6,g13,gm,pm,gc,pc,c0,c1,c2,c3,a0,b0,forall_eq2,forall_eq,List.length_map,asc_len,dwn_len,trn_len,s1,List.length_singleton,one,two,k4,k5,kn,km,k1,kc_0,Int.reduceAdd,Int.reduceSub,Int.reduceNeg,Int.reduceLT,eq_self,not_true_eq_false,not_false_eq_true,false_implies,true_implies,true_and,and_true]
  intro S2 k hk
  refine ⟨fun h => ?_,fun h => ?_⟩
  ·obtain ⟨k0,k1,w,rfl,lw,hw⟩:=hk
   have sw : Sx.setAt (Sx.setAt (w.map Sp.row) k 0 (.int 1)) k 1 (.int (-1))=(w.set k.toNat ⟨1, -1⟩).map Sp.row:=setAt_sp k0 (by omega)
   have gw:=set_more (g:=fun _ : Nat=>(⟨1, -1⟩ : Sp)) (x:=⟨1, -1⟩) k0 (by omega) hw rfl
   have hinv : kcInv [] [.lst ((w.set k.toNat ⟨1, -1⟩).map Sp.row), .int (k+1)]:=⟨by omega,by omega,_,rfl,by rw [List.length_set]; exact lw,gw⟩
   have hmu : ∀ A C,kcMu [] [A, .int (k+1)] < kcMu [] [C, .int k]:=fun A C=>by
    simp only [kcMu,kbMu]; omega
   rw [sw,List.length_map]
   exact ⟨by omega,h,by omega,⟨by omega,by omega⟩,hinv,hmu _ _⟩
  ·obtain ⟨k0,k1,w,rfl,lw,hw⟩:=hk
   have ew : w=List.replicate (n+m+1) ⟨1, -1⟩:=all_set (g:=fun _ : Nat=>(⟨1, -1⟩ : Sp)) (k:=k) (by omega) (by rw [List.length_replicate]; omega) hw fun i hi=>by rw [List.getElem?_replicate,if_pos (by omega)]
   subst ew
   clear hw
   have w4 : Sx.part ((List.replicate (n+m+1) (⟨1, -1⟩ : Sp)).map Sp.row) 0 4096=(List.replicate (n+m) (⟨1, -1⟩ : Sp)).map Sp.row:=by
    rw [Sx.part_map,Int.toNat_zero,List.drop_zero,show (4096 : Int).toNat=n+m by omega,List.take_replicate,Nat.min_eq_left (by omega)]
   have w5 : Sx.part ((List.replicate (n+m+1) (⟨1, -1⟩ : Sp)).map Sp.row) 0 4097=(List.replicate (n+m+1) (⟨1, -1⟩ : Sp)).map Sp.row:=part_all _ (by rw [List.length_map,List.length_replicate]; omega)
   have hc1 : chk [1]=0:=by decide
   have hc2 : chk [1,1]=8:=by decide
   have r5 : carryL [1] (List.replicate (n+m+1) ⟨1, -1⟩)=([],3):=by
    unfold carryL
    rw [if_neg (by rw [hc1]; omega),if_pos (by rw [List.length_replicate]; omega)]
   have r4 : carryL [1] (List.replicate (n+m) ⟨1, -1⟩)=([1],0):=by
    unfold carryL
    rw [if_neg (by rw [hc1]; omega),if_neg (by rw [List.length_replicate]; omega),car_rep]
   have r6 : carryL [1,1] (List.replicate (n+m+1) ⟨1, -1⟩)=([],8):=by
    unfold carryL
    rw [if_pos (by rw [hc2]; omega),hc2]
   have q5 : ∀ D e,carryRel [.lst ([1].map row), .lst ((List.replicate (n+m+1) (⟨1, -1⟩ : Sp)).map Sp.row)] [.lst D, .int e] ↔ D=([] : List Int).map row∧e=3:=fun D e=>carry_to r5
   have q4 : ∀ D e,carryRel [.lst ([1].map row), .lst ((List.replicate (n+m) (⟨1, -1⟩ : Sp)).map Sp.row)] [.lst D, .int e] ↔ D=[1].map row∧e=0:=fun D e=>carry_to r4
   have q6 : ∀ D e,carryRel [.lst ([1,1].map row), .lst ((List.replicate (n+m+1) (⟨1, -1⟩ : Sp)).map Sp.row)] [.lst D, .int e] ↔ D=([] : List Int).map row∧e=8:=fun D e=>carry_to r6
   have n1 : isN ([1].map row):=⟨[1],rfl,by simp⟩
   have n2 : isN ([1,1].map row):=⟨[1,1],rfl,by simp⟩
   have y5 : carryPre [.lst ([1].map row), .lst ((List.replicate (n+m+1) (⟨1, -1⟩ : Sp)).map Sp.row)]:=⟨n1,_,rfl⟩
   have y4 : carryPre [.lst ([1].map row), .lst ((List.replicate (n+m) (⟨1, -1⟩ : Sp)).map Sp.row)]:=⟨n1,_,rfl⟩
   have y6 : carryPre [.lst ([1,1].map row), .lst ((List.replicate (n+m+1) (⟨1, -1⟩ : Sp)).map Sp.row)]:=⟨n2,_,rfl⟩
   have z1 : samePre [.lst ((trn m n).map row), .int 0, .lst ((trn m n).map row), .int 0]:=⟨isN_of lt4,isN_of lt4⟩
   have z2 : samePre [.lst ([1].map row), .int 0, .lst ([1].map row), .int 0]:=⟨n1,n1⟩
   have x1 : ∀ b,sameRel [.lst ((trn m n).map row), .int 0, .lst ((trn m n).map row), .int 0] [.bool b] ↔ b=true:=fun b=>same_yes
   have x2' : ∀ b,sameRel [.lst ([1].map row), .int 0, .lst ([1].map row), .int 0] [.bool b] ↔ b=true:=fun b=>same_yes
   simp only [w4,w5,q5,q4,q6,y5,y4,y6,z1,z2,x1,x2',forall_eq2,forall_eq,List.length_map,List.length_replicate,k5,livesPre,livesRel,yesRel,knRel,trueRel,Int.reduceLT,eq_self,not_true_eq_false,not_false_eq_true,false_implies,true_implies,true_and,and_true]
   exact fun _ h=>h
end Go.C08
