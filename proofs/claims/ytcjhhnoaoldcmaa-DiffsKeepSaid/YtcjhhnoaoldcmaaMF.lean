/- copied, step by step, in the executor.
  Conditions: none. -/
import Derived.Test.YtcjhhnoaoldcmaaME
import Derived.Test.YtcjhhnoaoldcmaaM8
set_option linter.unusedVariables false
set_option linter.unusedSimpArgs false
set_option maxRecDepth 10000
noncomputable section
namespace Go.D
open Go Go.Xe Go.Sx
open Go.C36 (row)
def zN :Value:=(E1 PR tN).getD undef
theorem zN_eq :E1 PR tN=some zN:=by kernel_rfl
theorem zN_len :zN.cells.toList.length=6:=by kernel_rfl
def zB :T Value:=fill .e 0 zN.cells.toList
section
variable {hp hp':Hp}{tm:T Value}{i o n e z:Nat}{cs:T Value}{vs:List Value}{v u a:Value}{x y t:Nat}
theorem xo_alloc (call:c8):xop PR call tm hp (.alloc tN)=some (.pointer (some ⟨hp.nx,0,none⟩),⟨hp.m.set hp.nx (some (.cells zB 6 tN 6)),hp.nx+1⟩):=by
 simp only[a9,d9,xnw,ad6,zN_eq,C7,Hp.add,Nw.val,A4,zN_len,zB]
theorem xo_make {n:Nat}(hx:tm.get x=some (.int .i64 n))(hn:n<=1000)(call:c8):xop PR call tm hp (.makeSlice tS (.tmp x) (.tmp x))=some (.slice (some ⟨hp.nx,0,none⟩) n n,⟨hp.m.set hp.nx (some (.cells (fill .e 0 (xrep n zN.cells.toList)) (n*6) tN 6)),hp.nx+1⟩):=by
 have h1:decide (0<=(n:Int))=true:=decide_eq_true (by omega)
 have h2:decide ((n:Int)<=n)=true:=decide_eq_true (bG4 _)
 have h3:decide ((n:Int)<=1048576)=true:=decide_eq_true (by omega)
 have h4:(xrep n zN.cells.toList).length=n*6:=by rw[Xe.xrep_length,zN_len]
 simp only[a9,d9,xnw,a8,hx,bE3,aZ5,und_S,niN_eq,zN_eq,h1,h2,h3,niN_bytes,zN_len,niN_size,l8,Bool.and_self,bB8,C7,Hp.add,Nw.val,A4,bE2,h4]
theorem xo_not {b:Bool}{ty:TypeId}(hx:tm.get x=some (.bool b))(call:c8):xop PR call tm hp (.unOp .not ty (.tmp x))=some (.bool (!b),hp):=by
 simp only[a9,d9,a8,hx,bE3,xun,d8]
theorem pv_sl' {F:FB}{e:TypeId}{v:Value}{L:Sx.Rows}(h:PV PR F (.sl e) v (.lst L)):∃q c,v= .slice q L.length c:=by
 cases h with
 |nils=>exact⟨_,_,rfl⟩
 |vague=>exact⟨_,_,rfl⟩
 |sl e i o c=>exact⟨_,_,rfl⟩
theorem hd_one {F:FB}{t:Tree}(h:vs.length=6)(hd:Hd F t (fun q=>vs[q]?))(h5:∃q l c,vs[5]? =some (.slice q l c)):vs.all Value.oneCell'=true:=by
 obtain⟨a,b,c,d,e,f,rfl⟩:=len6 h
 obtain⟨h0,h1,h2,⟨m,h3,g⟩,h4⟩:=hd
 obtain⟨q,l,c',h5⟩:=h5
 obtain⟨k,j,rfl⟩:=by
  have:=g
  exact pv_sl' this
 cases h0;cases h1;cases h2;cases h3;cases h4;cases h5
 rfl
theorem loadN_fill (b:vs.length=6):f9 (fill cs o vs) o 6=some vs:=by
 have:=C0 (c:=fill cs o vs) (vs:=vs) (o:=o) (fun q hq=>by rw[j3,bC3 ⟨by omega,by omega⟩];congr 1;omega)
 rwa[b]at this
end
theorem keeps_set {hp:Hp}{i nx:Nat}{b:Option Blk}(hn:hp.nx<=nx)(h:hp.nx<=i\/hp.m.get i≠some .dfr):m9 hp ⟨hp.m.set i b,nx⟩:=⟨hn,fun r hr h0=>by
 show(hp.m.set i b).get r=_
 rw[T.get_set,bC1]
 ·exact h0
 ·rintro rfl
  rcases h with h|h
  ·omega
  ·exact h h0⟩
abbrev pL :Code:=cdA (cdA (cdB (cdA (cdB (cdB (cdB (cdB (f5 PR pF))))))))
theorem p_c0 :f5 PR pF= .seq (cdA (f5 PR pF)) (.seq (.seq (cdA (cdA (cdB (f5 PR pF)))) (.cond (.tmp 9) (cdA (cdB (cdA (cdB (f5 PR pF))))) .skip)) (.seq (pcCa (f5 PR pF)) (.seq (cdA (cdB (cdB (cdB (f5 PR pF))))) (.seq (.seq (cdA (cdA (cdB (cdB (cdB (cdB (f5 PR pF))))))) (.block 0 (.loop pL))) (.seq (cdA (cdB (cdB (cdB (cdB (cdB (f5 PR pF))))))) (.seq (cdA (cdB (cdB (cdB (cdB (cdB (cdB (f5 PR pF)))))))) .ret)))))):=by kernel_rfl
theorem p_l0 :pL= .seq (cdA pL) (.seq (.cond (.tmp 24) .skip (.exit 0)) (.seq (.block 1 (.seq (cdA (cdA (cdA (cdB (cdB pL))))) (cdB (cdA (cdA (cdB (cdB pL))))))) (cdB (cdB (cdB pL))))):=by kernel_rfl
section
variable {ov :FuncId->Option TypeId}{hp:Hp}{tm:T Value}{vs:List Value}{ib ir i:Nat}{Q:T Value->Hp->Prop}
theorem p_R0 (h0 : tm.get 0 = some (.agg vs.toArray)) (h1 : tm.get 1 = some (.bool true)) ( b : vs.length = 6)
  (k:∀tm1 hp1,hp1.nx=hp.nx+2->(∀j,j<hp.nx->hp1.m.get j=hp.m.get j)->hp1.m.get hp.nx=some (.cells (fill .e 0 vs) 6 tN 6)->hp1.m.get (hp.nx+1)=some (.cells zB 6 tN 6)->tm1.get 1=some (.bool true)->tm1.get 2=some (.pointer (some ⟨hp.nx,0,none⟩))->tm1.get 4=some (.pointer (some ⟨hp.nx+1,0,none⟩))->Q tm1 hp1):YN PR ov 38 (cdA (f5 PR pF)) tm hp Q:=by
 rw[pc_eq]
 simp only[Go.Proofs.Try.f43,bE3,cdA,cdB]
 have e:(Value.agg vs.toArray).cells.toList=vs:=by simp[Value.cells]
 refine .region (.op rfl rfl (xo_box h0) (.op rfl rfl xo_alloc (.nil ?_)))
 rw[e,b]
 refine⟨(keeps_set (bH4 _) (.inl (bC4 _))).trans (keeps_set (hp:=⟨_,hp.nx+1⟩) (bH4 _) (.inl (bC4 _))),k _ _ rfl (fun j hj=>?_) ?_ ?_ ?_ ?_ ?_⟩
 ·show((hp.m.set hp.nx _).set (hp.nx+1) _).get j=_
  rw[T.get_set,bC1 (by omega),T.get_set,bC1 (by omega)]
 ·show((hp.m.set hp.nx _).set (hp.nx+1) _).get hp.nx=_
  rw[T.get_set,bC1 (by omega),T.get_set,bC3 rfl]
 ·show((hp.m.set hp.nx _).set (hp.nx+1) _).get (hp.nx+1)=_
  rw[T.get_set,bC3 rfl]
 ·simp only[gp];exact h1
 ·simp only[gp];rfl
 ·simp only[gp];rfl
theorem p_R1 (h1:tm.get 1=some (.bool true))(k:∀tm1,(∀x,x<8->tm1.get x=tm.get x)->Q tm1 hp):YN PR ov 38 (.seq (cdA (cdA (cdB (f5 PR pF)))) (.cond (.tmp 9) (cdA (cdB (cdA (cdB (f5 PR pF))))) .skip)) tm hp Q:=by
 rw[pc_eq]
 simp only[Go.Proofs.Try.f43,bE3,cdA,cdB]
 refine .seq (.region (.op rfl rfl (xo_mv h1) (.op rfl rfl (xo_not (by simp only[gp];rfl)) (.nil ⟨.refl _,.condF (ev_t (by simp only[gp];rfl)) (.skip (k _ fun x hx=>?_))⟩))))
 simp only[gp]
 rw[bC1 (by omega),bC1 (by omega)]
variable {cs:T Value}{q:Option Addr}{c l:Nat}
theorem p_R4 (h2 : tm.get 2 = some (.pointer (some ⟨ib, 0, none⟩)))  (hb : hp.m.get ib = some (.cells cs 6 tN 6))   (h5 : cs.get 5 = some (.slice q l c)) (hl : l ≤ 1000)
  (k:∀tm1,(∀x,x<5->tm1.get x=tm.get x)->tm1.get 5=some (.slice (some ⟨hp.nx,0,none⟩) l l)->Q tm1 ⟨hp.m.set hp.nx (some (.cells (fill .e 0 (xrep l zN.cells.toList)) (l*6) tN 6)),hp.nx+1⟩):YN PR ov 38 (cdA (cdB (cdB (cdB (f5 PR pF))))) tm hp Q:=by
 rw[pc_eq]
 simp only[Go.Proofs.Try.f43,bE3,cdA,cdB]
 refine .region (.op rfl rfl (xo_fld h2) (.op rfl rfl (xo_load (by simp only[gp];rfl) ((ld_S' hb rfl (by omega)).trans h5)) (.op rfl rfl (xo_len (by simp only[gp];rfl) rfl) (.op rfl rfl (xo_make (by simp only[gp];rfl) hl) (.op rfl rfl (xo_as (by simp only[gp];rfl)) (.nil ⟨keeps_set (bH4 _) (.inl (bC4 _)),k _ (fun x hx=>?_) ?_⟩))))))
 ·simp only[gp]
  iterate 5 rw[bC1 (by omega)]
 ·simp only[gp];rfl
theorem p_R5 (h2 : tm.get 2 = some (.pointer (some ⟨ib, 0, none⟩)))  (hb : hp.m.get ib = some (.cells cs 6 tN 6))   (h5 : cs.get 5 = some (.slice q l c))
  (k:∀tm1,(∀x,x<20->tm1.get x=tm.get x)->tm1.get 21=some (.slice q l c)->tm1.get 22=some (.int .i64 l)->tm1.get 23=some (.int .i64 0)->Q tm1 hp):YN PR ov 38 (cdA (cdA (cdB (cdB (cdB (cdB (f5 PR pF))))))) tm hp Q:=by
 rw[pc_eq]
 simp only[Go.Proofs.Try.f43,bE3,cdA,cdB]
 refine .region (.op rfl rfl (xo_fld h2) (.op rfl rfl (xo_load (by simp only[gp];rfl) ((ld_S' hb rfl (by omega)).trans h5)) (.op rfl rfl (xo_len (by simp only[gp];rfl) rfl) (.op rfl rfl xo_mv0 (.nil ⟨.refl _,k _ (fun x hx=>?_) ?_ ?_ ?_⟩)))))
 ·simp only[gp]
  iterate 4 rw[bC1 (by omega)]
 ·simp only[gp];rfl
 ·simp only[gp];rfl
 ·simp only[gp];rfl
theorem p_R6 {n i:Int}(b:tm.get 22=some (.int .i64 n))(d:tm.get 23=some (.int .i64 i))(k:∀tm1,(∀x,x≠24->tm1.get x=tm.get x)->tm1.get 24=some (.bool (decide (i<n)))->Q tm1 hp):YN PR ov 38 (cdA pL) tm hp Q:=by
 unfold pL
 rw[pc_eq]
 simp only[Go.Proofs.Try.f43,bE3,cdA,cdB]
 exact .region (.op rfl rfl (xo_lt d b) (.nil ⟨.refl _,k _ (fun x hx=>by rw[gp,bC1 hx]) (by rw[gp,bC3 rfl])⟩))
variable {k0:Nat}{ws:List Value}
theorem p_R7  (  b : tm.get 23 = some (.int .i64 k0)) { w oc  A  C : Nat} (  d : tm.get 21 = some (.slice (some ⟨ w, oc, none⟩)  A  C)) (hk : k0 <  A) { r : Blk} { s : T Value} { B  F : Nat} (hc : hp.m.get  w = some  r) (  g : rdC  r = some ( s,  B,  F)) (  f : oc + k0 * 6 + 6 ≤  B)  (hl : f9  s (oc + k0 * 6) 6 = some ws) (  p : ws.length = 6) (  j : ws.all Value.oneCell' = true)
  (k:∀tm1,(∀x,x<24->x≠6->x≠7->tm1.get x=tm.get x)->tm1.get 6=some (.int .i64 k0)->tm1.get 7=some (.pointer (some ⟨hp.nx,0,none⟩))->Q tm1 ⟨(hp.m.set hp.nx (some (.cells zB 6 tN 6))).set hp.nx (some (.cells (fill zB 0 ws) 6 tN 6)),hp.nx+1⟩):YN PR ov 38 (cdA (cdA (cdA (cdB (cdB pL))))) tm hp Q:=by
 unfold pL
 rw[pc_eq]
 simp only[Go.Proofs.Try.f43,bE3,cdA,cdB]
 refine .region (.op rfl rfl (xo_mv b) (.op rfl rfl (xo_idx (by simp only[gp];exact d) (by simp only[gp];exact b) (ix_N (by omega) (by omega))) (.op rfl rfl (xo_load (by simp only[gp];rfl) (ld_N' hc g f hl)) (.op rfl rfl xo_alloc (.op rfl rfl (xo_as (by simp only[gp];rfl)) ?_)))))
 refine .op rfl rfl (xo_store (by simp only[gp];rfl) (by simp only[gp];rfl) (st_N (cs:=zB) (z:=6) (e:=tN) (n:=6) (by show(hp.m.set hp.nx _).get hp.nx=_;rw[T.get_set,bC3 rfl]) (by omega) p j)) (.nil ⟨?_,k _ (fun x hx D E=>?_) ?_ ?_⟩)
 ·exact(keeps_set (bH4 _) (.inl (bC4 _))).trans (keeps_set (hp:=⟨_,hp.nx+1⟩) (bC4 _) (.inr (by show(hp.m.set hp.nx _).get hp.nx≠_;rw[T.get_set,bC3 rfl];exact fun h=>by cases h)))
 ·simp only[gp,gn]
  rw[bC1 D,bC1 E,bC1 (by omega),bC1 (by omega),bC1 (by omega)]
 ·simp only[gp,gn];rfl
 ·simp only[gp,gn];rfl
theorem p_R8  ( s : tm.get 6 = some (.int .i64 k0)) {i:Nat} (h5 : tm.get 5 = some (.slice (some ⟨i, 0, none⟩) l l)) (hk : k0 < l) { r : Nat} ( w : tm.get 7 = some (.pointer (some ⟨ r, 0, none⟩))) { p : T Value} (  d : hp.m.get  r = some (.cells  p 6 tN 6))  (hl : f9  p 0 6 = some ws) (h1 : tm.get 1 = some (.bool true))
  {hp1:Hp} {b:List Value} (hx:E4 PR ov pF [.agg ws.toArray,.bool true] hp (.agg b.toArray) hp1) (f:m9 hp hp1) (j:b.length=6) (g:b.all Value.oneCell'=true) {n:Nat} (hi:hp1.m.get i=some (.cells cs n tN 6)) (hn:k0*6+6<=n)
  (k:∀tm1,(∀x,x<28->tm1.get x=tm.get x)->Q tm1 ⟨hp1.m.set i (some (.cells (fill cs (k0*6) b) n tN 6)),hp1.nx⟩):YN PR ov 38 (cdB (cdA (cdA (cdB (cdB pL))))) tm hp Q:=by
 unfold pL
 rw[pc_eq]
 simp only[Go.Proofs.Try.f43,bE3,cdA,cdB]
 refine .region (.op rfl rfl (xo_mv h5) (.op rfl rfl (xo_mv (by simp only[gp];exact s)) (.op rfl rfl (xo_load (by simp only[gp];exact w) (ld_N' d rfl (by omega) hl)) (.op rfl rfl (xo_mv (by simp only[gp];exact h1)) ?_))))
 refine .cons rfl rfl (xo_call2 p_fn p_ok (by simp only[gp];rfl) (by simp only[gp];rfl) hx) (.op rfl rfl (xo_idx (by simp only[gp];rfl) (by simp only[gp];rfl) (ix_N (by omega) (by omega))) (.op rfl rfl (xo_store (by simp only[gp];rfl) (by simp only[gp];rfl) (st_N hi (by omega) j g)) (.nil ⟨?_,?_⟩)))
 ·exact f.trans (keeps_set (bC4 _) (.inr (by rw[hi];exact fun h=>by cases h)))
 ·rw[show 0+(k0:Int).toNat*6=k0*6 by omega]
  refine k _ fun x hx=>?_
  simp only[gp,gn]
  iterate 6 rw[bC1 (by omega)]
theorem p_R9 (b:tm.get 23=some (.int .i64 k0))(h1:k0<1000)(k:∀tm1,(∀x,x<23->tm1.get x=tm.get x)->tm1.get 23=some (.int .i64 (k0+1))->Q tm1 hp):YN PR ov 38 (cdB (cdB (cdB pL))) tm hp Q:=by
 unfold pL
 rw[pc_eq]
 simp only[Go.Proofs.Try.f43,bE3,cdA,cdB]
 refine .region (.op rfl rfl (xo_inc b (by omega) (by omega)) (.op rfl rfl (xo_mv (by simp only[gp];rfl)) (.nil ⟨.refl _,k _ (fun x hx=>?_) ?_⟩)))
 ·simp only[gp]
  rw[bC1 (by omega),bC1 (by omega)]
 ·simp only[gp];rfl
theorem p_R10 (h2 : tm.get 2 = some (.pointer (some ⟨ib, 0, none⟩)))  (hb : hp.m.get ib = some (.cells cs 6 tN 6))   (h5 : tm.get 5 = some (.slice q l c))
  (k:∀tm1,(∀x,x<35->tm1.get x=tm.get x)->Q tm1 ⟨hp.m.set ib (some (.cells (fill cs 5 [.slice q l c]) 6 tN 6)),hp.nx⟩):YN PR ov 38 (cdA (cdB (cdB (cdB (cdB (cdB (f5 PR pF))))))) tm hp Q:=by
 rw[pc_eq]
 simp only[Go.Proofs.Try.f43,bE3,cdA,cdB]
 refine .region (.op rfl rfl (xo_mv h5) (.op rfl rfl (xo_fld (by simp only[gp];exact h2)) (.op rfl rfl (xo_store (by simp only[gp];rfl) (by simp only[gp];rfl) (st_S hb (by omega))) (.nil ⟨keeps_set (bC4 _) (.inr (by rw[hb];exact fun h=>by cases h)),k _ fun x hx=>?_⟩))))
 simp only[gp,gn]
 rw[bC1 (by omega),bC1 (by omega)]
theorem p_R11 (h2 : tm.get 2 = some (.pointer (some ⟨ib, 0, none⟩)))  (hb : hp.m.get ib = some (.cells cs 6 tN 6))  (hl : f9 cs 0 6 = some ws) (  f : ws.length = 6) (  b : ws.all Value.oneCell' = true) (h4 : tm.get 4 = some (.pointer (some ⟨ir, 0, none⟩))) {d : T Value} (hr : hp.m.get ir = some (.cells d 6 tN 6))
  (k:∀tm1,(∀x,x<37->tm1.get x=tm.get x)->Q tm1 ⟨hp.m.set ir (some (.cells (fill d 0 ws) 6 tN 6)),hp.nx⟩):YN PR ov 38 (cdA (cdB (cdB (cdB (cdB (cdB (cdB (f5 PR pF)))))))) tm hp Q:=by
 rw[pc_eq]
 simp only[Go.Proofs.Try.f43,bE3,cdA,cdB]
 refine .region (.op rfl rfl (xo_load h2 (ld_N' hb rfl (by omega) hl)) (.op rfl rfl (xo_store (by simp only[gp];exact h4) (by simp only[gp];rfl) (st_N hr (by omega) f b)) (.nil ⟨keeps_set (bC4 _) (.inr (by rw[hr];exact fun h=>by cases h)),k _ fun x hx=>?_⟩)))
 simp only[gp,gn]
 rw[bC1 (by omega)]
end
end Go.D
