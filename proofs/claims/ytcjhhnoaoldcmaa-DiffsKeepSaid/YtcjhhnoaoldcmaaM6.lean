/- keep, step by step, in the executor.
  Conditions: none. -/
import Derived.Test.YtcjhhnoaoldcmaaM2
import Derived.Test.YtcjhhnoaoldcmaaM5
set_option linter.unusedVariables false
set_option linter.unusedSimpArgs false
set_option maxRecDepth 10000
noncomputable section
namespace Go.D
open Go Go.Xe Go.Sx
open Go.C36 (row)
abbrev kF :FuncId:=33
theorem kc_eq :f5 PR kF=Go.Proofs.Try.f33.body.getD .skip:=by kernel_rfl
theorem k_fn :PR.funcs[kF]? =some Go.Proofs.Try.f33:=by kernel_rfl
theorem m_fn :PR.funcs[25]? =some Go.Proofs.Try.f25:=by kernel_rfl
theorem m_ok :O7 Go.Proofs.Try.f25=true:=by kernel_rfl
theorem k_ok :O7 Go.Proofs.Try.f33=true:=by kernel_rfl
section
variable {ov :FuncId->Option TypeId}{hp:Hp}{tm:T Value}{vs:List Value}{iw ow ib:Nat}{Q:T Value->Hp->Prop}
structure K12 (tm:T Value)(iw ow ib:Nat):Prop where
 a:tm.get 1=some (.pointer (some ⟨iw,ow,none⟩))
 b:tm.get 2=some (.pointer (some ⟨ib,0,none⟩))
theorem k_R0 (h0 : tm.get 0 = some (.agg vs.toArray)) (h1 : tm.get 1 = some (.pointer (some ⟨iw, ow, none⟩)))
  (k:∀tm1,K12 tm1 iw ow hp.nx->Q tm1 ⟨hp.m.set hp.nx (some (.cells (fill .e 0 vs) vs.length tN vs.length)),hp.nx+1⟩):YN PR ov 69 (cdA (f5 PR kF)) tm hp Q:=by
 rw[kc_eq]
 simp only[Go.Proofs.Try.f33,bE3,cdA,cdB]
 have e:(Value.agg vs.toArray).cells.toList=vs:=by simp[Value.cells]
 refine .region (.op rfl rfl (xo_box h0) (.nil ?_))
 rw[e]
 refine⟨⟨bH4 _,fun r hr h=>by show(hp.m.set hp.nx _).get r=_;rw[T.get_set,bC1 (by omega)];exact h⟩,k _ ⟨?_,?_⟩⟩
 ·rw[gp,bC1 (by decide)];exact h1
 ·rw[gp,bC3 rfl]
variable {cb cw:T Value}{nb nw zb zw:Nat}{v:Value}
theorem k_D1 (h : K12 tm iw ow ib)   (hb : hp.m.get ib = some (.cells cb nb tN zb)) (  d : 6 ≤ nb) ( g : hp.m.get iw = some (.cells cw nw tN zw)) (  e : ow + 6 ≤ nw) {vo  c:Value} ( f : cb.get 5 = some vo) (hn : cw.get (ow + 5) = some  c)
  {hp1:Hp} (hm:E4 PR ov 25 [vo,c] ⟨hp.m,hp.nx+8⟩ v hp1) (hk:m9 hp hp1) (k:∀tm1,K12 tm1 iw ow ib->tm1.get 4=some v->Q tm1 hp1):YN PR ov 69 (cdA (cdB (f5 PR kF))) tm hp Q:=by
 rw[kc_eq]
 simp only[Go.Proofs.Try.f33,bE3,cdA,cdB]
 refine .drawG (by kernel_rfl) ?_
 refine .k0 rfl rfl rfl (xo_fld h.b) (.k1 rfl rfl rfl (xo_load (by rw[gp,bC3 rfl]) ((ld_S' hb rfl (by omega)).trans f)) ?_)
 refine .k0 rfl rfl rfl (xo_mv (by rw[gp,bC1 (by decide),gp,bC1 (by decide)];exact h.a)) (.k0 rfl rfl rfl (xo_nil (by rw[gp,bC3 rfl])) (.k0 rfl rfl rfl (xo_fld (by rw[gp,bC3 rfl])) (.k1 rfl rfl rfl (xo_load (by rw[gp,bC3 rfl]) ((ld_S' g rfl (by omega)).trans hn)) ?_)))
 refine .k3 rfl rfl rfl (by kernel_rfl) (xo_call2 m_fn m_ok (by rw[gp,bC1 (by decide),gp,bC1 (by decide),gp,bC1 (by decide),gp,bC1 (by decide),gp,bC3 rfl]) (by rw[gp,bC3 rfl]) hm) ?_
 refine .k0 rfl rfl rfl (xo_as (by rw[gp,bC3 rfl])) (.nil ⟨by kernel_rfl,by kernel_rfl,hk,k _ ⟨?_,?_⟩ ?_⟩)
 ·simp only[gp];exact h.a
 ·simp only[gp];exact h.b
 ·simp only[gp];rfl
variable {q:Option Addr}
theorem k_R2  (h : K12 tm iw ow ib) (h4 : tm.get 4 = some v)   ( e : hp.m.get iw = some (.cells cw nw tN zw)) (  d : ow + 6 ≤ nw)  {l c : Nat} (hn : cw.get (ow + 5) = some (.slice q l c))
  (k:∀tm1,K12 tm1 iw ow ib->tm1.get 4=some v->tm1.get 19=some (.int .i64 l)->tm1.get 20=some (.int .i64 0)->Q tm1 hp):YN PR ov 69 (cdA (cdA (cdB (cdB (f5 PR kF))))) tm hp Q:=by
 rw[kc_eq]
 simp only[Go.Proofs.Try.f33,bE3,cdA,cdB]
 refine .region (.op rfl rfl (xo_mv h.a) (.op rfl rfl (xo_nil (by rw[gp,bC3 rfl])) (.op rfl rfl (xo_fld (by rw[gp,bC3 rfl])) (.op rfl rfl (xo_load (by rw[gp,bC3 rfl]) ((ld_S' e rfl (by omega)).trans hn)) ?_))))
 refine .op rfl rfl (xo_len (by rw[gp,bC3 rfl]) rfl) (.op rfl rfl xo_mv0 (.nil ⟨.refl _,k _ ⟨?_,?_⟩ ?_ ?_ ?_⟩))
 ·simp only[gp];exact h.a
 ·simp only[gp];exact h.b
 ·simp only[gp];exact h4
 ·simp only[gp];rfl
 ·simp only[gp];rfl
abbrev kL0 :Code:=cdA (cdA (cdB (cdA (cdB (cdB (f5 PR kF))))))
variable {i:Int}
theorem k_R3 {n:Int}(a:tm.get 19=some (.int .i64 n))(b:tm.get 20=some (.int .i64 i))(k:∀tm1,(∀x,x≠21->tm1.get x=tm.get x)->tm1.get 21=some (.bool (decide (i<n)))->Q tm1 hp):YN PR ov 69 (cdA kL0) tm hp Q:=by
 unfold kL0
 rw[kc_eq]
 simp only[Go.Proofs.Try.f33,bE3,cdA,cdB]
 exact .region (.op rfl rfl (xo_lt b a) (.nil ⟨.refl _,k _ (fun x hx=>by rw[gp,bC1 hx]) (by rw[gp,bC3 rfl])⟩))
variable {cs:T Value}
theorem k_R45 {mk:Int} {im om  b cm nm : Nat}  (h4 : tm.get 4 = some (.slice (some ⟨im, om, none⟩)  b cm)) (  a : tm.get 20 = some (.int .i64 i)) (h0 : 0 ≤ i) (h1 : i <  b) (hm : hp.m.get im = some (.cells cs nm 3 1)) (hb : om + i.toNat * 1 + 1 ≤ nm) ( c : cs.get (om + i.toNat * 1) = some (.int .i64 mk))
  (k:∀tm1,(∀x,x<21->x≠5->tm1.get x=tm.get x)->tm1.get 5=some (.int .i64 i)->tm1.get 27=some (.bool (decide (0<=mk)))->YN PR ov 69 (cdB (cdB (cdA (cdA (cdB (cdB kL0)))))) tm1 hp Q):YN PR ov 69 (cdA (cdB (cdB kL0))) tm hp Q:=by
 unfold kL0 at k⊢
 rw[kc_eq]at k⊢
 simp only[Go.Proofs.Try.f33,bE3,cdA,cdB]at k⊢
 refine .block (.seq (.region (.op rfl rfl (xo_mv a) (.op rfl rfl (xo_as (by rw[gp,bC3 rfl])) (.nil ⟨.refl _,.seq (.region ?_)⟩)))))
 refine .op rfl rfl (xo_mv (by simp only[gp];exact h4)) (.op rfl rfl (xo_mv (by simp only[gp];rfl)) (.op rfl rfl (xo_idx (by simp only[gp];rfl) (by simp only[gp];rfl) (ix_I h0 h1)) (.op rfl rfl (xo_load (by simp only[gp];rfl) ((ld_I' hm rfl hb).trans c)) (.op rfl rfl (xo_ge0 (by simp only[gp];rfl)) (.nil ⟨.refl _,k _ (fun x hx h5=>?_) ?_ ?_⟩)))))
 ·simp only[gp]
  rw[bC1 (by omega),bC1 (by omega),bC1 (by omega),bC1 (by omega),bC1 (by omega),bC1 h5,bC1 (by omega)]
 ·simp only[gp];rfl
 ·simp only[gp];rfl
theorem ev_t {x:Nat}(h:tm.get x=some v):a8 tm (.tmp x)=some v:=by simp only[a8,h,bE3]
theorem k_no (h:tm.get 27=some (.bool false))(k:Q tm hp):YN PR ov 69 (cdB (cdB (cdA (cdA (cdB (cdB kL0)))))) tm hp Q:=by
 unfold kL0
 rw[kc_eq]
 simp only[Go.Proofs.Try.f33,bE3,cdA,cdB]
 exact .condF (ev_t h) (.skip k)
theorem k_D6 (h : K12 tm iw ow ib) (  c : tm.get 27 = some (.bool true)) {mk:Int} (h5 : tm.get 5 = some (.int .i64 i)) {im om  p cm nm : Nat}  (h4 : tm.get 4 = some (.slice (some ⟨im, om, none⟩)  p cm)) (h0 : 0 ≤ i) (h1 : i <  p) (hm : hp.m.get im = some (.cells cs nm 3 1)) (  f : om + i.toNat * 1 + 1 ≤ nm) ( w : cs.get (om + i.toNat * 1) = some (.int .i64 mk))
    (hb:hp.m.get ib=some (.cells cb nb tN zb)) (y:6<=nb) (B:hp.m.get iw=some (.cells cw nw tN zw)) (z:ow+6<=nw) {n oc o u:Nat} (A:cb.get 5=some (.slice (some ⟨n,oc,none⟩) o u)) {l ln t:Nat} (hn:cw.get (ow+5)=some (.slice (some ⟨l,0,none⟩) ln t)) (h2:i<ln)
  {g:Blk} {j:T Value} {r E:Nat} (hc:hp.m.get n=some g) (e:rdC g=some (j,r,E)) (C:0<=mk) (D:mk<o) (d:oc+mk.toNat*6+6<=r) {s:List Value} (hl:f9 j (oc+mk.toNat*6) 6=some s)
  {hp1:Hp} (hx:E4 PR ov kF [.agg s.toArray,.pointer (some ⟨l,0+i.toNat*6,none⟩)] ⟨hp.m,hp.nx+15⟩ v hp1) (hk:m9 hp hp1) (k:∀tm1,(∀x,x<28->tm1.get x=tm.get x)->Q tm1 hp1):YN PR ov 69 (cdB (cdB (cdA (cdA (cdB (cdB kL0)))))) tm hp Q:=by
 unfold kL0
 rw[kc_eq]
 simp only[Go.Proofs.Try.f33,bE3,cdA,cdB]
 refine .condT (ev_t c) (.drawG (by kernel_rfl) ?_)
 refine .k0 rfl rfl rfl (xo_fld h.b) (.k1 rfl rfl rfl (xo_load (by simp only[gp];rfl) ((ld_S' hb rfl (by omega)).trans A)) ?_)
 refine .k0 rfl rfl rfl (xo_mv (by simp only[gp];exact h4)) (.k0 rfl rfl rfl (xo_mv (by simp only[gp];exact h5)) (.k0 rfl rfl rfl (xo_idx (by simp only[gp];rfl) (by simp only[gp];rfl) (ix_I h0 h1)) (.k1 rfl rfl rfl (xo_load (by simp only[gp];rfl) ((ld_I' hm rfl f).trans w)) ?_)))
 refine .k0 rfl rfl rfl (xo_idx (by simp only[gp];rfl) (by simp only[gp];rfl) (ix_N C D)) (.k1 rfl rfl rfl (xo_load (by simp only[gp];rfl) (ld_N' hc e d hl)) ?_)
 refine .k0 rfl rfl rfl (xo_mv (by simp only[gp];exact h.a)) (.k0 rfl rfl rfl (xo_nil (by simp only[gp];rfl)) (.k0 rfl rfl rfl (xo_fld (by simp only[gp];rfl)) (.k1 rfl rfl rfl (xo_load (by simp only[gp];rfl) ((ld_S' B rfl (by omega)).trans hn)) ?_)))
 refine .k0 rfl rfl rfl (xo_mv (by simp only[gp];exact h5)) (.k0 rfl rfl rfl (xo_idx (by simp only[gp];rfl) (by simp only[gp];rfl) (ix_N h0 h2)) ?_)
 refine .k3 rfl rfl rfl (by kernel_rfl) (xo_call2 k_fn k_ok (by simp only[gp];rfl) (by simp only[gp];rfl) hx) (.nil ⟨by kernel_rfl,by kernel_rfl,hk,k _ fun x hx=>?_⟩)
 simp only[gp]
 iterate 15 rw[bC1 (by omega)]
theorem k_R7 (a:tm.get 20=some (.int .i64 i))(h0:0<=i)(h1:i<1000000)(k:∀tm1,(∀x,x<20->tm1.get x=tm.get x)->tm1.get 20=some (.int .i64 (i+1))->Q tm1 hp):YN PR ov 69 (cdB (cdB (cdB kL0))) tm hp Q:=by
 unfold kL0
 rw[kc_eq]
 simp only[Go.Proofs.Try.f33,bE3,cdA,cdB]
 refine .region (.op rfl rfl (xo_inc a h0 h1) (.op rfl rfl (xo_mv (by simp only[gp];rfl)) (.nil ⟨.refl _,k _ (fun x hx=>?_) ?_⟩)))
 ·simp only[gp]
  rw[bC1 (by omega),bC1 (by omega)]
 ·simp only[gp];rfl
theorem k_R8 (h : K12 tm iw ow ib)   (hb : hp.m.get ib = some (.cells cb nb tN zb)) (  d : 6 ≤ nb)  { a  c : Nat} ( e : cb.get 5 = some (.slice q  a  c))
  (k:∀tm1,(∀x,x<44->tm1.get x=tm.get x)->tm1.get 45=some (.slice q a c)->tm1.get 46=some (.int .i64 a)->tm1.get 47=some (.int .i64 0)->Q tm1 hp):YN PR ov 69 (cdA (cdB (cdB (cdB (f5 PR kF))))) tm hp Q:=by
 rw[kc_eq]
 simp only[Go.Proofs.Try.f33,bE3,cdA,cdB]
 refine .region (.op rfl rfl (xo_fld h.b) (.op rfl rfl (xo_load (by simp only[gp];rfl) ((ld_S' hb rfl (by omega)).trans e)) (.op rfl rfl (xo_len (by simp only[gp];rfl) rfl) (.op rfl rfl xo_mv0 (.nil ⟨.refl _,k _ (fun x hx=>?_) ?_ ?_ ?_⟩)))))
 ·simp only[gp]
  iterate 4 rw[bC1 (by omega)]
 ·simp only[gp];rfl
 ·simp only[gp];rfl
 ·simp only[gp];rfl
abbrev kL2 :Code:=cdA (cdA (cdB (cdB (cdB (cdB (f5 PR kF))))))
theorem k_R9 {n:Int}(a:tm.get 46=some (.int .i64 n))(b:tm.get 47=some (.int .i64 i))(k:∀tm1,(∀x,x≠48->tm1.get x=tm.get x)->tm1.get 48=some (.bool (decide (i<n)))->Q tm1 hp):YN PR ov 69 (cdA kL2) tm hp Q:=by
 unfold kL2
 rw[kc_eq]
 simp only[Go.Proofs.Try.f33,bE3,cdA,cdB]
 exact .region (.op rfl rfl (xo_lt b a) (.nil ⟨.refl _,k _ (fun x hx=>by rw[gp,bC1 hx]) (by rw[gp,bC3 rfl])⟩))
theorem k_R13 (a:tm.get 47=some (.int .i64 i))(h0:0<=i)(h1:i<1000000)(k:∀tm1,(∀x,x<47->tm1.get x=tm.get x)->tm1.get 47=some (.int .i64 (i+1))->Q tm1 hp):YN PR ov 69 (cdB (cdB (cdB kL2))) tm hp Q:=by
 unfold kL2
 rw[kc_eq]
 simp only[Go.Proofs.Try.f33,bE3,cdA,cdB]
 refine .region (.op rfl rfl (xo_inc a h0 h1) (.op rfl rfl (xo_mv (by simp only[gp];rfl)) (.nil ⟨.refl _,k _ (fun x hx=>?_) ?_⟩)))
 ·simp only[gp]
  rw[bC1 (by omega),bC1 (by omega)]
 ·simp only[gp];rfl
end
end Go.D
