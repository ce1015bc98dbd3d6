/- copied, step by step, in the executor (DiffsApply).
  Conditions: none. -/
import Derived.Test.YtcjhhnoaoldcmaaGreatS2
set_option linter.all false
set_option maxRecDepth 10000
noncomputable section
namespace Go.D
open Go Go.Xe Go.Sx
open Go.C36 (row)
abbrev pF :Az:=45
def p_fn :PR.funcs[pF]? =some Go.Proofs.Tryz.f45:=by kernel_rfl
def p_ok :cC Go.Proofs.Tryz.f45=true:=by kernel_rfl
abbrev tAs :Ay:=25
section
variable {hp :Hp}{tm:Ao}{i o n e z:Nat}{cs:Ao}{v:Aw}{x t:Nat}
theorem B7 {t:Ay}(ht:(PR.underlying t).map R8=some false){m:T Blk}{nx:Nat}{b:Blk}(h:m.get i=some b)(hr:rdC b=some (cs,n,z))(hn:o+1<=n):B0 PR ⟨m,nx⟩ t (.pointer (some ⟨i,o,none⟩))=cs.get o:=by
 cases a:PR.underlying t with
 |none=>grind|some d=>rw[a]at ht;simp at ht;simp only[B0,h,hr,a,ht,Ke,JS hn,Kc]
theorem BZ {t:Ay}(ht:(PR.info? t).map TypeInfo.size=some 1)(h:hp.m.get i=some (.cells cs n e z))(hn:o+1<=n)(b:v.cells.toList=[v])(a: [v].all Value.oneCell'=true):A8 PR hp t (.pointer (some ⟨i,o,none⟩)) v=some {hp with m:=hp.m.set i (some (.cells (fill cs o [v]) n e z))}:=by
 cases hi:PR.info? t with
 |none=>grind|some ie=>rw[hi]at ht;simp at ht;simp only[A8,h,hi,ht,b,KE,LP,Ks,l6,JS hn,a,Bool.and_self,Kc,E7]
def l7 {f k:Nat}(hf:∀i o,i7 PR t (.pointer (some ⟨i,o,none⟩)) f=some (.pointer (some ⟨i,o+k,none⟩)))(hx:tm.get x=some (.pointer (some ⟨i,o,none⟩)))(call:c7):xop PR call tm hp (.fieldAddr t (.tmp x) f)=some (.pointer (some ⟨i,o+k,none⟩),hp):=by simp only[b9,f7,a9,hx,KC,hf,c9]
def wo :(PR.underlying tAs).map R8=some false:=by kernel_rfl
def sz_A :(PR.info? tAs).map TypeInfo.size=some 1:=by kernel_rfl
end
abbrev pL :Code:=cdA (cdA (cdB (cdA (cdB (cdB (cdB (cdB (D2 PR pF))))))))
def p_l0 :pL= .seq (cdA pL) (.seq (.cond (.tmp 24) .skip (.exit 0)) (.seq (.block 1 (.seq (cdA (cdA (cdA (cdB (cdB pL))))) (cdB (cdA (cdA (cdB (cdB pL))))))) (cdB (cdB (cdB pL))))):=rfl
section
variable {ov :Aa}{hp:Hp}{tm:Ao}{vs:Af}{ib ir i:Nat}{Q:Ao->Hp->Prop}
def p_R0 (h0:tm.get 0=some (.agg vs.toArray))(h1:tm.get 1=some (.bool true))(a:vs.length=6)(k:∀tm1 hp1,hp1.nx=hp.nx+2->(∀j,j<hp.nx->hp1.m.get j=hp.m.get j)->hp1.m.get hp.nx=some (.cells (fill .e 0 vs) 6 tN 6)->hp1.m.get (hp.nx+1)=some (.cells zB 6 tN 6)->tm1.get 1=some (.bool true)->tm1.get 2=some (.pointer (some ⟨hp.nx,0,none⟩))->tm1.get 4=some (.pointer (some ⟨hp.nx+1,0,none⟩))->Q tm1 hp1):YN PR ov 38 (cdA (D2 PR pF)) tm hp Q:=by
 have e:(Value.agg vs.toArray).cells.toList=vs:=rfl;refine .region (.o (gJ h0) (.o T9 (.nil ?_)));rw[e,a];refine⟨(d9 (Lk _) (.inl (Kj _))).trans (d9 (Lk _) (.inl (Kj _))),k _ _ rfl (fun j hj=>?_) ?_ ?_ ?_ ?_ ?_⟩
 ·show((hp.m.set hp.nx _).set (hp.nx+1) _).get j=_;rw[Mw,Kg (by omega),Mw,Kg (by omega)]
 ·show((hp.m.set hp.nx _).set (hp.nx+1) _).get hp.nx=_;rw[Mw,Kg (by omega),Mw,Ki rfl]
 ·show((hp.m.set hp.nx _).set (hp.nx+1) _).get (hp.nx+1)=_;rw[Mw,Ki rfl]
 ·simp only[gp];exact h1
 ·simp only[gp];rfl
 ·simp only[gp];rfl
theorem p_R1 (h1:tm.get 1=some (.bool true))(k:∀tm1,(∀x,x<8->tm1.get x=tm.get x)->Q tm1 hp):YN PR ov 38 (.seq (cdA (cdA (cdB (D2 PR pF)))) (.cond (.tmp 9) (cdA (cdB (cdA (cdB (D2 PR pF))))) .skip)) tm hp Q:=by refine .seq (.region (.o (i5 h1) (.o (ou (by simp only[gp];rfl)) (.nil ⟨.refl _,.condF (qX (by simp only[gp];rfl)) (.skip (k _ fun x hx=>?_))⟩))));simp only[gp];grind
abbrev cF :Az:=80
def c_fn :PR.funcs[cF]? =some Go.Proofs.Tryz.f80:=by kernel_rfl
variable {cs:Ao}
theorem p_R3 (f:Go.Xe.isT (ov cF)=false)(g:Go.Xe.isT (ov lF)=false)(h2:tm.get 2=some (.pointer (some ⟨ib,0,none⟩)))(hb:hp.m.get ib=some (.cells cs 6 tN 6))(d:ib<hp.nx){F:FB}{l:List Att}{va:Aw}(h3:cs.get 3=some va)(p:PV PR F (.sl tAt) va (.lst (l.map Att.row)))(hF:FH F hp)(hl:l.length<=1000)(k:∀tm1 hp1 v' io ct,(∀x,x<11->tm1.get x=tm.get x)->hp.nx<=hp1.nx->(∀j,j<hp.nx->j≠ib->hp1.m.get j=hp.m.get j)->hp1.m.get ib=some (.cells (fill cs 3 [v']) 6 tN 6)->L9 hp1.m.get tAt 2 l.length v' io 0 ct->(∀(j:Nat) a,l[j]? =some a->AtC a ct (0+j*2))->(∀j∈io.toList,hp.nx<=j/\j<hp1.nx)->Q tm1 hp1):YN PR ov 38 (cdA (cdB (cdB (D2 PR pF)))) tm hp Q:=by
 obtain⟨E,hp1,io,ct,A,b,y,a1,C⟩:=AQ f hF p hl;obtain⟨G,hp2,B,D,k2,s2,r⟩:=Dh g y;obtain⟨q2,s,rfl⟩:=r.sl;have hb2:hp2.m.get ib=some (.cells cs 6 tN 6):=by rw[s2 ib (by rw[b.old ib d,hb];exact fun h=>by grind),b.old ib d];exact hb
 refine .region (.o (l7 oH h2) (.o (qL (h:=((B7 wo hb rfl (by omega)).trans h3))) (.c (iR c_fn rfl (by simp only[gp];rfl) A) (.c (iR l_fn rfl (by simp only[gp];rfl) B) (.o (l7 oH (by simp only[gp];exact h2)) (.o (qS (h:=(BZ sz_A hb2 (by omega) rfl rfl))) (.nil ⟨?_,?_⟩)))))))
 ·exact(b.keeps.trans k2).trans (d9 (Kj _) (.inr (by grind)))
 have st:∀j,j≠ib->(hp2.m.set ib (some (.cells (fill cs (0+3) [.slice q2 l.length s]) 6 tN 6))).get j=hp2.m.get j:=fun j hj=>by rw[Mw,Kg hj]
 have w:=b.nx;have fr:∀j,j<hp.nx->hp2.m.get j=hp.m.get j:=fun j hj=>by
  by_cases e:hp1.m.get j=some .dfr
  ·rw[k2.dfr j (by omega) e,<-e,b.old j hj]
  ·rw[s2 j e,b.old j hj]
 refine k _ _ _ io ct (fun x hx=>?_) (by grind) (fun j hj u=>?_) ?_ (r.frame fun j hj=>?_) a1 (fun j hj=>?_)
 ·simp only[gp,gn];grind
 ·grind
 ·show(hp2.m.set ib _).get ib=_;rw[Mw,Ki rfl]
 ·grind
 ·grind
variable {q:Ar}{l:Nat}
theorem p_R4 (h2:tm.get 2=some (.pointer (some ⟨ib,0,none⟩)))(hb:hp.m.get ib=some (.cells cs 6 tN 6)){c:Nat}(h5:cs.get 5=some (.slice q l c))(hl:l<=1000)(k:∀tm1,(∀x,x<5->tm1.get x=tm.get x)->tm1.get 5=some (.slice (some ⟨hp.nx,0,none⟩) l l)->Q tm1 ⟨hp.m.set hp.nx (some (.cells (fill .e 0 (xrep l zN.cells.toList)) (l*6) tN 6)),hp.nx+1⟩):YN PR ov 38 (cdA (cdB (cdB (cdB (D2 PR pF))))) tm hp Q:=by
 refine .region (.o (jQ h2) (.o (qL (h:=((hO hb rfl (by omega)).trans h5))) (.o (gL (by simp only[gp];rfl) rfl) (.o (HK (by simp only[gp];rfl) hl) (.o qA (.nil ⟨d9 (Lk _) (.inl (Kj _)),k _ (fun x hx=>?_) ?_⟩))))))
 ·simp only[gp];grind
 ·simp only[gp];rfl
theorem p_R5 (h2:tm.get 2=some (.pointer (some ⟨ib,0,none⟩)))(hb:hp.m.get ib=some (.cells cs 6 tN 6)){c:Nat}(h5:cs.get 5=some (.slice q l c))(k:∀tm1,(∀x,x<20->tm1.get x=tm.get x)->tm1.get 21=some (.slice q l c)->tm1.get 22=some (.int .i64 l)->tm1.get 23=some (.int .i64 0)->Q tm1 hp):YN PR ov 38 (cdA (cdA (cdB (cdB (cdB (cdB (D2 PR pF))))))) tm hp Q:=by
 refine .region (.o (jQ h2) (.o (qL (h:=((hO hb rfl (by omega)).trans h5))) (.o (gL (by simp only[gp];rfl) rfl) (.o xU (.nil ⟨.refl _,k _ (fun x hx=>?_) ?_ ?_ ?_⟩)))))
 ·simp only[gp];grind
 ·simp only[gp];rfl
 ·simp only[gp];rfl
 ·simp only[gp];rfl
def p_R6 {n i:Int}(a:tm.get 22=some (.int .i64 n))(b:tm.get 23=some (.int .i64 i))(k:∀tm1,(∀x,x≠24->tm1.get x=tm.get x)->tm1.get 24=some (.bool (decide (i<n)))->Q tm1 hp):YN PR ov 38 (cdA pL) tm hp Q:=by unfold pL;exact .region (.o (Aq b a) (.nil ⟨.refl _,k _ (fun x hx=>by rw[gp,Kg hx]) (by rw[gp,Ki rfl])⟩))
variable {ws:Af}
theorem p_R7 {k0:Nat}(a:tm.get 23=some (.int .i64 k0)){ic oc p cc:Nat}(b:tm.get 21=some (.slice (some ⟨ic,oc,none⟩) p cc))(hk:k0<p){j:Blk}{dc:Ao}{r s:Nat}(hc:hp.m.get ic=some j)(d:rdC j=some (dc,r,s))(c:oc+k0*6+6<=r)(hl:d6 dc (oc+k0*6) 6=some ws)(g:ws.length=6)(f:ws.all Value.oneCell'=true)(k:∀tm1,(∀x,x<24->x≠6->x≠7->tm1.get x=tm.get x)->tm1.get 6=some (.int .i64 k0)->tm1.get 7=some (.pointer (some ⟨hp.nx,0,none⟩))->Q tm1 ⟨(hp.m.set hp.nx (some (.cells zB 6 tN 6))).set hp.nx (some (.cells (fill zB 0 ws) 6 tN 6)),hp.nx+1⟩):YN PR ov 38 (cdA (cdA (cdA (cdB (cdB pL))))) tm hp Q:=by
 unfold pL;refine .region (.o (i5 a) (.o (cX (by simp only[gp];exact b) (by simp only[gp];exact a) (DJ (by omega) (by omega))) (.o (qL (h:=(aT hc d c hl))) (.o T9 (.o qA (.o (qS (h:=(dw (by rw[Mw,Ki rfl]) (by omega) g f))) (.nil ⟨?_,k _ (fun x hx u h7=>?_) ?_ ?_⟩)))))))
 ·exact(d9 (Lk _) (.inl (Kj _))).trans (d9 (Kj _) (.inr (by rw[Mw,Ki rfl];exact fun h=>by grind)))
 ·simp only[gp,gn];grind
 ·simp only[gp,gn];rfl
 ·simp only[gp,gn];rfl
theorem p_R8 {k0:Nat}(j:tm.get 6=some (.int .i64 k0)){i:Nat}(h5:tm.get 5=some (.slice (some ⟨i,0,none⟩) l l))(hk:k0<l){g:Nat}(h7:tm.get 7=some (.pointer (some ⟨g,0,none⟩))){f:Ao}(hb7:hp.m.get g=some (.cells f 6 tN 6))(hl:d6 f 0 6=some ws)(h1:tm.get 1=some (.bool true)){hp1:Hp}{us:Af}(hx:A4 PR ov pF [.agg ws.toArray,.bool true] hp (.agg us.toArray) hp1)(a:l9 hp hp1)(d:us.length=6)(b:us.all Value.oneCell'=true){n:Nat}(hi:hp1.m.get i=some (.cells cs n tN 6))(hn:k0*6+6<=n)(k:∀tm1,(∀x,x<28->tm1.get x=tm.get x)->Q tm1 ⟨hp1.m.set i (some (.cells (fill cs (k0*6) us) n tN 6)),hp1.nx⟩):YN PR ov 38 (cdB (cdA (cdA (cdB (cdB pL))))) tm hp Q:=by
 unfold pL;refine .region (.o (i5 h5) (.o (i5 (by simp only[gp];exact j)) (.o (m8 (by simp only[gp];exact h7) (aT hb7 rfl (by omega) hl)) (.o (i5 (by simp only[gp];exact h1)) (.c (vS p_fn p_ok (by simp only[gp];rfl) (by simp only[gp];rfl) hx) (.o (cX (by simp only[gp];rfl) (by simp only[gp];rfl) (DJ (by omega) (by omega))) (.o (qS (h:=(dw hi (by omega) d b))) (.nil ⟨?_,?_⟩))))))))
 ·exact a.trans (d9 (Kj _) (.inr (by grind)))
 ·rw[show 0+(k0:Int).toNat*6=k0*6 by omega];refine k _ fun x hx=>?_;simp only[gp,gn];grind
theorem p_R9 {k0:Nat}(a:tm.get 23=some (.int .i64 k0))(h1:k0<1000)(k:∀tm1,(∀x,x<23->tm1.get x=tm.get x)->tm1.get 23=some (.int .i64 (k0+1))->Q tm1 hp):YN PR ov 38 (cdB (cdB (cdB pL))) tm hp Q:=by
 unfold pL;refine .region (.o (gK a (by omega) (by omega)) (.o qM (.nil ⟨.refl _,k _ (fun x hx=>?_) ?_⟩)))
 ·simp only[gp];grind
 ·simp only[gp];rfl
theorem p_R10 (h2:tm.get 2=some (.pointer (some ⟨ib,0,none⟩)))(hb:hp.m.get ib=some (.cells cs 6 tN 6)){c:Nat}(h5:tm.get 5=some (.slice q l c))(k:∀tm1,(∀x,x<35->tm1.get x=tm.get x)->Q tm1 ⟨hp.m.set ib (some (.cells (fill cs 5 [.slice q l c]) 6 tN 6)),hp.nx⟩):YN PR ov 38 (cdA (cdB (cdB (cdB (cdB (cdB (D2 PR pF))))))) tm hp Q:=by refine .region (.o (i5 h5) (.o (jQ (by simp only[gp];exact h2)) (.o (qS (h:=(st_S hb (by omega)))) (.nil ⟨d9 (Kj _) (.inr (by grind)),k _ fun x hx=>?_⟩))));simp only[gp,gn];grind
theorem p_R11 (h2:tm.get 2=some (.pointer (some ⟨ib,0,none⟩)))(hb:hp.m.get ib=some (.cells cs 6 tN 6))(hl:d6 cs 0 6=some ws)(b:ws.length=6)(a:ws.all Value.oneCell'=true)(h4:tm.get 4=some (.pointer (some ⟨ir,0,none⟩))){d:Ao}(hr:hp.m.get ir=some (.cells d 6 tN 6))(k:∀tm1,(∀x,x<37->tm1.get x=tm.get x)->Q tm1 ⟨hp.m.set ir (some (.cells (fill d 0 ws) 6 tN 6)),hp.nx⟩):YN PR ov 38 (cdA (cdB (cdB (cdB (cdB (cdB (cdB (D2 PR pF)))))))) tm hp Q:=by refine .region (.o (m8 h2 (aT hb rfl (by omega) hl)) (.o (G6 (by simp only[gp];exact h4) (by simp only[gp];rfl) (dw hr (by omega) b a)) (.nil ⟨d9 (Kj _) (.inr (by grind)),k _ fun x hx=>?_⟩)));simp only[gp,gn];grind
end
end Go.D
