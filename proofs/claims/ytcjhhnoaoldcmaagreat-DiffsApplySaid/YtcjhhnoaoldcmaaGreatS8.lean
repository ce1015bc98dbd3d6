/- find, in the executor: where a path leads to, or that it leads nowhere (DiffsApply).
  Conditions: none. -/
import Derived.Test.YtcjhhnoaoldcmaaGreatS6
import Derived.Test.YtcjhhnoaoldcmaaGreatS2
set_option linter.all false
set_option maxRecDepth 10000
noncomputable section
namespace Go.D
open Go Go.Xe Go.Sx
open Go.C36 (row)
abbrev fF :Az:=62
def f_fn :PR.funcs[fF]? =some Go.Proofs.Tryz.f62:=by kernel_rfl
section
variable {ov :Aa}{hp:Hp}{tm:Ao}{Q:Ao->Hp->Prop}
abbrev fL :Code:=cdA (cdA (cdB (cdA (cdB (D2 PR fF)))))
variable {i:Int}{iw ow:Nat}{cw:Ao}
theorem f_R6 {j:Nat}(h0:tm.get 0=some (.pointer (some ⟨iw,ow,none⟩)))(a:tm.get 6=some (.int .i64 i)){nw e:Nat}(hw:hp.m.get iw=some (.cells cw nw tN e))(b:ow+6<=nw){ic oc l c:Nat}(hn:cw.get (ow+5)=some (.slice (some ⟨ic,oc,none⟩) l c))(i0:0<=i)(d:i<l)(k:∀tm1,(∀x,x≠0->x<24->tm1.get x=tm.get x)->tm1.get 0=some (.pointer (some ⟨ic,oc+i.toNat*6,none⟩))->Q tm1 hp):YN PR ov 32 (cdB (cdB (cdA (cdA (cdB (cdB fL)))))) tm hp Q:=by
 unfold fL;refine .region (.o (i5 h0) (.o qN (.o qD (.o (qL (h:=((hO hw rfl (by omega)).trans hn))) (.o (i5 (by simp only[gp];exact a)) (.o (cX (by simp only[gp];rfl) (by simp only[gp];rfl) (DJ i0 d)) (.o qA (.nil ⟨.refl _,k _ (fun x h h'=>?_) ?_⟩))))))))
 ·simp only[gp];grind
 ·simp only[gp];rfl
variable {x:Nat}
def jR {k:Int}{t t':Ay}(hx:tm.get x=some (.int .i64 k))(call:c7):xop PR call tm hp (.binOp .lss t (.tmp x) (.const (.int .i64 0)) t')=some (.bool (decide (k<0)),hp):=by have h:cst (.int .i64 0)=true:=rfl;simp only[b9,f7,a9,hx,h,KC,v6,J3,KR,Kc,o7,W2,c9]
def FY {y:Nat}{k m:Int}{t t':Ay}(hx:tm.get x=some (.int .i64 k))(hy:tm.get y=some (.int .i64 m))(call:c7):xop PR call tm hp (.binOp .geq t (.tmp x) (.tmp y) t')=some (.bool (decide (m<=k)),hp):=by simp only[b9,f7,a9,hx,hy,KC,v6,J3,KR,Kc,o7,W2,c9]
variable {cs:Ao}
theorem f_R3 {k0 n:Nat}{d b e cm f:Nat}(h7:tm.get 7=some (.slice (some ⟨d,b,none⟩) e cm))(g:tm.get 9=some (.int .i64 k0))(h1:k0<e){c:Blk}{l:Nat}(hm:hp.m.get d=some c)(a:rdC c=some (cs,f,l))(hb:b+k0*1+1<=f)(j:cs.get (b+k0*1)=some (.int .i64 i))(k:∀tm1,(∀x,x≠6->x<11->tm1.get x=tm.get x)->tm1.get 6=some (.int .i64 i)->Q tm1 hp):YN PR ov 32 (cdA (cdA (cdA (cdB (cdB fL))))) tm hp Q:=by
 unfold fL;refine .region (.o (cX h7 g (ix_I (by omega) (by omega))) (.o (qL (h:=((ld_I' hm a hb).trans j))) (.o qA (.nil ⟨.refl _,k _ (fun x h h'=>?_) ?_⟩))))
 ·simp only[gp];grind
 ·simp only[gp];rfl
variable {v:Aw}
def AA {y:Nat}{b:Bool}(hx:tm.get x=some (.bool b))(hy:tm.get y=some v)(call:c7):xop PR call tm hp (.pick (.tmp x) (.const (.bool true)) (.tmp y))=some (if b=true then .bool true else v,hp):=by have h:cst (.bool true)=true:=rfl;cases b<;>simp only[b9,f7,a9,hx,hy,h,KC,Kc,Ke,c9]<;>rfl
def f_R4 (h0:tm.get 0=some (.pointer (some ⟨iw,ow,none⟩)))(a:tm.get 6=some (.int .i64 i)){nw e:Nat}(hw:hp.m.get iw=some (.cells cw nw tN e))(d:ow+6<=nw){q:Ar}{l c:Nat}(hn:cw.get (ow+5)=some (.slice q l c))(i0:0<=i)(k:∀tm1,(∀x,x<13->tm1.get x=tm.get x)->tm1.get 23=some (.bool (decide ((l:Int)<=i)))->Q tm1 hp):YN PR ov 32 (cdA (cdA (cdB (cdA (cdA (cdB (cdB fL))))))) tm hp Q:=by
 unfold fL;have b:decide (i<0)=false:=Ll (by omega);refine .region (.o (i5 a) (.o (jR (by simp only[gp];rfl)) ?_));rw[b];refine .o qM (.w (i5 (by simp only[gp];exact a)) (.w (i5 (by simp only[gp];exact h0)) (.w qN (.w qD (.w (qL (h:=((hO hw rfl (by omega)).trans hn))) (.w (gL (by simp only[gp];rfl) rfl) (.w (FY (by simp only[gp];rfl) (by simp only[gp];rfl)) (.o (AA (by simp only[gp];rfl) (by simp only[gp];rfl)) (.nil ⟨.refl _,k _ (fun x h=>?_) ?_⟩)))))))))
 ·simp only[gp];iterate 11 rw[Kg (by omega)]
 ·simp only[gp];rfl
def Dp {n:Int}(a:tm.get 8=some (.int .i64 n))(b:tm.get 9=some (.int .i64 i))(k:∀tm1,(∀x,x≠10->tm1.get x=tm.get x)->tm1.get 10=some (.bool (decide (i<n)))->Q tm1 hp):YN PR ov 32 (cdA fL) tm hp Q:=by unfold fL;exact .region (.o (Aq b a) (.nil ⟨.refl _,k _ (fun x hx=>by rw[gp,Kg hx]) (by rw[gp,Ki rfl])⟩))
theorem f_R7 (a:tm.get 9=some (.int .i64 i))(h0:0<=i)(h1:i<1000000)(k:∀tm1,(∀x,x<9->tm1.get x=tm.get x)->tm1.get 9=some (.int .i64 (i+1))->Q tm1 hp):YN PR ov 32 (cdB (cdB (cdB fL))) tm hp Q:=by
 unfold fL;refine .region (.o (gK a h0 h1) (.o qM (.nil ⟨.refl _,k _ (fun x hx=>?_) ?_⟩)))
 ·simp only[gp];grind
 ·simp only[gp];rfl
def j9 (h:tm.get x=some v):a9 tm (.tmp x)=some v:=by simp only[a9,h,KC]
theorem IS {w s f cm y:Nat}{u:Blk}{F:Nat}(hm:hp.m.get w=some u)(r:rdC u=some (cs,y,F))(z:f<=1000){il ol:Nat}{p:Ah}(L:Loc hp.m.get iw ow p il ol):∀(k0:Nat) (tm:Ao),tm.get 7=some (.slice (some ⟨w,s,none⟩) f cm)->tm.get 0=some (.pointer (some ⟨iw,ow,none⟩))->tm.get 8=some (.int .i64 f)->tm.get 9=some (.int .i64 k0)->k0+p.length=f->(∀(j x:Nat),p[j]? =some x->s+(k0+j)*1+1<=y/\cs.get (s+(k0+j)*1)=some (.int .i64 x))-> ∃tm',XK PR ov 32 (.loop fL) tm hp (.exit 0) tm' hp/\tm'.get 0=some (.pointer (some ⟨il,ol,none⟩)):=by
 induction L with
 |nil iw ow=>
  intro k0 tm h7 h0 k e hk _;have h3:=Dp (ov:=ov) (Q:=fun tm1 hp1=>hp1=hp/\(∀x,x≠10->tm1.get x=tm.get x)/\tm1.get 10=some (.bool (decide ((k0:Int)<(f:Int))))) k e fun tm1 b h=>⟨rfl,b,h⟩
  obtain⟨tm1,hp1,t,rfl,b,h⟩:=h3;rw[Ll (by grind)]at h;refine⟨tm1,.loopX ?_ (by simp),by rw[b 0 (by omega)];exact h0⟩;exact t.seq (.seqX (.condF (j9 h) .exit) (by simp))
 |cons iw ow ic oc j l c N p il ol cw hH hN h5 hj L A=>
  intro k0 tm h7 h0 k e hk hp0;obtain⟨G,H⟩:=hp0 0 j rfl;have round:YN PR ov 32 fL tm hp fun tm1 hp1=>hp1=hp/\tm1.get 7=tm.get 7/\tm1.get 8=tm.get 8/\tm1.get 9=some (.int .i64 ((k0+1:Nat):Int))/\tm1.get 0=some (.pointer (some ⟨ic,oc+j*6,none⟩)):=by
   refine .seq (Dp k e fun t1 b b1=>.seq (.condT (j9 (by rw[b1,decide_eq_true (by grind)])) (.skip (.seq (.block (.seq ?_))))));refine f_R3 (n:=0) (by rw[b 7 (by omega)];exact h7) (by rw[b 9 (by omega)];exact e) (by grind) hm r (by omega) (by omega) fun t2 g b2=>.seq (.seq ?_);refine f_R4 (by grind) b2 hH hN h5 (by omega) fun t3 d b3=>.condF (j9 (by grind)) (.skip ?_);refine f_R6 (j:=0) (by rw[d 0 (by omega),g 0 (by omega) (by omega),b 0 (by omega)];exact h0) (by rw[d 6 (by omega)];exact b2) hH hN h5 (by omega) (by omega) fun t4 o b4=>?_;refine f_R7 (by rw[o 9 (by omega) (by omega),d 9 (by omega),g 9 (by omega) (by omega),b 9 (by omega)];exact e) (by omega) (by omega) fun t5 q b5=>⟨rfl,?_,?_,by rw[b5];rfl,by rw[q 0 (by omega),b4];rfl⟩
   ·rw[q 7 (by omega),o 7 (by omega) (by omega),d 7 (by omega),g 7 (by omega) (by omega),b 7 (by omega)]
   ·rw[q 8 (by omega),o 8 (by omega) (by omega),d 8 (by omega),g 8 (by omega) (by omega),b 8 (by omega)]
  obtain⟨tm1,hp1,t,rfl,B,C,D,q0⟩:=round;obtain⟨tm',E,h⟩:=A (k0+1) tm1 (by rw[B];exact h7) q0 (by rw[C];exact k) D (by grind) (fun a x hx=>by have:=hp0 (a+1) x hx;rwa[show k0+(a+1)=k0+1+a by omega]at this);exact⟨tm',t.loopN E,h⟩
end
section
variable {ov :Aa}{hp:Hp}{tm:Ao}{Q:Ao->Hp->Prop}
def f_R4n {i:Int}(b:tm.get 6=some (.int .i64 i))(i0:i<0)(k:∀tm1,(∀x,x<13->tm1.get x=tm.get x)->tm1.get 23=some (.bool true)->Q tm1 hp):YN PR ov 32 (cdA (cdA (cdB (cdA (cdA (cdB (cdB fL))))))) tm hp Q:=by
 unfold fL;have a:=decide_eq_true i0;refine .region (.o (i5 b) (.o (jR (by simp only[gp];rfl)) ?_));rw[a];refine .o qM (.s (.s (.s (.s (.s (.s (.s (.o (AA (by simp only[gp];rfl) (by simp only[gp];rfl)) (.nil ⟨.refl _,k _ (fun x h=>?_) ?_⟩)))))))))
 ·simp only[gp];iterate 11 rw[Kg (by omega)]
 ·simp only[gp];rfl
def FW (call:c7):xop PR call tm hp (.assign (.const (.pointer none)))=some (.pointer none,hp):=by have h:cst (.pointer none)=true:=rfl;simp only[b9,f7,a9,h,Kc,c9]
def f_R5 (k:∀tm1,tm1.get 4=some (.pointer none)->Q tm1 hp):YR ov 32 (cdA (cdB (cdA (cdB (cdA (cdA (cdB (cdB fL)))))))) tm hp Q:=by unfold fL;exact .seq (.region (.o FW (.nil ⟨.refl _,.ret (k _ (by simp only[gp];rfl))⟩)))
def f_R8 {v:Aw}(h0:tm.get 0=some v)(k:∀tm1,tm1.get 4=some v->Q tm1 hp):YR ov 32 (cdB (cdB (D2 PR fF))) tm hp Q:=by exact .seq (.region (.o (i5 h0) (.o qA (.nil ⟨.refl _,.ret (k _ (by simp only[gp];rfl))⟩))))
end
inductive NoL (H:FB):Nat->Nat->Ak->Prop
 |here (iw ow l c N:Nat) (i:Int) (p:Ak) (q:Ar) (cs:Ao) (hH:H iw=some (.cells cs N tN 6)) (hN:ow+6<=N) (h5:cs.get (ow+5)=some (.slice q l c)) (hi:i<0\/(l:Int)<=i):NoL H iw ow (i::p)
 |there (iw ow ic oc j l c N:Nat) (p:Ak) (cs:Ao) (hH:H iw=some (.cells cs N tN 6)) (hN:ow+6<=N) (h5:cs.get (ow+5)=some (.slice (some ⟨ic,oc,none⟩) l c)) (hj:j<l) (h:NoL H ic (oc+j*6) p):NoL H iw ow ((j:Int)::p)
section
variable {ov :Aa}{hp:Hp}
variable {cs:Ao}
theorem GG {k d a cm o:Nat}{e:Blk}{w:Nat}(hm:hp.m.get k=some e)(b:rdC e=some (cs,o,w))(u:a<=1000){iw ow ic oc j l c N k0:Nat}{cw tm:Ao}(hH:hp.m.get iw=some (.cells cw N tN 6))(hN:ow+6<=N)(h5:cw.get (ow+5)=some (.slice (some ⟨ic,oc,none⟩) l c))(hj:j<l)(h7:tm.get 7=some (.slice (some ⟨k,d,none⟩) a cm))(h0:tm.get 0=some (.pointer (some ⟨iw,ow,none⟩)))(t:tm.get 8=some (.int .i64 a))(h:tm.get 9=some (.int .i64 k0))(hk:k0<a)(r:d+k0*1+1<=o)(s:cs.get (d+k0*1)=some (.int .i64 (j:Int))):YN PR ov 32 fL tm hp fun tm1 hp1=>hp1=hp/\tm1.get 7=tm.get 7/\tm1.get 8=tm.get 8/\tm1.get 9=some (.int .i64 ((k0+1:Nat):Int))/\tm1.get 0=some (.pointer (some ⟨ic,oc+j*6,none⟩)):=by
 refine .seq (Dp t h fun t1 f b1=>.seq (.condT (j9 (by grind)) (.skip (.seq (.block (.seq (f_R3 (n:=0) (by rw[f 7 (by omega)];exact h7) (by grind) hk hm b r s fun t2 p b2=>.seq (.seq (f_R4 (by grind) b2 hH hN h5 (by omega) fun t3 g b3=>.condF (j9 (by grind)) (.skip (f_R6 (j:=0) (by grind) (by rw[g 6 (by omega)];exact b2) hH hN h5 (by omega) (by omega) fun t4 q b4=>f_R7 (by rw[q 9 (by omega) (by omega),g 9 (by omega),p 9 (by omega) (by omega),f 9 (by omega)];exact h) (by omega) (by omega) fun t5 y b5=>⟨rfl,?_,?_,by grind,by grind⟩)))))))))))
 ·grind
 ·grind
def YR.block {nt d:Nat}{c:Code}{tm:Ao}{Q:Ao->Hp->Prop}(h:YR ov nt c tm hp Q):YR ov nt (.block d c) tm hp Q:=by obtain⟨t1,h1,k1,k2⟩:=h;exact⟨t1,h1,⟨k1.run.map fun n m ds b a=>by simp only[f9,a],k1.kp⟩,k2⟩
theorem GF {t k e cm u:Nat}{r:Blk}{E:Nat}(hm:hp.m.get t=some r)(b:rdC r=some (cs,u,E))(g:e<=1000){iw ow:Nat}{p:Ak}(L:NoL hp.m.get iw ow p):∀(k0:Nat) (tm:Ao),tm.get 7=some (.slice (some ⟨t,k,none⟩) e cm)->tm.get 0=some (.pointer (some ⟨iw,ow,none⟩))->tm.get 8=some (.int .i64 e)->tm.get 9=some (.int .i64 k0)->k0+p.length=e->(∀(j:Nat) (x:Int),p[j]? =some x->k+(k0+j)*1+1<=u/\cs.get (k+(k0+j)*1)=some (.int .i64 x))-> ∃tm',XK PR ov 32 (.loop fL) tm hp .ret tm' hp/\tm'.get 4=some (.pointer none):=by
 induction L with
 |here iw ow l c N i p q cw hH hN h5 hi=>
  intro k0 tm h7 h0 f d hk hp0;obtain⟨y,z⟩:=hp0 0 i rfl;simp at hk;have round:YR ov 32 fL tm hp fun tm1 hp1=>hp1=hp/\tm1.get 4=some (.pointer none):=by
   refine .seq (Dp f d fun t1 s b1=>.seq (.condT (j9 (by rw[b1,decide_eq_true (by omega)])) (.skip (.seqX (.block (.seq (f_R3 (n:=0) (by rw[s 7 (by omega)];exact h7) (by rw[s 9 (by omega)];exact d) (by omega) hm b (by omega) (by omega) fun t2 F b2=>.seqX (.seq ?_))))))));by_cases i0:i<0
   ·exact f_R4n b2 i0 fun t3 w b3=>.condT (j9 b3) (f_R5 fun t4 b4=>⟨rfl,b4⟩)
   ·exact f_R4 (by grind) b2 hH hN h5 (by omega) fun t3 w b3=>.condT (j9 (by grind)) (f_R5 fun t4 b4=>⟨rfl,b4⟩)
  obtain⟨tm1,hp1,o,rfl,B⟩:=round;exact⟨tm1,o.loopX (by simp),B⟩
 |there iw ow ic oc j l c N p cw hH hN h5 hj L A=>intro k0 tm h7 h0 f d hk hp0;obtain⟨y,z⟩:=hp0 0 j rfl;simp at hk;obtain⟨tm1,hp1,o,rfl,G,H,C,q0⟩:=GG (ov:=ov) hm b g hH hN h5 hj h7 h0 f d (by omega) (by omega) (by omega);obtain⟨tm',D,h⟩:=A (k0+1) tm1 (by grind) q0 (by grind) C (by omega) (fun a x hx=>by have:=hp0 (a+1) x hx;rwa[show k0+(a+1)=k0+1+a by omega]at this);exact⟨tm',o.loopN D,h⟩
end
def gC :a8->Ak->Bc a8
 |t,[]=>some t|t,i::p=>if 0<=i then match t.c[i.toNat]? with
  |some s=>gC s p|none=>none
  else none
theorem vl :∀ {t s:a8} {p:Ak},gC t p=some s-> ∃q:Ah,p=q.map Int.ofNat/\Ca t q=some s
 |t,s,[],h=>⟨[],rfl,h⟩
 |t,s,i::p,h=>by
  unfold gC at h;split at h
  ·rename_i h0;split at h
   ·rename_i c hc;obtain⟨q,rfl,h2⟩:=vl h;refine⟨i.toNat::q,by grind,?_⟩;unfold Ca;grind
   ·cases h
  ·cases h
theorem TB.nowhere {H:FB}:∀ {p:Ak} {S:Ah} {t:a8} {iw ow N:Nat} {cs:Ao},TB H S t (at6 cs ow)->H iw=some (.cells cs N tN 6)->ow+6<=N->gC t p=none->NoL H iw ow p
 | [],S,t,iw,ow,N,cs,h,hH,hN,hp=>by cases hp
 |i::p,S,t,iw,ow,N,cs,h,hH,hN,hp=>by
  obtain⟨_,_,va,vc,ia,ic,oa,oc,ca,cc,Ss,hf,h3,h5,ha,hac,hc,hl,hb,hba,hk⟩:=h;obtain⟨q,c,rfl⟩:=hc.sl;by_cases hi:i<0\/(t.c.length:Int)<=i
  ·exact .here iw ow _ c N i p q cs hH hN h5 hi
  ·rw[not_or]at hi;have hlt:i.toNat<t.c.length:=by omega
   have a:=JX hlt;have g:i.toNat<Ss.length:=by omega
   unfold gC at hp;rw[Ki (by omega),a]at hp;rcases hc with⟨e,_⟩| ⟨i0,c0,k,rfl,j,d,b,f⟩
   ·omega
   ·cases j;have:=TB.nowhere (hk i.toNat _ _ a (JX g)) b (by omega) hp;have e:(i.toNat:Int)=i:=by omega
    have r:=NoL.there iw ow i0 oc i.toNat _ c N p cs hH hN h5 hlt this;grind
theorem Hj {F:FB}{l:Ak}{v:Aw}(h:PV PR F (.sl 3) v (.lst (l.map row))):l=[]/\(∃q c,v= .slice q 0 c)\/ ∃i o c b cs n z,v= .slice (some ⟨i,o,none⟩) l.length c/\F i=some b/\rdC b=some (cs,n,z)/\o+l.length*1<=n/\ ∀(j:Nat) x,l[j]? =some x->cs.get (o+j*1)=some (.int .i64 x):=by
 generalize p:l.map row=L at h;have k:L.length=l.length:=by grind
 cases h with
 |nils=>grind|vague=>grind|sl e i o c b cs n z g x hF hb hc hn hz hr hx hp=>
  have f:z=1:=by rw[hz,kf_I];rfl
  subst f;refine .inr ⟨i,o,c,b,cs,n,_,by grind,hF,hb,by omega,fun j y hy=>?_⟩;have a:L[j]? =some (row y):=by grind
  have h0:=hx j 0 (row y) _ a rfl;have m:=hp j 0 (row y) (.int .i64) _ a rfl rfl;cases d:x j 0<;>rw[d]at m<;>cases m;grind
section
variable {ov :Aa}{hp:Hp}{tm:Ao}{Q:Ao->Hp->Prop}
def f_R0 (k:∀tm1,(∀x,x<4->tm1.get x=tm.get x)->Q tm1 hp):YN PR ov 32 (cdA (D2 PR fF)) tm hp Q:=by exact .region (.o FW (.nil ⟨.refl _,k _ fun x hx=>by rw[gp,Kg (by omega)]⟩))
theorem f_R1 {q:Ar}{l c:Nat}(h1:tm.get 1=some (.slice q l c))(k:∀tm1,(∀x,x<7->tm1.get x=tm.get x)->tm1.get 7=some (.slice q l c)->tm1.get 8=some (.int .i64 l)->tm1.get 9=some (.int .i64 0)->Q tm1 hp):YN PR ov 32 (cdA (cdA (cdB (D2 PR fF)))) tm hp Q:=by
 refine .region (.o (i5 h1) (.o (kV IB (by simp only[gp];rfl) rfl) (.o xU (.nil ⟨.refl _,k _ (fun x hx=>?_) ?_ ?_ ?_⟩))))
 ·simp only[gp];grind
 all_goals (simp only[gp];rfl)
theorem GI (V:Go.Xe.isT (ov fF)=false){F:FB}{v:Aw}{p:Ak}(hF:FH F hp)(E:PV PR F (.sl 3) v (.lst (p.map row)))(hl:p.length<=1000){S:Ah}{t:a8}{iw ow N:Nat}{cs:Ao}(K:TB hp.m.get S t (at6 cs ow))(D:S.Nodup)(hi:iw∉S)(hH:hp.m.get iw=some (.cells cs N tN 6))(hN:ow+6<=N):∃hp' r,A4 PR ov fF [.pointer (some ⟨iw,ow,none⟩),v] hp r hp'/\hp'.nx=hp.nx/\l9 hp hp'/\(∀j,hp.m.get j≠some .dfr->hp'.m.get j=hp.m.get j)/\((gC t p=none/\r= .pointer none)\/ ∃s q il ol Nl csl S1,gC t p=some s/\p=q.map Int.ofNat/\Ca t q=some s/\r= .pointer (some ⟨il,ol,none⟩)/\hp.m.get il=some (.cells csl Nl tN 6)/\ol+6<=Nl/\TB hp.m.get S1 s (at6 csl ol)/\il∉S1/\S1.Nodup/\(∀q∈S1,q∈S)/\(il=iw\/il∈S)/\UpT hp.m.get S S1 t q iw ow N cs il ol Nl csl):=by
 obtain⟨G,J,rfl⟩:=N5 E;have C:(p.map row).length=p.length:=Kf ..;rw[C]at E⊢;have g:∀r,YR ov 32 (D2 PR fF) (fill .e 0 [.pointer (some ⟨iw,ow,none⟩),.slice G p.length J]) hp (fun tm' hp'=>tm'.get 4=some r/\hp'=hp)-> ∃hp',A4 PR ov fF [.pointer (some ⟨iw,ow,none⟩),.slice G p.length J] hp r hp'/\hp'.nx=hp.nx/\l9 hp hp'/\(∀j,hp.m.get j≠some .dfr->hp'.m.get j=hp.m.get j):=by intro r h;obtain⟨tm',hp',hp2,rfl,O,P,R,U⟩:=lN f_fn rfl rfl (by kernel_rfl) V rfl h;grind
 have d : ∀ {q : Ak}, (∃ (y k : Nat) (w : Blk) (cm : Ao) (A I : Nat), G = some ⟨y, k, none⟩ ∧ hp.m.get y = some w ∧ rdC w = some (cm, A, I) ∧ k + p.length * 1 ≤ A ∧ ∀ (j : Nat) x, p[j]? = some x → cm.get (k + j * 1) = some (.int .i64 x)) ∨ p = [] := by
  intro _;rcases Hj E with⟨h,_⟩| ⟨i,o,c,b,cs',n,z,h1,h2,h3,h4,h5⟩
  ·grind
  ·cases h1;exact .inl ⟨i,o,b,cs',n,z,rfl,(hF i b h2).1,h3,h4,h5⟩
 cases hs:gC t p with
 |none=>
  have L:=K.nowhere hH hN hs;obtain⟨hp',O,P,R,U⟩:=g (.pointer none) (by
   refine .seq (f_R0 fun tm1 f=>.seqX (.seq (f_R1 (by rw[f 1 (by omega),d7];rfl) fun a H b7 l u=>.block ?_)));rcases d (q:=p)with⟨y,k,w,cm,A,I,rfl,k1,k2,k3,M⟩|rfl
   ·obtain⟨tm',x,h4⟩:=GF k1 k2 hl L 0 a b7 (by rw[H 0 (by omega),f 0 (by omega),d7];rfl) l u (by omega) fun j x hx=>by have:=(JO.1 hx).1;exact(by grind)
    exact⟨tm',hp,x,h4,rfl⟩
   ·cases hs)
  exact(by grind)
 |some s=>
  obtain⟨q,rfl,h2⟩:=vl hs;obtain⟨il,ol,Nl,csl,S1,k1,k2,k3,M,X,Y,Z,kl,k8⟩:=TB.path q K D hi hH hN h2;obtain⟨hp',O,P,R,U⟩:=g (.pointer (some ⟨il,ol,none⟩)) (by
   refine .seq (f_R0 fun tm1 f=>.seq (.seq (f_R1 (by rw[f 1 (by omega),d7];rfl) fun a H b7 l u=>?_)));have b0:a.get 0=some (.pointer (some ⟨iw,ow,none⟩)):=by rw[H 0 (by omega),f 0 (by omega),d7];rfl
   obtain⟨tm',x,h0⟩:∃tm',XK PR ov 32 (.loop fL) a hp (.exit 0) tm' hp/\tm'.get 0=some (.pointer (some ⟨il,ol,none⟩)):=by
    rcases d (q:=q.map Int.ofNat)with⟨y,k,w,cm,A,I,rfl,k1,k2,k3,M⟩|e
    ·exact IS k1 k2 hl kl 0 a b7 b0 l u (by simp) fun j x hx=>by have:=(JO.1 hx).1;rw[Kf]at k3;exact(by grind)
    ·have e:q=[]:=by grind
     subst e;cases kl;obtain⟨tm1,hp1,f,rfl,B,h⟩:=Dp (ov:=ov) (Q:=fun tm1 hp1=>hp1=hp/\(∀x,x≠10->tm1.get x=a.get x)/\tm1.get 10=some (.bool (decide ((0:Int)<(0:Int))))) l u fun tm1 B h=>⟨rfl,B,h⟩
     exact⟨tm1,.loopX (f.seq (.seqX (.condF (j9 h) .exit) (by simp))) (by simp),by rw[B 0 (by omega)];exact b0⟩
   refine⟨tm',hp,x.blockX,f_R8 h0 fun W h4=>⟨h4,rfl⟩⟩)
  exact(by grind)
end
end Go.D
