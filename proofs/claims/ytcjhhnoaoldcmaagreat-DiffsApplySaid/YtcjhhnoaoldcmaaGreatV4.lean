/- The reference's children, in the executor: whole (DiffsApply).
  Conditions: none. -/
import Derived.Test.YtcjhhnoaoldcmaaGreatV3
set_option linter.all false
set_option maxRecDepth 10000
noncomputable section
namespace Go.D
open Go Go.Xe Go.Sx Go.RowKit
open Go.C36 (row)
def StpR (F:FB)(s:Stp)(vs:Af):Prop:=vs.length=12/\vs[0]? =some (.int .i64 s.w)/\vs[4]? =some (.int .i64 s.i)/\vs[5]? =some (.int .i64 s.o)/\RN F s.t (fun q=>vs[6+q]?)
def Jy {F:FB}{t:a8}{ws:Af}(j:ws.length=6)(h:RN F t (fun q=>ws[q]?)):veq 1000 (.agg ws.toArray) (.agg ws.toArray)=true:=by
 obtain⟨⟨h0,h1,h2,⟨va,h3,g⟩,h4⟩,vc,h5,i⟩:=h;obtain⟨a,b,c,d,e,f,rfl⟩:=ub j;obtain⟨q1,o,rfl⟩:=N5 g;obtain⟨q2,p,rfl⟩:=N5 i;cases h0;cases h1;cases h2;cases h3;cases h4;cases h5;show dB (veq 999) [_,_,_,_,_,_] [_,_,_,_,_,_]=true;have s1:∀a:ByteArray,veq 999 (.string a) (.string a)=true:=fun a=>by show(a.data.toList==a.data.toList)=true;simp
 have s2:∀q l c,veq 999 (.slice q l c) (.slice q l c)=true:=fun q l c=>by show(decide (q=q)&&Nat.beq l l&&Nat.beq c c)=true;simp
 have n:∀k a,veq 999 (.int k a) (.int k a)=true:=fun k a=>by show(decide (k=k)&&decide (a=a))=true;simp
 simp[dB,s1,s2,n]
section
variable {ov :Aa}{hp0 hp hp':Hp}{tm tm':Ao}{F F1:FB}{m ch:a8}{s:Stp}{us vs ws:Af}
def EQ {t:a8}(hk:g8 PR U0 ov cRchk 15)(hF:FH F hp)(b:ws.length=6)(h:RN F t (fun q=>ws[q]?)):∃hp' n,A4 PR ov 15 [.agg ws.toArray] hp (.int .i64 n) hp'/\New hp hp'/\(n=0↔z7 t):=by obtain⟨v,F',hp',a,c,d,k,l,o,f,g,i,j⟩:=hk.use rfl rfl rfl rfl (es:=ndE t 0) rfl (⟨t,rfl,rfl,rfl,rfl,rfl,rfl⟩) hF (.cons (sq 0 b h) MC);obtain⟨e,rfl⟩:=wJ (g);cases j;exact⟨hp',e.toI U0,c,⟨d.nx,f⟩,(i t ⟨rfl,rfl,rfl,rfl,rfl,rfl⟩).1⟩
structure Ch (us vs ws:Af)(hp0:Hp)(tm:Ao)(hp:Hp):Prop where
 t2:tm.get 2=some (.pointer (some ⟨hp0.nx,0,none⟩))
 t3:tm.get 3=some (.pointer (some ⟨hp0.nx+1,0,none⟩))
 t4:tm.get 4=some (.pointer (some ⟨hp0.nx+2,0,none⟩))
 t7:tm.get 7=some (.pointer (some ⟨hp0.nx+3,0,none⟩))
 nw:New hp0 hp
 lt:hp0.nx+4<=hp.nx
 hb2:hp.m.get hp0.nx=some (.cells (fill .e 0 us) 6 tN 6)
 hb3:hp.m.get (hp0.nx+1)=some (.cells (fill .e 0 vs) 12 tRs 12)
 hb4:hp.m.get (hp0.nx+2)=some (.cells zB 6 tN 6)
 hb7:∃d,hp.m.get (hp0.nx+3)=some (.cells d 6 tN 6)/\d6 d 0 6=some ws
def Ch.next (C:Ch us vs ws hp0 tm hp)(h:New hp hp')(ht:∀x,x<8->x≠6->tm'.get x=tm.get x):Ch us vs ws hp0 tm' hp':=by have h1:=h.nx;have h2:=C.lt;obtain⟨d,h3,h4⟩:=C.hb7;exact⟨(ht 2 (by omega) (by omega)).trans C.t2,(ht 3 (by omega) (by omega)).trans C.t3,(ht 4 (by omega) (by omega)).trans C.t4,(ht 7 (by omega) (by omega)).trans C.t7,C.nw.trans h,by omega,(h.old _ (by omega)).trans C.hb2,(h.old _ (by omega)).trans C.hb3,(h.old _ (by omega)).trans C.hb4,⟨d,(h.old _ (by omega)).trans h3,h4⟩⟩
def Cr (hp0:Hp)(F:FB)(r:Except Int a8)(tm':Ao)(hp':Hp):Prop:=∃(d:Ao) (ws:Af) (F':FB) (x:a8) (e:Int),tm'.get 4=some (.pointer (some ⟨hp0.nx+2,0,none⟩))/\tm'.get 5=some (.int .i64 e)/\hp'.m.get (hp0.nx+2)=some (.cells d 6 tN 6)/\d6 d 0 6=some ws/\ws.length=6/\New hp0 hp'/\Fle F F'/\FH F' hp'/\(∀q b,F' q=some b->F q=some b\/hp0.nx<=q)/\RN F' x (fun q=>ws[q]?)/\
 match r with
 | .ok t=>e=0/\x=t| .error n=>e=n
def Cr.err {d:Ao}{e:Int}(C:Ch us vs ws hp0 tm hp)(hF:FH F hp0)(a:us.length=6)(c:RN F m (fun q=>us[q]?))(h4:tm'.get 4=some (.pointer (some ⟨hp0.nx+2,0,none⟩)))(h5:tm'.get 5=some (.int .i64 e)):Cr hp0 F (.error e) tm' ⟨hp.m.set (hp0.nx+2) (some (.cells (fill d 0 us) 6 tN 6)),hp.nx⟩:=by
 have nw:New hp0 ⟨hp.m.set (hp0.nx+2) (some (.cells (fill d 0 us) 6 tN 6)),hp.nx⟩:=⟨C.nw.nx,fun j hj=>by rw[Mw,Kg (by omega),C.nw.old j hj]⟩
 exact⟨fill d 0 us,us,F,m,e,h4,h5,by rw[Mw,Ki rfl],r0 a,a,nw,fun _ _ h=>h,D8 hF nw,fun q b h=>.inl h,c,rfl⟩
variable {v1:Aw}{l1:List a8}
theorem Dg (C:Ch us vs ws hp0 tm hp)(p:us.length=6)(r:RN F m (fun q=>us[q]?))(i:tm.get 6=some v1)(d:Fle F F1)(a:FH F1 hp)(f:∀q b,F1 q=some b->F q=some b\/hp0.nx+4<=q)(hF:FH F hp0)(l:PV PR F1 (.sl tN) v1 (.lst (rows l1))):YR ov 76 (.seq (cdA cc5) (cdB cc5)) tm hp fun tm' hp'=>Cr hp0 F (.ok (rV m l1)) tm' hp':=by
 obtain⟨q,c,rfl⟩:=N5 l;obtain⟨a0,a1,a2,a3,a4,a5,rfl⟩:=ub p;have k:d6 (fill (fill .e 0 [a0,a1,a2,a3,a4,a5]) 5 [.slice q (rows l1).length c]) 0 6=some [a0,a1,a2,a3,a4,.slice q (rows l1).length c]:=by
  refine i8 (vs:=[a0,a1,a2,a3,a4,.slice q (rows l1).length c]) fun j hj=>?_;rw[Ks,f6];by_cases e:j=5
  ·grind
  ·rw[Kg (by grind),d7]
   match j,hj,e with
   |0,_,_=>rfl|1,_,_=>rfl|2,_,_=>rfl|3,_,_=>rfl|4,_,_=>rfl|5,_,e=>grind
 have n:RN F1 (rV m l1) (fun j=>[a0,a1,a2,a3,a4,.slice q (rows l1).length c][j]?):=by obtain⟨⟨h0,h1,h2,⟨va,h3,g⟩,h4⟩,vc,h5,o⟩:=r;exact⟨⟨h0,h1,h2,⟨va,h3,g.mono PR d⟩,h4⟩,_,rfl,l⟩
 refine C_R14 i C.t2 C.hb2 k rfl (n.one rfl) C.t4 C.hb4 (by omega) fun tm1 h4 h5=>?_;have gs:∀j,j≠hp0.nx->j≠hp0.nx+2->((hp.m.set hp0.nx (some (.cells (fill (fill .e 0 [a0,a1,a2,a3,a4,a5]) 5 [.slice q (rows l1).length c]) 6 tN 6))).set (hp0.nx+2) (some (.cells (fill zB 0 [a0,a1,a2,a3,a4,.slice q (rows l1).length c]) 6 tN 6))).get j=hp.m.get j:=fun j h1 h2=>by rw[Mw,Kg h2,Mw,Kg h1]
 refine⟨fill zB 0 [a0,a1,a2,a3,a4,.slice q (rows l1).length c],_,F1,rV m l1,0,h4.trans C.t4,h5,by rw[Mw,Ki rfl],r0 rfl,rfl,⟨C.nw.nx,fun j hj=>by rw[gs j (by omega) (by omega),C.nw.old j hj]⟩,d,fun x b h=>⟨?_,(a x b h).2⟩,fun x b h=>(f x b h).imp id fun h=>by omega,n,rfl,rfl⟩;rcases f x b h with h'|h'
 ·have:=(hF x b h').2;rw[gs x (by omega) (by omega)];exact(a x b h).1
 ·rw[gs x (by omega) (by omega)];exact(a x b h).1
theorem yz (C:Ch us vs ws hp0 tm hp)(hs:StpR F s vs)(hw:s.w=4\/s.w=5\/s.w=6)(f:us.length=6)(p:RN F m (fun q=>us[q]?))(k:tm.get 6=some v1)(g:Fle F F1)(l:FH F1 hp)(y:∀q b,F1 q=some b->F q=some b\/hp0.nx+4<=q)(hF:FH F hp0)(A:PV PR F1 (.sl tN) v1 (.lst (rows l1)))(hl:l1.length<=998)(H:ws.length=6)(n:RN F ch (fun q=>ws[q]?)):YR ov 76 (.seq (.seq (cdA (cdA cc4)) (.cond (.tmp 48) ccZ .skip)) (.seq (cdA cc5) (cdB cc5))) tm hp fun tm' hp'=>Cr hp0 F (if s.w≠4/\(s.o<0\/(l1.length:Int)<s.o)then .error 1 else .ok (rV m (if s.w=4 then l1 else G7 l1 s.o ch))) tm' hp':=by
 have lt:=C.lt;by_cases r:s.w=4
 ·rw[Kg (fun h=>h.1 r),Ki r];exact .seq (.seq (Ct C.t3 C.hb3 hs.2.1 fun tm1 a j=>.condF (j9 (by grind)) (.skip (Dg (C.next (Ma hp) fun x hx _=>a x (by omega)) f p (by grind) g l y hF A))))
 ·have R:=decide_eq_true (by omega);obtain⟨q,c,t⟩:=N5 A;have M:(rows l1).length=l1.length:=by grind
  rw[M]at t;rw[Kg r];by_cases e:s.o<0\/(l1.length:Int)<s.o
  ·rw[Ki ⟨r,e⟩];refine .seqX (.seq (Ct C.t3 C.hb3 hs.2.1 fun tm1 a j=>.condT (j9 (by grind)) (.seqX (.seq (HS (by rw[a 6 (by omega),k,t]) (by rw[a 3 (by omega)];exact C.t3) C.hb3 hs.2.2.2.1 fun B E u=>.condT (j9 (by grind)) ?_)))));have C2:=C.next (Ma hp) fun x hx _=>(E x (by omega)).trans (a x (by omega));exact C_R12 C2.t2 C2.hb2 f (p.one f) C2.t4 C2.hb4 fun D h4 h5=>Cr.err C2 hF f p (h4.trans C2.t4) h5
  ·rw[Kg (fun h=>e h.2)];obtain⟨o,G⟩:∃o:Nat,s.o=o:=⟨s.o.toNat,by omega⟩
   obtain⟨d,hb7,z⟩:=C.hb7;refine .seq (.seq (Ct C.t3 C.hb3 hs.2.1 fun tm1 a j=>.condT (j9 (by grind)) (.seq (.seq (HS (by rw[a 6 (by omega),k,t]) (by rw[a 3 (by omega)];exact C.t3) C.hb3 hs.2.2.2.1 fun B E u=>.condF (j9 (by grind)) (.skip ?_))))));have C2:=C.next (Ma hp) fun x hx _=>(E x (by omega)).trans (a x (by omega));refine C_R13 (i:=o) l A hl (by omega) (by grind) C2.t3 C2.t7 C2.hb3 (by omega) (by rw[<-G];exact hs.2.2.2.1) hb7 (by omega) z H (n.mono g) (Jy H n) fun D L Q T P N J K S v O=>?_;have I:=C2.next N fun x hx f=>P x (by omega) f;rw[G];exact Dg I f p v (fun q b h=>J q b (g q b h)) K (by grind) hF O
def Gu (hk:g8 PR U0 ov cRchk 15)(hF:FH F hp0)(hs:StpR F s vs)(hw:s.w=4\/s.w=5\/s.w=6)(n:us.length=6)(B:RN F m (fun q=>us[q]?))(hl:m.c.length<=998):YR ov 76 cc0 (fill .e 0 [.agg us.toArray,.agg vs.toArray]) hp0 fun tm' hp'=>Cr hp0 F (H2 m s) tm' hp':=by
 have h12:=hs.1;have rn:RN F s.t (fun q=>(vs.drop 6)[q]?):=hs.2.2.2.2.win fun q hq=>Kz ..;have u:(vs.drop 6).length=6:=by rw[KN];omega
 have aa:=B;obtain⟨-,vc,ab,v⟩:=aa;obtain⟨qv,cv,V⟩:=N5 v;have lr:(rows m.c).length=m.c.length:=by simp[rows]
 rw[lr]at V;rw [cc0_c];refine .seq (C_R0 rfl (by rfl) n h12 fun tm1 hp1 I J g2 g3 g4 t2 t3 t4=>?_);refine .seq (C_R1 t2 g2 ab fun ah P X=>.seq (C_R2 (by rw[P 3 (by omega)];exact t3) g3 h12 (rn.one u) fun K Q h7=>?_));have gs:∀j,j≠hp1.nx->((hp1.m.set hp1.nx (some (.cells zB 6 tN 6))).set hp1.nx (some (.cells (fill zB 0 (vs.drop 6)) 6 tN 6))).get j=hp1.m.get j:=fun j hj=>by rw[Mw,Kg hj,Mw,Kg hj]
 have C:Ch us vs (vs.drop 6) hp0 K ⟨(hp1.m.set hp1.nx (some (.cells zB 6 tN 6))).set hp1.nx (some (.cells (fill zB 0 (vs.drop 6)) 6 tN 6)),hp1.nx+1⟩:=by
  refine⟨by rw[Q 2 (by omega),P 2 (by omega)];exact t2,by rw[Q 3 (by omega),P 3 (by omega)];exact t3,by rw[Q 4 (by omega),P 4 (by omega)];exact t4,by rw[h7,I],⟨by show hp0.nx<=hp1.nx+1;omega,fun j hj=>?_⟩,by show hp0.nx+4<=hp1.nx+1;omega,?_,?_,?_,⟨fill zB 0 (vs.drop 6),?_,r0 u⟩⟩
  ·show(_:T Blk).get j=_;rw[gs j (by omega),J j hj]
  ·show(_:T Blk).get _=_;rw[gs _ (by omega)];exact g2
  ·show(_:T Blk).get _=_;rw[gs _ (by omega)];exact g3
  ·show(_:T Blk).get _=_;rw[gs _ (by omega)];exact g4
  ·show(_:T Blk).get _=_;rw[<-I,Mw,Ki rfl]
 have o:K.get 6=some vc:=by rw[Q 6 (by omega)];exact X
 revert C;generalize (⟨(hp1.m.set hp1.nx (some (.cells zB 6 tN 6))).set hp1.nx (some (.cells (fill zB 0 (vs.drop 6)) 6 tN 6)),hp1.nx+1⟩:Hp)=a;intro C;have H:FH F a:=D8 hF C.nw;have ac:=C.lt;by_cases l:s.w=5
 ·obtain⟨d,hb7,A⟩:=C.hb7;obtain⟨ad,e,r1,O,r3⟩:=EQ hk H u rn;by_cases he:e=0
  ·have hV:=r3.1 he;have U:G3 m s=m.c:=by unfold G3;rw[Ki l]
   have R:child m s=s.t:=by unfold child;rw[Ki l]
   rw[jm (fun h=>h.2 hV) (fun h=>h.1 l),U,R];refine .seq (.seq (C_R3 C.t3 C.hb3 hs.2.1 fun D f g=>.condT (j9 (by rw[g,decide_eq_true l])) ?_));refine .seq (C_R4 (by rw[f 7 (by omega)];exact C.t7) hb7 A r1 O.keeps fun E p y=>.condF (j9 (by rw[y,decide_eq_true he];rfl)) (.skip ?_));have C5:=C.next O fun x hx _=>(p x (by omega)).trans (f x (by omega));exact yz C5 hs hw n B (by rw[p 6 (by omega),f 6 (by omega)];exact o) (fun _ _ h=>h) (D8 hF C5.nw) (fun q b h=>.inl h) hF v hl u rn
  ·have hV:¬z7 s.t:=fun h=>he (r3.2 h);have S:H2 m s= .error 14:=by unfold H2;rw[Ki ⟨l,hV⟩]
   rw[S];refine .seqX (.seq (C_R3 C.t3 C.hb3 hs.2.1 fun D f g=>.condT (j9 (by rw[g,decide_eq_true l])) ?_));refine .seq (C_R4 (by rw[f 7 (by omega)];exact C.t7) hb7 A r1 O.keeps fun E p y=>.condT (j9 (by rw[y,Ll he];rfl)) ?_);have C5:=C.next O fun x hx _=>(p x (by omega)).trans (f x (by omega));exact C_R5 C5.t2 C5.hb2 n (B.one n) C5.t4 C5.hb4 fun G h4 h5=>Cr.err C5 hF n B (h4.trans C5.t4) h5
 ·by_cases k:s.i<0\/(m.c.length:Int)<=s.i
  ·have S:H2 m s= .error 11:=by unfold H2;rw[Kg (fun h=>l h.1),Ki ⟨l,k⟩]
   rw[S];refine .seqX (.seq (C_R3 C.t3 C.hb3 hs.2.1 fun D f g=>.condF (j9 (by rw[g,Ll l])) ?_));refine .seqX (.seq (C_R6 (by rw[f 6 (by omega),o,V]) (by rw[f 3 (by omega)];exact C.t3) C.hb3 hs.2.2.1 fun E p z=>.condT (j9 (by rw[z,decide_eq_true k])) ?_));have C5:=C.next (Ma a) fun x hx _=>(p x (by omega)).trans (f x (by omega));exact C_R7 C5.t2 C5.hb2 n (B.one n) C5.t4 C5.hb4 fun G h4 h5=>Cr.err C5 hF n B (h4.trans C5.t4) h5
  ·obtain⟨i,hi⟩:∃i:Nat,s.i=i:=⟨s.i.toNat,by omega⟩
   have r:i<m.c.length:=by omega
   obtain⟨c,hc⟩:∃c,m.c[i]? =some c:=⟨_,JX r⟩
   obtain⟨ic,oc,cc,bc,dc,nc,zc,ws,W,p1,p2,p3,p4,N,p6⟩:=EN v hc;obtain⟨d,hb7,A⟩:=C.hb7;have U:G3 m s=E8 m.c i:=by unfold G3;rw[Kg l,hi]
   have R:child m s=c:=by unfold child;rw[Kg l,hi,KB,Kr,hc];rfl
   rw[jm (fun h=>l h.1) (fun h=>k h.2),U,R];refine .seq (.seq (C_R3 C.t3 C.hb3 hs.2.1 fun D f g=>.condF (j9 (by rw[g,Ll l])) ?_));refine .seq (.seq (C_R6 (by rw[f 6 (by omega),o,V]) (by rw[f 3 (by omega)];exact C.t3) C.hb3 hs.2.2.1 fun E p z=>.condF (j9 (by rw[z,Ll k])) (.skip ?_)));have C5:=C.next (Ma a) fun x hx _=>(p x (by omega)).trans (f x (by omega));refine .seq (C_R8 (by rw[p 6 (by omega),f 6 (by omega),o,W]) C5.t3 C5.t7 C5.hb3 (by rw[<-hi];exact hs.2.2.1) r (H ic bc p1).1 p2 p3 p4 N (p6.one N) hb7 fun G L=>?_);have M:∀j,j≠hp0.nx+3->(a.m.set (hp0.nx+3) (some (.cells (fill d 0 ws) 6 tN 6))).get j=a.m.get j:=fun j hj=>by rw[Mw,Kg hj]
   have C6:Ch us vs ws hp0 G ⟨a.m.set (hp0.nx+3) (some (.cells (fill d 0 ws) 6 tN 6)),a.nx⟩:=by
    refine⟨(L 2 (by omega)).trans C5.t2,(L 3 (by omega)).trans C5.t3,(L 4 (by omega)).trans C5.t4,(L 7 (by omega)).trans C5.t7,⟨C.nw.nx,fun j hj=>?_⟩,ac,?_,?_,?_,⟨fill d 0 ws,?_,r0 N⟩⟩
    ·show(a.m.set _ _).get j=_;rw[M j (by omega),C.nw.old j hj]
    ·show(a.m.set _ _).get _=_;rw[M _ (by omega)];exact C.hb2
    ·show(a.m.set _ _).get _=_;rw[M _ (by omega)];exact C.hb3
    ·show(a.m.set _ _).get _=_;rw[M _ (by omega)];exact C.hb4
    ·show(a.m.set _ _).get _=_;rw[Mw,Ki rfl]
   have Z:=D8 hF C6.nw;refine C_R9 Z v (by omega) r (by rw[L 6 (by omega),p 6 (by omega),f 6 (by omega)];exact o) C6.t3 C6.hb3 (by show hp0.nx+1<a.nx;omega) (by rw[<-hi];exact hs.2.2.1) fun ai ae F7 v7 x7 n7 f1 f2 f3 Y p7=>?_;have C7:=C6.next n7 fun x hx n=>x7 x (by omega) n;exact yz C7 hs hw n B Y f1 f2 (fun q b h=>(f3 q b h).imp id fun h=>by have:a.nx<=q:=h;omega) hF p7 (by rw[ml r];omega) N p6
end
end Go.D
