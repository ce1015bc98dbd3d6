/- move, in the executor: its regions that copy, take away and put in (DiffsApply).
  Conditions: none. -/
import Derived.Test.YtcjhhnoaoldcmaaGreatSK
set_option linter.all false
set_option maxRecDepth 10000
noncomputable section
namespace Go.D
open Go Go.Xe Go.Sx Go.RowKit
open Go.C36 (row)
abbrev dkF :Az:=91
abbrev ikF :Az:=93
def iK {k:IntKind}{a:Int}:veq 1000 (.int k a) (.int k a)=true:=by show(decide (k=k)&&decide (a=a))=true;simp
theorem Y0 {P:Ax}{tm:Ao}{S:Hp}{o:Op}{v:Aw}(h:∀call,xop P call tm S o=some (v,S)):xrd P tm S o=some v:=by unfold xrd;simp_all
section
variable {ov :Aa}{hp hp0:Hp}{tm:Ao}{Q:Ao->Hp->Prop}{vs:Af}{b3 b5 il ol Nl:Nat}{csl:Ao}{K:List Kid}
structure Oth (J:Nat->Prop)(K:List Kid)(v:Aw)(hp:Hp):Prop where
 own:∃io o cc,L9 hp.m.get tN 6 K.length v io o cc/\d6 cc o (K.length*6)=some (K8 K)/\ ∀j∈io.toList,j<hp.nx/\J j
def Iy {H:FB}{m:Nat}{va:Aw}{ia:Ai}{oa:Nat}{ca:Ao}(h:L9 H tN 6 m va ia oa ca):L9 H tN ien.size m va ia oa ca:=by exact h
variable {io:Ai}{v:Aw}{cc:Ao}{i:Nat}
theorem GA (hd:Go.Xe.isT (ov dkF)=false){o:Nat}(a:KOk hp0.m.get K)(h1:L9 hp.m.get tN 6 K.length v io o cc)(h2:d6 cc o (K.length*6)=some (K8 K))(h3:∀j∈io.toList,j<hp.nx/\hp0.nx<=j)(hi:i<K.length)(hm:K.length<=1000)(hn:New hp0 hp):∃v' hp',A4 PR ov dkF [v,.int .i64 i,.int .i64 ((i+1:Nat):Int)] hp v' hp'/\New hp0 hp'/\Oth (fun j=>hp0.nx<=j) (E8 K i) v' hp':=by
 have own:=Iy h1;obtain⟨v',hp',d,b⟩:=yD delN rfl hd own (h2) (dR a) hi fun j hj=>(h3 j hj).1;rw[dO,DL a,<-ml hi]at b;obtain⟨⟨io',o',cs',e,f,k⟩,l,g⟩:=b;have c:=hn.nx;refine⟨v',hp',d,⟨by omega,fun j hj=>?_⟩,⟨io',o',cs',e,f,fun j hj=>?_⟩⟩
 ·rw[g j (by omega) (by grind) (fun h=>h.elim),hn.old j hj]
 ·grind
def M_R12 (hc:Go.Xe.isT (ov ckF)=false)(hd:Go.Xe.isT (ov dkF)=false){ic:Ai}{oc:Nat}(h0:tm.get 0=some (.pointer (some ⟨il,ol,none⟩)))(h3:tm.get 3=some (.pointer (some ⟨b3,0,none⟩)))(hb:hp.m.get b3=some (.cells (fill .e 0 vs) 12 tSp 12))(b:b3<hp.nx)(hi:vs[4]? =some (.int .i64 i))(hw:hp.m.get il=some (.cells csl Nl tN 6))(hN:ol+6<=Nl)(hn:csl.get (ol+5)=some v)(g:KOk hp.m.get K)(s:L9 hp.m.get tN 6 K.length v ic oc cc)(hl:d6 cc oc (K.length*6)=some (K8 K))(hlt:∀j∈ic.toList,j<hp.nx)(c:i<K.length)(hm:K.length<=1000)(k:∀tm1 hp1 v',(∀x,x<7->tm1.get x=tm.get x)->New hp hp1->tm1.get 7=some v'->Oth (fun j=>hp.nx<=j) (E8 K i) v' hp1->Q tm1 hp1):YN PR ov 83 (cdA (cdB (cdA m4))) tm hp Q:=by
 have n0:New hp ⟨hp.m,hp.nx+12⟩:=⟨Nat.le_add_right _ _,fun _ _=>rfl⟩
 obtain⟨C,hp1,t,n,u,w,y,z,A⟩:=pf (ov:=ov) (hp:=⟨hp.m,hp.nx+12⟩) hc s hl (dR g) hm fun j hj=>KO (hlt j hj) (Nat.le_add_right _ _);have l:=n0.trans w;obtain⟨B,hp2,d,f,p⟩:=GA (ov:=ov) hd g y z (fun j hj=>by obtain⟨k1,k2⟩:=A j hj;exact⟨k2,by have:hp.nx+12<=j:=k1;omega⟩) c hm l;have q:((i+1:Nat):Int)=(i:Int)+1:=by omega
 rw[q]at d;have a:hp1.m.get b3=some (.cells (fill .e 0 vs) 12 tSp 12):=(l.old b3 b).trans hb;unfold m4 m3 m2 m0;rw[Je];simp only[Go.Proofs.Tryz.f67,KC,cdA,cdB];refine .drawG (by kernel_rfl) ?_;refine .o (i5 h0) (.o qN (.o qD (.r (qL (h:=((hO hw rfl (by omega)).trans hn))) ?_)));refine .k3 rfl rfl rfl (by kernel_rfl) (B3 (by kernel_rfl) (by simp only[gp];rfl) u) ?_;refine .o (l7 tE (by simp only[gp];exact h3)) (.r (qL (h:=((B7 U2 a rfl (by omega)).trans (d7.trans hi)))) (.o (l7 tE (by simp only[gp];exact h3)) (.r (qL (h:=((B7 U2 a rfl (by omega)).trans (d7.trans hi)))) (.o (gK (by simp only[gp];rfl) (by omega) (by omega)) ?_))));refine .k3 rfl rfl rfl (by kernel_rfl) (fp (by kernel_rfl) (by simp only[gp];rfl) (by simp only[gp];rfl) (by simp only[gp];rfl) d) ?_;refine .o qA (.nil ⟨?_,by kernel_rfl,f.keeps,k _ _ B (fun x hx=>?_) f ?_ p⟩)
 ·refine wC ⟨.inl (by kernel_rfl),.inl (by kernel_rfl),.inl (by kernel_rfl),.inr ⟨by kernel_rfl,Y0 fun call=>m8 (by simp only[gp];rfl) ((B7 U2 hb rfl (by omega)).trans (d7.trans hi)) call,iK⟩,.inl (by kernel_rfl),.inr ⟨by kernel_rfl,Y0 fun call=>m8 (by simp only[gp];rfl) ((B7 U2 hb rfl (by omega)).trans (d7.trans hi)) call,iK⟩,.inl (by kernel_rfl),.inl (by kernel_rfl),.inl (by kernel_rfl),.inl (by kernel_rfl),.inl (by kernel_rfl),.inl (by kernel_rfl),trivial⟩
 ·simp only[gp];iterate 12 rw[Kg (by omega)]
 ·simp only[gp];rfl
variable {ws:Af}
theorem Ix {t e k x:Nat}{zv:Aw}(c:PR.underlying t=some (.slice e))(hs:(PR.info? e).map TypeInfo.size=some k)(hz:D6 PR e=some zv)(a:zv.cells.toList.length=k)(hk:k<=1000)(hx:tm.get x=some (.agg ws.toArray))(hl:ws.length=k):xnw PR tm (.buildSlice t 1 #[(0,.tmp x)])=some ⟨A0 ws e k,.slice 1 1,rfl⟩:=by
 cases hi:PR.info? e with
 |none=>grind|some ie=>
  rw[hi]at hs;simp at hs;subst hs;have h1:(Value.agg ws.toArray).cells.toList=ws:=rfl;have h2:splice (xrep 1 zv.cells.toList) 0 ws=ws:=by
   refine List.ext_getElem? fun j=>?_;have b:(xrep 1 zv.cells.toList).length=ie.size:=by rw[Xe.xrep_length,a,Nat.one_mul]
   simp only[splice,List.take_zero,List.nil_append,Ks];grind
  have h3:Nat.ble (1*ie.size) 16777216=true:=JS (by omega);have h4:Nat.ble (0*ie.size+ie.size) (xrep 1 zv.cells.toList).length=true:=by rw[Xe.xrep_length,a];exact JS (by omega)
  simp only[K3,a9,hx,KC,xnw,sw,c,hi,hz,a,l6,h3,Bool.and_self];rw[show Nat.ble 1 16777216=true from rfl];simp only[Bool.and_self,Kc,dn,h1,hl,l6,h4];grind
def HI {H:FB}{S:Ah}{t:a8}(g:ws.length=6)(h:TB H S t (fun q=>ws[q]?)):veq 1000 (.agg ws.toArray) (.agg ws.toArray)=true:=by
 obtain⟨_,_,va,vc,ia,ic,oa,oc,ca,cc,Ss,⟨h0,h1,h2,h4⟩,h3,h5,ha,_,hc,_⟩:=h;obtain⟨a,b,c,d,e,f,rfl⟩:=ub g;obtain⟨q1,m,rfl⟩:=ha.sl;obtain⟨q2,n,rfl⟩:=hc.sl;cases h0;cases h1;cases h2;cases h3;cases h4;cases h5;show dB (veq 999) [_,_,_,_,_,_] [_,_,_,_,_,_]=true;have s1:∀a:ByteArray,veq 999 (.string a) (.string a)=true:=fun a=>by show(a.data.toList==a.data.toList)=true;simp
 have s2:∀q l c,veq 999 (.slice q l c) (.slice q l c)=true:=fun q l c=>by show(decide (q=q)&&Nat.beq l l&&Nat.beq c c)=true;simp
 have j:∀k a,veq 999 (.int k a) (.int k a)=true:=fun k a=>by show(decide (k=k)&&decide (a=a))=true;simp
 simp[dB,s1,s2,j]
theorem M_R16 (hc:Go.Xe.isT (ov ckF)=false)(hi:Go.Xe.isT (ov ikF)=false)(z:ov (ρn.f 27)=some (ρn.t 22)){oc:Nat}{d:Ao}{ch:Kid}(h7:tm.get 7=some v)(h3:tm.get 3=some (.pointer (some ⟨b3,0,none⟩)))(h5:tm.get 5=some (.pointer (some ⟨b5,0,none⟩)))(hb:hp.m.get b3=some (.cells (fill .e 0 vs) 12 tSp 12))(w:b3<hp.nx)(l:vs[5]? =some (.int .i64 i))(hb5:hp.m.get b5=some (.cells d 6 tN 6))(c:b5<hp.nx)(hd:d6 d 0 6=some ch.2.2)(a:ch.2.2.length=6/\TB hp.m.get ch.2.1 ch.1 (fun q=>ch.2.2[q]?))(s:KOk hp.m.get K)(N:L9 hp.m.get tN 6 K.length v io oc cc)(hl:d6 cc oc (K.length*6)=some (K8 K))(hlt:∀j∈io.toList,j<hp.nx)(g:i<=K.length)(hm:K.length<=999)(k:∀tm1 hp1 v',(∀x,x<7->tm1.get x=tm.get x)->New hp hp1->tm1.get 7=some v'->Oth (fun j=>hp.nx<=j) (G7 K i ch) v' hp1->Q tm1 hp1):YN PR ov 83 (cdB mZ) tm hp Q:=by
 have n0:New hp ⟨hp.m,hp.nx+8⟩:=⟨Nat.le_add_right _ _,fun _ _=>rfl⟩
 obtain⟨Y,hp1,A,L,P,H,R,S,p⟩:=pf (hp:=⟨hp.m,hp.nx+8⟩) hc N hl (dR s) (by omega) fun j hj=>KO (hlt j hj) (Nat.le_add_right _ _);have B:=n0.trans H;have O:hp.nx+8<=hp1.nx:=H.nx;have u:hp1.m.get b3=some (.cells (fill .e 0 vs) 12 tSp 12):=(B.old b3 w).trans hb;have b:hp1.m.get b5=some (.cells d 6 tN 6):=(B.old b5 c).trans hb5;let G:Nw:=⟨A0 ch.2.2 tN 6,.slice 1 1,rfl⟩
 have E:(hp1.take (hp.nx+5) G).m.get (hp.nx+5)=some (.cells (fill .e 0 ch.2.2) 6 tN 6):=by show(hp1.m.set (hp.nx+5) (some (A0 ch.2.2 tN 6))).get (hp.nx+5)=_;rw[Mw,Ki rfl];unfold A0;rw[a.1]
 have gs:∀j,j≠hp.nx+5->(hp1.take (hp.nx+5) G).m.get j=hp1.m.get j:=fun j hj=>by show(hp1.m.set _ _).get j=_;rw[Mw,Kg hj]
 have n:∀j∈A.toList,j≠hp.nx+5:=fun j hj=>by have:=(p j hj).1;have:hp.nx+8<=j:=this;omega
 have own:=Iy (R.frame fun j hj=>gs j (n j hj));obtain⟨I,hp2,M,D⟩:=yV (j:=hp.nx+5) (q:=0) (cm:=1) insN rfl hi z own (S) (dR s) g (by omega) (fun j hj=>(p j hj).2) (by show hp.nx+5<hp1.nx;omega) (fun e=>n _ (by grind) rfl) E (by rw[dO];have y:d6 (fill .e 0 ch.2.2) 0 (1*6)=some ch.2.2:=r0 a.1;simp only[j2,E,rdC,y];rfl) (a.1) (a.2.one a.1);rw[dO,DM s,<-tT g]at D;obtain⟨⟨io',o',cs',U,V,W⟩,J,X⟩:=D;have J:hp1.nx<=hp2.nx:=J;have F:New hp hp2:=⟨by omega,fun j hj=>by rw[X j (by show j<hp1.nx;omega) (fun e=>by have:=(p j (by grind)).1;have:hp.nx+8<=j:=this;omega) (by omega),gs j (by omega),B.old j hj]⟩
 have C:Oth (fun j=>hp.nx<=j) (G7 K i ch) I hp2:=⟨io',o',cs',U,V,fun j hj=>by
  obtain⟨k1,k2⟩:=W j (by grind);refine⟨k2,k1.elim (fun e=>?_) fun h=>?_⟩
  ·have:=(p j (by grind)).1;have:hp.nx+8<=j:=this;omega
  ·have:hp1.nx<=j:=h;omega⟩
 unfold mZ m5 m4 m3 m2 m0;refine .drawG (by kernel_rfl) ?_;refine .o (i5 h7) (.k3 rfl rfl rfl (by kernel_rfl) (B3 (by kernel_rfl) (by simp only[gp];rfl) P) ?_);refine .o (l7 Dq (by simp only[gp];exact h3)) (.r (qL (h:=((B7 U2 u rfl (by omega)).trans (d7.trans l)))) (.r (m8 (by simp only[gp];exact h5) (li b (by omega) hd)) ?_));refine YG.k2 rfl rfl rfl (Ix eo (by kernel_rfl) AC oE (by decide) (by simp only[gp];rfl) a.1) (YG.k3t rfl rfl rfl (by kernel_rfl) (fp (by kernel_rfl) (by simp only[gp];rfl) (by simp only[gp];rfl) (by simp only[gp];rfl) M) ?_);refine .o qA (.nil ⟨?_,by kernel_rfl,F.keeps,k _ _ I (fun x hx=>?_) F ?_ C⟩)
 ·refine wC ⟨.inl (by kernel_rfl),.inl (by kernel_rfl),.inl (by kernel_rfl),.inr ⟨by kernel_rfl,Y0 fun call=>m8 (by simp only[gp];exact h5) (aT hb5 rfl (by omega) hd) call,HI a.1 a.2⟩,.inr ⟨by kernel_rfl,Y0 fun call=>m8 (by simp only[gp];rfl) ((B7 U2 hb rfl (by omega)).trans (d7.trans l)) call,iK⟩,.inl (by kernel_rfl),.inl (by kernel_rfl),.inl (by kernel_rfl),trivial⟩
 ·simp only[gp];iterate 8 rw[Kg (by omega)]
 ·simp only[gp];rfl
end
end Go.D
