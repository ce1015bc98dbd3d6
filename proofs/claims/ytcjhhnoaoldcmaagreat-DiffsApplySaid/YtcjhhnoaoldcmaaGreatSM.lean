/- move, in the executor: what it answers and what it makes of the node (DiffsApply).
  Conditions: none. -/
import Derived.Test.YtcjhhnoaoldcmaaGreatSL
set_option linter.all false
set_option maxRecDepth 10000
noncomputable section
namespace Go.D
open Go Go.Xe Go.Sx Go.RowKit
open Go.C36 (row)
abbrev aN (K:List Kid):Ah:=(K.map (·.2.1)).flatten
theorem mc (K:List Kid)(o:Int)(ch:Kid):(aN (G7 K o ch)).Perm (ch.2.1++aN K):=by have:=((py K o ch).map (·.2.1)).flatten;grind
theorem CU {K:List Kid}{i:Nat}{ch:Kid}(h:K[i]? =some ch):(ch.2.1++aN (E8 K i)).Perm (aN K):=by have:=((AS h).map (·.2.1)).flatten;grind
section
variable {ov :Aa}{hp0 hp:Hp}{tm tmC:Ao}{F:FB}{s:Stp}{vs:Af}{n:a8}{b0 b3 b5 il ol Nl:Nat}{csl:Ao}{S1:Ah}
structure wg (hp0:Hp)(n:a8)(il ol Nl:Nat)(csl:Ao)(S1:Ah)(vc:Aw)(ic:Ai)(oc:Nat)(cc:Ao)(K:List Kid):Prop where
 h5:csl.get (ol+5)=some vc
 own:L9 hp0.m.get tN 6 K.length vc ic oc cc
 ld:d6 cc oc (K.length*6)=some (K8 K)
 kl:K.map (·.1)=n.c
 ok:KOk hp0.m.get K
 ic:∀j∈ic.toList,j∈S1
 ks:∀q∈aN K,q∈S1
 nd:(aN K).Nodup
 up:∀(hp1:Hp) (K':List Kid) (v':Aw) (m:Nat),New hp0 hp1->Oth (fun j=>m<=j) K' v' hp1->hp0.nx<=m->KOk hp1.m.get K'->K'.length<=1000->(aN K').Nodup->(∀q∈aN K',(q∈aN K\/(hp0.nx<=q/\q<hp1.nx))/\q<m)->
  W7 hp0 il ol Nl csl S1 (rV n (K'.map (·.1))) ⟨hp1.m.set il (some (.cells (fill csl (ol+5) [v']) Nl tN 6)),hp1.nx⟩
theorem Cx.kids (C:Cx F s vs n b0 il ol Nl csl S1 tmC hp0):∃vc ic oc cc K,wg hp0 n il ol Nl csl S1 vc ic oc cc K:=by
 obtain⟨vc,ic,oc,cc,Ss,h5,y,hl,hb,hk,o,g,p,v,up⟩:=C.tb.kids C.nd;obtain⟨K,k1,k2,k3,z⟩:=GY hl hk;have u:K.length=n.c.length:=by rw[<-k1,Kf]
 refine⟨vc,ic,oc,cc,K,h5,by rw[u];exact y,by rw[u];exact z,k1,k3,o,by unfold aN;rw[k2];exact g,by unfold aN;rw[k2];exact p,?_⟩;intro hp1 K' v' m nw ⟨io',o',l,A,B,x⟩ hm t d f a;have w:=C.ilt;have r:=nw.nx;have gs:∀q,q≠il->(hp1.m.set il (some (.cells (fill csl (ol+5) [v']) Nl tN 6))).get q=hp1.m.get q:=fun q h=>by rw[Mw,Kg h]
 have fresh:∀q,hp0.nx<=q->q∉S1:=fun q h h'=>by have:=C.lt q h';omega
 have i:∀q∈aN K,q∈S1:=fun q h=>g q (by grind);have nil:∀q∈aN K',q≠il:=fun q h=>(a q h).1.elim (fun h' e=>C.ilS (by grind)) fun h' e=>by omega
 have io:∀q,io'=some q->m<=q/\q<hp1.nx:=fun q e=>⟨(x q (by grind)).2,(x q (by grind)).1⟩
 have b:(K'.map (·.1)).length=K'.length:=Kf ..;obtain⟨S',t1,t2,t3⟩:=up (hp1.m.set il (some (.cells (fill csl (ol+5) [v']) Nl tN 6))).get (K'.map (·.1)) v' io' o' l (K'.map (·.2.1)) (at6 (fill csl (ol+5) [v']) ol) qF (fun q _ h=>ww h)
  (by rw[b];exact A.frame fun j hj=>gs j fun e=>by have:=(io j (by grind)).1;omega) (by rw[b];exact Kf ..) (by rw[b];exact d)
  (GX (t.frame fun k hk q hq=>gs q (by grind)) B) f
  (fun q hq=>(a q hq).1.imp (fun h=>by unfold aN at h;rw[k2]at h;exact h) fun h=>fresh q h.1)
  (fun q e=>⟨.inr (fresh q (by have:=(io q e).1;omega)),fun h=>by have:=(a q h).2;have:=(io q e).1;omega⟩)
  (fun q hq _ _=>by rw[gs q (fun e=>C.ilS (by rw[<-e];exact hq)),nw.old q (C.lt q hq)])
 refine⟨⟨_,S',by rw[Mw,Ki rfl],fun q hq=>rJ (by simp) hq,t1,fun h=>?_,t2,fun q hq=>?_,fun q hq=>?_⟩,r,fun j hj h1 h2=>by rw[gs j h1,nw.old j hj]⟩
 ·rcases t3 il h with h|h|h
  ·exact C.ilS h
  ·have:=(io il h).1;omega
  ·exact nil il h rfl
 ·rcases t3 q hq with h|h|h
  ·exact .inl h
  ·exact .inr (by have:=(io q h).1;omega)
  ·exact(a q h).1.imp (i q) fun h=>h.1
 ·show q<hp1.nx;rcases t3 q hq with h|h|h
  ·have:=C.lt q h;omega
  ·exact(io q h).2
  ·rcases(a q h).1 with h|h
   ·have:=C.lt q (i q h);omega
   ·exact h.2
structure Mv (vs:Af)(b3 b5 il ol:Nat)(ws:Af)(hp0:Hp)(tm:Ao)(hp:Hp):Prop where
 t0:tm.get 0=some (.pointer (some ⟨il,ol,none⟩))
 t3:tm.get 3=some (.pointer (some ⟨b3,0,none⟩))
 t5:tm.get 5=some (.pointer (some ⟨b5,0,none⟩))
 nw:New hp0 hp
 hb3:hp.m.get b3=some (.cells (fill .e 0 vs) 12 tSp 12)
 b3l:b3<hp.nx
 hb5:∃d,hp.m.get b5=some (.cells d 6 tN 6)/\d6 d 0 6=some ws
 b5l:b5<hp.nx
def Mv.next {ws:Af}{hp':Hp}{tm':Ao}(M:Mv vs b3 b5 il ol ws hp0 tm hp)(h:New hp hp')(ht:∀x,x<6->tm'.get x=tm.get x):Mv vs b3 b5 il ol ws hp0 tm' hp':=by obtain⟨d,h1,h2⟩:=M.hb5;exact⟨(ht 0 (by omega)).trans M.t0,(ht 3 (by omega)).trans M.t3,(ht 5 (by omega)).trans M.t5,M.nw.trans h,(h.old _ M.b3l).trans M.hb3,KO M.b3l h.nx,⟨d,(h.old _ M.b5l).trans h1,h2⟩,KO M.b5l h.nx⟩
theorem Er (hc:Go.Xe.isT (ov ckF)=false)(hi:Go.Xe.isT (ov ikF)=false)(G:ov (ρn.f 27)=some (ρn.t 22))(C:Cx F s vs n b0 il ol Nl csl S1 tmC hp0){vc:Aw}{ic:Ai}{oc:Nat}{cc:Ao}{K K1:List Kid}(KD:wg hp0 n il ol Nl csl S1 vc ic oc cc K){ch:Kid}(M:Mv vs b3 b5 il ol ch.2.2 hp0 tm hp)(U:s.w≠4){P:Aw}(h7:tm.get 7=some P)(u:ch.2.2.length=6/\TB hp.m.get ch.2.1 ch.1 (fun q=>ch.2.2[q]?))(p:KOk hp.m.get K1)(S:Oth (fun _=>True) K1 P hp)(hm:K1.length<=999)(E:(ch.2.1++aN K1).Nodup)(b:∀q∈ch.2.1++aN K1,q∈aN K\/(hp0.nx<=q/\q<hp.nx)):YR ov 83 m5 tm hp fun tm' hp'=>if s.o<0\/(K1.length:Int)<s.o then tm'.get 4=some (.int .i64 1)/\New hp0 hp' else tm'.get 4=some (.int .i64 0)/\W7 hp0 il ol Nl csl S1 (rV n (G7 (K1.map (·.1)) s.o ch.1)) hp':=by
 obtain⟨io,o,c1,Q,Z,w3⟩:=S;obtain⟨q,c,rfl⟩:=Q.sl;have r:=C.hs;have z:m5= .seq (.seq (cdA (cdA m5)) (.cond (.tmp 61) mZ .skip)) m6:=by kernel_rfl
 rw[z];have back:∀q∈aN K,q<hp0.nx:=fun q h=>C.lt q (KD.ks q h);by_cases a:s.o<0\/(K1.length:Int)<s.o
 ·simp only[Ki a];refine .seqX (.seq (Cw M.t3 M.hb3 r.2.1 fun tm1 g A=>.condT (j9 (by grind)) ?_));refine .seqX (.seq (HY (by rw[g 7 (by omega)];exact h7) (by rw[g 3 (by omega)];exact M.t3) M.hb3 r.2.2.2.2.2.2.1 fun L R B=>.condT (j9 (by grind)) (M_R15 fun N h4=>⟨h4,M.nw⟩)))
 ·simp only[Kg a];obtain⟨i,v⟩:∃i:Nat,s.o=i:=⟨s.o.toNat,by omega⟩
  obtain⟨d,hb5,hd⟩:=M.hb5;refine .seq (.seq (Cw M.t3 M.hb3 r.2.1 fun tm1 g A=>.condT (j9 (by grind)) ?_));refine .seq (.seq (HY (by rw[g 7 (by omega)];exact h7) (by rw[g 3 (by omega)];exact M.t3) M.hb3 r.2.2.2.2.2.2.1 fun L R B=>.condF (j9 (by grind)) (.skip ?_)));have M2:=M.next ⟨Kj _,fun _ _=>rfl⟩ fun x hx=>(R x (by omega)).trans (g x (by omega));refine M_R16 hc hi G (by grind) M2.t3 M2.t5 M2.hb3 M2.b3l (by rw[<-v];exact r.2.2.2.2.2.2.1) hb5 M.b5l hd u p Q Z (fun j hj=>(w3 j hj).1) (by omega) (by omega) fun N y v3 x3 I D O=>?_;have M3:=M2.next I fun x hx=>x3 x (by omega);have J:=O;obtain⟨V,X,cc3,y1,_⟩:=J;obtain⟨q3,c3,rfl⟩:=y1.sl;have H:y.m.get il=some (.cells csl Nl tN 6):=(M3.nw.old il C.ilt).trans C.hw;have W:=I.nx;have nx0:=M.nw.nx;have l:=KD.up y (G7 K1 i ch) _ hp.nx M3.nw O nx0 ((p.ins i u).frame fun k hk q hq=>I.old q (by
   have e:=(mc K1 i ch).mem_iff.1 (List.mem_flatten.2 ⟨k.2.1,Lt.2 ⟨k,hk,rfl⟩,hq⟩);rcases b q e with h|h
   ·have:=back q h;omega
   ·exact h.2)) (by rw[tT (by omega)];omega) ((mc K1 i ch).nodup_iff.2 E) fun q hq=>by
    have e:=(mc K1 i ch).mem_iff.1 hq;rcases b q e with h|h
    ·have:=back q h;exact⟨.inl h,by omega⟩
    ·exact⟨.inr ⟨h.1,by omega⟩,h.2⟩
  rw[Eb]at l;rw[v];exact HZ M3.t0 D H C.hN fun Y h4=>⟨h4,l⟩
end
end Go.D
