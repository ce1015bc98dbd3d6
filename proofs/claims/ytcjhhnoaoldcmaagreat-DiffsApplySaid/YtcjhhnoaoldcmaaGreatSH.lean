/- carry, in the executor: an attribute of a node is set (DiffsApply).
  Conditions: none. -/
import Derived.Test.YtcjhhnoaoldcmaaGreatT7
set_option linter.all false
set_option maxRecDepth 10000
noncomputable section
namespace Go.D
open Go Go.Xe Go.Sx Go.RowKit
open Go.C36 (row)
section
variable {ov :Aa}{hp hp':Hp}{tm tm':Ao}{Q:Ao->Hp->Prop}{F:FB}{s:Stp}{vs:Af}{n n':a8}{b3 il ol Nl:Nat}{csl:Ao}{S1:Ah}
theorem W7.cx (k:W7 hp il ol Nl csl S1 n' hp')(C:Cx F s vs n b3 il ol Nl csl S1 tm hp)(h3:tm'.get 3=tm.get 3)(m:tm'.get 6=tm.get 6):∃csl' S2,Cx F s vs n' b3 il ol Nl csl' S2 tm' hp'/\ ∀c a,W7 hp' il ol Nl csl' S2 c a->W7 hp il ol Nl csl S1 c a:=by
 obtain⟨⟨csl',S2,k1,k2,k3,o,p,i,r⟩,t,l⟩:=k;have g:=C.ilt;have f:=C.blt;have fz:∀q b,F q=some b->q≠il/\q∉S2:=fun q b e=>⟨(C.fz q b e).1,fun h=>(i q h).elim (C.fz q b e).2 fun h=>by have:=(C.fh q b e).2;omega⟩
 refine⟨csl',S2,⟨h3.trans C.t3,m.trans C.t6,(l _ C.blt C.bil C.bS).trans C.hb,C.hs,fun q b e=>⟨by rw[l q (C.fh q b e).2 (C.fz q b e).1 (C.fz q b e).2];exact(C.fh q b e).1,KO (C.fh q b e).2 t⟩,k1,C.hN,by omega,by omega,C.bil,fun h=>(i _ h).elim C.bS fun h=>by omega,k3,o,p,r,fz⟩,?_⟩;intro c a ⟨⟨d,u,w,z,A,B,D,E,G⟩,H,I⟩;refine⟨(by grind),by omega,fun j hj h1 h2=>?_⟩;grind
variable {x y:Nat}{b:Bool}{v:Aw}
def vT (hx:tm.get x=some (.bool b))(hy:b=true->tm.get y=some v)(call:c7):xop PR call tm hp (.pick (.tmp x) (.tmp y) (.const (.bool false)))=some (if b=true then v else .bool false,hp):=by
 have h:cst (.bool false)=true:=rfl;cases b
 ·simp only[b9,f7,a9,hx,h,KC,Kc,Ke,c9];rfl
 ·simp only[b9,f7,a9,hx,hy rfl,h,KC,Kc,c9];rfl
def K0 (hx:tm.get x=some (.bool b))(hy:b=false->tm.get y=some v)(call:c7):xop PR call tm hp (.pick (.tmp x) (.const (.bool true)) (.tmp y))=some (if b=true then .bool true else v,hp):=by
 have h:cst (.bool true)=true:=rfl;cases b
 ·simp only[b9,f7,a9,hx,hy rfl,h,KC,Kc,Ke,c9];rfl
 ·simp only[b9,f7,a9,hx,h,KC,Kc,c9];rfl
def JE {t t':Ay}{a b:Int}(hx:tm.get x=some (.int .i64 a))(call:c7):xop PR call tm hp (.binOp .geq t (.tmp x) (.const (.int .i64 b)) t')=some (.bool (decide (b<=a)),hp):=by have h:cst (.int .i64 b)=true:=rfl;simp only[b9,f7,a9,hx,h,KC,v6,J3,KR,Kc,o7,W2,c9]
abbrev yyA :Code:=cdA (cdB (cdB (cdB (cdB (cdB R5)))))
theorem HO (f:Go.Xe.isT (ov aF)=false)(C:Cx F s vs n b3 il ol Nl csl S1 tm hp)(k:∀tm1 hp1,(∀x,x<8->tm1.get x=tm.get x)->New hp hp1->tm1.get 10=some (.int .i64 (q8 n.a s.n))->tm1.get 11=some (.bool (z8 n.a s.n))->Q tm1 hp1):YN PR ov 141 (cdA yyA) tm hp Q:=by
 obtain⟨va,ia,oa,ca,h3,g,e,hl,hi, -⟩:=C.attrs;obtain⟨hp1,i,d⟩:=yw f C.hw C.ilt C.hN h3 g e hl fun j hj=>C.lt j (hi j hj);unfold yyA R5;refine .region (.o (i5 C.t6) (.o (l7 yN (by simp only[gp];exact C.t3)) (.o (qL (h:=((B7 fI C.hb rfl (by omega)).trans ((C.cell 2).trans C.hs.2.2.2.1)))) (.c (bH rfl (by simp only[gp];rfl) (by simp only[gp];rfl) i) (.o qM (.o (sF (by simp only[gp];rfl) rfl) (.o (sF (by simp only[gp];rfl) rfl) (.o qA (.o qA (.nil ⟨d.keeps,k _ _ (fun x hx=>?_) d ?_ ?_⟩))))))))))
 ·simp only[gp];grind
 all_goals (simp only[gp];rfl)
theorem Hi {F:FB}{i:Nat}{n x:Str}(hF:F i=some (.cells (fill .e 0 [.string ⟨n.toArray⟩,.bool false,.string ⟨x.toArray⟩]) 3 tEd 3)):PV PR F (.sl tEd) (.slice (some ⟨i,0,none⟩) 1 1) (.lst [[.str n,.bool false,.str x]]):=by
 have c:kf PR tEd=[.str,.bool,.str]:=rfl;refine .sl tEd i 0 1 _ _ 3 3 [[.str n,.bool false,.str x]] (fun _ k=>([.string ⟨n.toArray⟩,.bool false,.string ⟨x.toArray⟩]:Af).getD k undef) hF rfl ⟨.inl ⟨by decide,show 1<=1 by decide⟩,.mk⟩ (by grind) rfl (fun r hr=>by simp at hr;subst hr;rfl) (fun r k row d hr hk=>?_) (fun r k row kd d hr hk a=>?_)
 ·match r,hr with
  |0,hr=>cases hr;match k,hk with
   |0,hk=>rfl|1,hk=>rfl|2,hk=>rfl
 ·rw[c]at a
  match r,hr with
  |0,hr=>cases hr;match k,hk,a with
   |0,hk,a=>cases hk;cases a;exact .str _
   |1,hk,a=>cases hk;cases a;exact .bool _
   |2,hk,a=>cases hk;cases a;exact .str _
theorem IU {b:Blk}(h:FH F hp):FH (fun q=>if q=hp.nx then some b else F q) ⟨hp.m.set hp.nx (some b),hp.nx+1⟩:=fun q b' hq=>by
 have hq:(if q=hp.nx then some b else F q)=some b':=hq;by_cases e:q=hp.nx
 ·subst e;rw[Ki rfl]at hq;rw[Mw,Ki rfl];grind
 ·rw[Kg e]at hq;rw[Mw,Kg e];exact⟨(h q b' hq).1,Nat.lt_succ_of_lt (h q b' hq).2⟩
def HP (hk:g8 PR U0 ov cCed 65)(C:Cx F s vs n b3 il ol Nl csl S1 tm hp)(d:tm.get 11=some (.bool b))(k:∀tm1 hp1 e,(∀x,x<97->tm1.get x=tm.get x)->New hp hp1->tm1.get 116=some (.bool (!decide (e=(0:Int))|| (!b&&decide (8<=n.a.length))))->(e=0↔j8 s.n=true/\A9 s.v=true)->Q tm1 hp1):YN PR ov 141 (cdA (cdA (cdB yyA))) tm hp Q:=by
 obtain⟨va,ia,oa,ca,h3,p,u,hl,hi, -⟩:=C.attrs;have hN:=C.hN;have n0:New hp ⟨hp.m.set hp.nx (some (.cells (fill .e 0 [.string ⟨s.n.toArray⟩,.bool false,.string ⟨s.v.toArray⟩]) 3 tEd 3)),hp.nx+1⟩:=⟨Lk _,fun j hj=>by rw[Mw,Kg (by omega)]⟩
 obtain⟨hp1,e,r,t,g⟩:=Gt (hp:=⟨hp.m.set hp.nx (some (.cells (fill .e 0 [.string ⟨s.n.toArray⟩,.bool false,.string ⟨s.v.toArray⟩]) 3 tEd 3)),hp.nx+1⟩) hk (IU C.fh) (Hi (i:=hp.nx) (n:=s.n) (x:=s.v) (by simp));have nw:=n0.trans t;have f:hp1.m.get il=some (.cells csl Nl tN 6):=(nw.old il C.ilt).trans C.hw;obtain⟨q,c,rfl⟩:=p.sl;unfold yyA R5;refine .region (.o (l7 yN C.t3) (.o (qL (h:=((B7 fI C.hb rfl (by omega)).trans ((C.cell 2).trans C.hs.2.2.2.1)))) (.o (l7 yO (by simp only[gp];exact C.t3)) (.o (qL (h:=((B7 fI C.hb rfl (by omega)).trans ((C.cell 3).trans C.hs.2.2.2.2.1)))) (.o (bG (by simp only[K3,a9,gp];rfl) (bd_E s.n s.v)) (.o (IF (k:=3) (zv:=(D6 PR tEd).getD undef) rfl rfl rfl rfl (by decide) (by simp only[gp];rfl) rfl) (.c (B3 (by kernel_rfl) (by simp only[gp];rfl) r) (.o (aG (by simp only[gp];rfl)) (.o qM ?_)))))))));by_cases he:e=0
 ·rw[decide_eq_true he];cases b with
  |true=>
   refine .w (i5 (by simp only[gp];exact d)) (.w (ou (by simp only[gp];rfl)) (.w qM ?_));refine .s (.s (.s (.s (.s (.s ?_)))));refine .w (vT (v:=undef) (by simp only[gp];rfl) (fun h=>by cases h)) (.o (K0 (by simp only[gp];rfl) (fun _=>by simp only[gp];rfl)) (.nil ⟨nw.keeps,k _ _ e (fun x hx=>?_) nw ?_ g⟩))
   ·simp only[gp];iterate 20 rw[Kg (by omega)]
   ·simp only[gp];simp[he]
  |false=>
   refine .w (i5 (by simp only[gp];exact d)) (.w (ou (by simp only[gp];rfl)) (.w qM ?_));refine .w (i5 (by simp only[gp];exact C.t6)) (.w qN (.w (l7 oH (by simp only[gp];rfl)) (.w (qL (h:=((B7 wo f rfl (by omega)).trans h3))) (.w (kV nU (by simp only[gp];rfl) rfl) (.w (JE (by simp only[gp];rfl)) ?_)))));refine .w (vT (b:=true) (by simp only[gp];rfl) (fun h=>by simp only[gp];rfl)) (.o (K0 (by simp only[gp];rfl) (fun _=>by simp only[gp];rfl)) (.nil ⟨nw.keeps,k _ _ e (fun x hx=>?_) nw ?_ g⟩))
   ·simp only[gp];iterate 20 rw[Kg (by omega)]
   ·have l:decide ((8:Int)<=(n.a.length:Int))=decide (8<=n.a.length):=decide_eq_decide.2 (by omega);simp only[gp,l];simp[he]
 ·rw[Ll he];refine .s (.s (.s (.s (.s (.s (.s (.s (.s (.s ?_)))))))));refine .o (K0 (v:=undef) (by simp only[gp];rfl) (fun h=>by cases h)) (.nil ⟨nw.keeps,k _ _ e (fun x hx=>?_) nw ?_ g⟩)
  ·simp only[gp];iterate 20 rw[Kg (by omega)]
  ·simp only[gp];simp[he]
def A_R29 (k:∀tm1,tm1.get 4=some (.int .i64 14)->Q tm1 hp):YR ov 141 (cdA (cdB (cdA (cdB yyA)))) tm hp Q:=by unfold yyA R5;exact .seq (.region (.o (D5 rfl) (.nil ⟨.refl _,.ret (k _ (by simp only[gp];rfl))⟩)))
theorem A_R30 (a:tm.get 11=some (.bool b))(k:∀tm1,(∀x,x<117->tm1.get x=tm.get x)->tm1.get 118=some (.bool (!b))->Q tm1 hp):YN PR ov 141 (cdA (cdA (cdB (cdB yyA)))) tm hp Q:=by
 unfold yyA R5;refine .region (.o (i5 a) (.o (ou (by simp only[gp];rfl)) (.nil ⟨.refl _,k _ (fun x hx=>?_) ?_⟩)))
 ·simp only[gp];grind
 ·simp only[gp];rfl
def HN :zvA= .agg #[.string ⟨#[]⟩,.string ⟨#[]⟩]:=by kernel_rfl
def own_a {H:FB}{m:Nat}{va:Aw}{ia:Ai}{oa:Nat}{ca:Ao}(h:L9 H tAt 2 m va ia oa ca):L9 H tAt iea.size m va ia oa ca:=by exact h
theorem A_R31 (J:Go.Xe.isT (ov 66)=false)(E:ov (ρa.f 27)=some (ρa.t 22))(C:Cx F s vs n b3 il ol Nl csl S1 tm hp){d:Nat}(A:tm.get 10=some (.int .i64 d))(ha:d<=n.a.length)(hn:n.a.length<1000)(k:∀tm1 hp1,(∀x,x<119->tm1.get x=tm.get x)->W7 hp il ol Nl csl S1 (Y4 n (G7 n.a d ⟨[],[]⟩)) hp1->Q tm1 hp1):YN PR ov 141 (cdA (cdB (cdA (cdB (cdB yyA))))) tm hp Q:=by
 have hN:=C.hN;have n0:New hp ⟨hp.m.set hp.nx (some (.cells (fill .e 0 [.string ⟨#[]⟩,.string ⟨#[]⟩]) 2 tAt 2)),hp.nx+1⟩:=⟨Lk _,fun j hj=>by rw[Mw,Kg (by omega)]⟩
 have C1:Cx F s vs n b3 il ol Nl csl S1 tm _:=C.new n0 rfl rfl;obtain⟨va,ia,oa,ca,h3,H,I,hl,hi,up⟩:=C1.attrs;have hlt:=C.lt;have z:(hp.m.set hp.nx (some (Blk.cells (fill .e 0 [.string ⟨#[]⟩,.string ⟨#[]⟩]) 2 tAt 2))).get hp.nx=some (.cells (fill .e 0 [.string ⟨#[]⟩,.string ⟨#[]⟩]) 2 tAt 2):=by rw[Mw,Ki rfl]
 have B:ia≠some hp.nx:=fun e=>by have:=hlt _ (hi hp.nx (by grind));omega
 have own:=own_a H;obtain⟨v',hp1,K,l⟩:=yV (q:=0) (cm:=1) insA rfl J E own (hP I) (dH _) ha (by omega) (fun j hj=>C1.lt j (hi j hj)) (KW _) B z (by simp only[j2,z,rdC];rfl) rfl rfl;have D:=l.keeps (fun j hj h=>by
  rcases H with⟨_,e,_⟩| ⟨i,c,N,rfl,_,_,g,_⟩
  ·rw[e]at hj;cases hj
  ·cases hj;rw[g]at h;cases h) (fun j h=>by subst h;rw[z];exact fun h=>by cases h)
 rw[hG]at l;have r:(G7 n.a d ⟨[],[]⟩).length=n.a.length+1:=by unfold G7;rw[Kn,KE,Kv,KN,KB];omega
 have p:(n8 n.a).take (d*2)++ [.string ⟨#[]⟩,.string ⟨#[]⟩]++(n8 n.a).drop (d*2)=n8 (G7 n.a d ⟨[],[]⟩):=by unfold G7;rw[KB,show n.a.take d++(⟨[],[]⟩:Att)::n.a.drop d=n.a.take d++ [⟨[],[]⟩]++n.a.drop d by simp,dE,dE,bN,bM];rfl
 rw[p,<-r]at l;have w:=up hp hp1 _ _ v' l (by omega) n0 (fun x h=>by omega) hlt;have u:hp1.m.get il=some (.cells csl Nl tN 6):=by have:=C.ilt;rw[l.old il C1.ilt (fun e=>C.ilS (hi il (by grind))) (by omega)];exact C1.hw
 unfold yyA R5;refine .region (.o (i5 C.t6) (.o (i5 (by simp only[gp];exact C.t6)) (.o qN (.o (l7 oH (by simp only[gp];rfl)) (.o (qL (h:=((B7 wo C.hw rfl (by omega)).trans h3))) (.o (i5 (by simp only[gp];exact A)) (.o (bG rfl bd_A0) (.o (IF (zv:=zvA) rfl rfl rfl rfl (by decide) (by simp only[gp,HN];rfl) rfl) (.c (fp rfl (by simp only[gp];rfl) (by simp only[gp];rfl) (by simp only[gp];rfl) K) (.o qN (.o (l7 oH (by simp only[gp];rfl)) (.o (qS (h:=(BZ sz_A u (by omega) ?_ ?_))) (.nil ⟨(n0.keeps.trans D).trans (d9 (Kj _) (.inr (by rw[u];exact fun h=>by cases h))),k _ _ (fun x hx=>?_) w⟩)))))))))))))
 ·obtain⟨⟨io',o',cs',G,_⟩,_⟩:=l;obtain⟨q,c,rfl⟩:=G.sl;rfl
 ·obtain⟨⟨io',o',cs',G,_⟩,_⟩:=l;obtain⟨q,c,rfl⟩:=G.sl;rfl
 ·simp only[gp,gn];iterate 11 rw[Kg (by omega)]
def qu {t:Ay}{a u:Aw}(hx:tm.get x=some a)(hy:tm.get y=some u)(h:A8 PR hp t a u=some hp'):XOp PR ov (.store t (.tmp x) (.tmp y)) tm hp undef hp':= .of fun _=>G6 hx hy h _
theorem HQ (C:Cx F s vs n b3 il ol Nl csl S1 tm hp){d:Nat}(l:tm.get 10=some (.int .i64 d))(ha:d<n.a.length)(k:∀tm1 hp1,W7 hp il ol Nl csl S1 (Y4 n (n.a.set d ⟨s.n,s.v⟩)) hp1->Q tm1 hp1):YN PR ov 141 (cdB (cdB (cdB yyA))) tm hp Q:=by
 have hN:=C.hN;obtain⟨va,ia,oa,ca,h3,z,w,hl,hi,up⟩:=C.tb.attrs C.nd;rcases z with⟨e,_⟩| ⟨i,c,N,rfl,rfl,hc,hb,p⟩
 ·omega
 have t:=hi i (by simp);have u:i≠il:=fun e=>C.ilS (by grind);have f:il≠i:=fun e=>u e.symm;have gs:∀q,q≠i->(hp.m.set i (some (Blk.cells (fill ca (oa+d*2) [.string ⟨s.n.toArray⟩,.string ⟨s.v.toArray⟩]) N tAt 2))).get q=hp.m.get q:=fun q h=>by rw[Mw,Kg h]
 obtain⟨S',t1,t2,t3⟩:=up (hp.m.set i (some (.cells (fill ca (oa+d*2) [.string ⟨s.n.toArray⟩,.string ⟨s.v.toArray⟩]) N tAt 2))).get (n.a.set d ⟨s.n,s.v⟩) _ (some i) oa _ (at6 csl ol) h3 (fun q _ _=>rfl)
  (.inr ⟨i,c,N,rfl,by rw[List.length_set],by rw[List.length_set];exact hc,by rw[Mw,Ki rfl],by rw[List.length_set];exact p⟩) (fun j a hj=>by
   by_cases e:j=d
   ·subst e;rw[List.getElem?_set_self ha]at hj;cases hj;exact⟨by rw[f6,Ki (by simp)];simp,by rw[f6,Ki (by simp)];simp⟩
   ·rw[List.getElem?_set_ne (fun h=>e h.symm)]at hj;obtain⟨a1,a2⟩:=w j a hj;refine⟨by rw[f6,Kg (by grind)];exact a1,by rw[f6,Kg (by grind)];exact a2⟩)
  (by grind) (fun q hq h=>gs q fun e=>h (by grind)) (fun q e=>.inl e)
 have g:W7 hp il ol Nl csl S1 (Y4 n (n.a.set d ⟨s.n,s.v⟩)) ⟨hp.m.set i (some (.cells (fill ca (oa+d*2) [.string ⟨s.n.toArray⟩,.string ⟨s.v.toArray⟩]) N tAt 2)),hp.nx+12⟩:=by
  have mem:∀q∈S',q∈S1:=fun q hq=>(t3 q hq).elim id fun e=>by cases e;exact t
  refine⟨⟨csl,S',(gs il f).trans C.hw,fun _ _=>rfl,t1,fun h=>C.ilS (mem _ h),t2,fun q hq=>.inl (mem q hq),fun q hq=>by have:=C.lt q (mem q hq);show q<hp.nx+12;omega⟩,Nat.le_add_right _ _,fun j hj h1 h2=>gs j fun e=>h2 (by grind)⟩
 unfold yyA R5;refine .drawG (by kernel_rfl) ?_;refine .o (i5 C.t6) (.o qN (.o (l7 oH (by simp only[gp];rfl)) (.r (qL (h:=((B7 wo C.hw rfl (by omega)).trans h3))) (.o (i5 (by simp only[gp];exact l)) ?_))));refine .o (l7 yN (by simp only[gp];exact C.t3)) (.r (qL (h:=((B7 fI C.hb rfl (by omega)).trans ((C.cell 2).trans C.hs.2.2.2.1)))) (.o (l7 yO (by simp only[gp];exact C.t3)) (.r (qL (h:=((B7 fI C.hb rfl (by omega)).trans ((C.cell 3).trans C.hs.2.2.2.2.1)))) ?_)));refine .o (bG (by simp only[K3,a9,gp];rfl) (bd_A s.n s.v)) (.o (cX (by simp only[gp];rfl) (by simp only[gp];rfl) (ix_A (by omega) (by omega))) ?_);refine .k3 rfl rfl rfl rfl (qu (by simp only[gp];rfl) (by simp only[gp];rfl) (st_g Fy hb (by omega) rfl rfl)) (.nil ⟨by kernel_rfl,by kernel_rfl,?_,k _ _ g⟩);exact d9 (Nat.le_add_right _ _) (.inr (by rw[hb];exact fun h=>by cases h))
theorem DG {α:Type}(l:List α)(a:Nat)(x y:α)(h:a<=l.length):(G7 l a x).set a y=G7 l a y:=by unfold G7;simp_all
theorem Im (H:Go.Xe.isT (ov aF)=false)(hi:Go.Xe.isT (ov 66)=false)(w:ov (ρa.f 27)=some (ρa.t 22))(hk:g8 PR U0 ov cCed 65)(C:Cx F s vs n b3 il ol Nl csl S1 tm hp):(¬(¬(j8 s.n=true/\A9 s.v=true)\/(z8 n.a s.n=false/\8<=n.a.length))->YN PR ov 141 yyA tm hp fun _ hp'=>W7 hp il ol Nl csl S1 (Y4 n (fy n.a s)) hp')/\((¬(j8 s.n=true/\A9 s.v=true)\/(z8 n.a s.n=false/\8<=n.a.length))->YR ov 141 yyA tm hp fun tm' hp'=>tm'.get 4=some (.int .i64 14)/\New hp hp'):=by
 constructor<;>intro j
 ·rw[not_or]at j;obtain⟨k,A⟩:=j;have k:=Classical.not_not.1 k;refine .seq (HO H C fun tm1 hp1 o i r d=>?_);have C1:=C.new i (o 3 (by omega)) (o 6 (by omega));refine .seq (.seq (HP hk C1 d fun B hp2 e p l g he=>.condF (j9 (by grind)) (.skip ?_)));have C2:=C1.new l (p 3 (by omega)) (p 6 (by omega));refine .seq (.seq (A_R30 (by rw[p 11 (by omega)];exact d) fun m I G=>?_));have q:=C2.new ⟨Kj _,fun _ _=>rfl⟩ (I 3 (by omega)) (I 6 (by omega));have c:m.get 10=some (.int .i64 (q8 n.a s.n)):=by grind
  cases hb:z8 n.a s.n with
  |true=>refine .condF (j9 (by grind)) (.skip (HQ q c (by obtain⟨a,ha,_⟩:=dP hb;exact(JO.1 ha).1) fun D z h=>?_));unfold fy;rw[Ki hb];exact(h.new l).new i|false=>
   have N:¬8<=n.a.length:=fun h=>A ⟨hb,h⟩;refine .condT (j9 (by grind)) (A_R31 hi w q c (lB _ _) (by omega) fun D z E h4=>?_);obtain⟨csl',S2,J,up⟩:=h4.cx q (E 3 (by omega)) (E 6 (by omega));have u:=lB n.a s.n;refine HQ J (by rw[E 10 (by omega)];exact c) (by show _<(G7 n.a _ _).length;unfold G7;rw[Kn,KE,Kv,KN,KB];omega) fun L K h5=>?_;have M:=((up _ _ h5).new l).new i;unfold fy;rw[Kg (by grind)];have e:Y4 (Y4 n (G7 n.a (q8 n.a s.n) ⟨[],[]⟩)) ((G7 n.a (q8 n.a s.n) ⟨[],[]⟩).set (q8 n.a s.n) ⟨s.n,s.v⟩)=Y4 n (G7 n.a (q8 n.a s.n) ⟨s.n,s.v⟩):=by rw[DG _ _ _ _ u];rfl
   rwa[<-e]
 ·refine .seq (HO H C fun tm1 hp1 o i r d=>?_);have C1:=C.new i (o 3 (by omega)) (o 6 (by omega));refine .seqX (.seq (HP hk C1 d fun B hp2 e p l g he=>.condT (j9 (by
   rw[g];rcases j with j| ⟨h1,h2⟩
   ·rw[Ll (fun h=>j (he.1 h))];rfl
   ·rw[h1,decide_eq_true h2];simp)) (A_R29 fun m h4=>⟨h4,i.trans l⟩)))
end
end Go.D
