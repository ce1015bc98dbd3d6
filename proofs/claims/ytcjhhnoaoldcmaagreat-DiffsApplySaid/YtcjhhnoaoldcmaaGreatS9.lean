/- attr, in the executor: where an attribute is, or would be (DiffsApply).
  Conditions: none. -/
import Derived.Test.YtcjhhnoaoldcmaaGreatS5
import Derived.Test.YtcjhhnoaoldcmaaGreatS8
set_option linter.all false
set_option maxRecDepth 10000
noncomputable section
namespace Go.D
open Go Go.Xe Go.Sx
open Go.C36 (row)
section
variable {hp hp':Hp}{tm:Ao}{i o n e z k:Nat}{cs:Ao}{v u:Aw}{vs:Af}{x y t:Nat}
theorem rl {t:Ay}(ht:(PR.underlying t).map R8=some true)(hs:(PR.info? t).map TypeInfo.size=some k){m:T Blk}{nx:Nat}{b:Blk}(h:m.get i=some b)(hr:rdC b=some (cs,n,z))(hn:o+k<=n)(hl:d6 cs o k=some vs):B0 PR ⟨m,nx⟩ t (.pointer (some ⟨i,o,none⟩))=some (.agg vs.toArray):=by
 cases a:PR.underlying t with
 |none=>grind|some d=>
  rw[a]at ht;simp at ht;cases hi:PR.info? t with
  |none=>grind|some ie=>rw[hi]at hs;simp at hs;simp only[B0,h,hr,a,ht,Kc,hi,hs,JS hn,hl]
theorem st_g {t:Ay}(hs:(PR.info? t).map TypeInfo.size=some k)(h:hp.m.get i=some (.cells cs n e z))(hn:o+k<=n)(hl:vs.length=k)(a:vs.all Value.oneCell'=true):A8 PR hp t (.pointer (some ⟨i,o,none⟩)) (.agg vs.toArray)=some {hp with m:=hp.m.set i (some (.cells (fill cs o vs) n e z))}:=by
 have:(Value.agg vs.toArray).cells.toList=vs:=rfl;cases hi:PR.info? t with
 |none=>grind|some ie=>rw[hi]at hs;simp at hs;simp only[A8,h,hi,hs,this,hl,l6,JS hn,a,Bool.and_self,Kc,E7]
def IE {t:Ay}{zv:Aw}(hz:D6 PR t=some zv)(call:c7):xop PR call tm hp (.alloc t)=some (.pointer (some ⟨hp.nx,0,none⟩),⟨hp.m.set hp.nx (some (.cells (fill .e 0 zv.cells.toList) zv.cells.toList.length t zv.cells.toList.length)),hp.nx+1⟩):=by simp only[b9,f7,xnw,cP,hz,G9,Hp.add,Nw.val,A0]
def JG (h:cst v=true)(call:c7):xop PR call tm hp (.move (.const v))=some (v,hp):=by simp only[b9,f7,a9,h,Kc,c9]
def JF {a b:Str}{t':Ay}(hx:tm.get x=some (.string ⟨a.toArray⟩))(hy:tm.get y=some (.string ⟨b.toArray⟩))(call:c7):xop PR call tm hp (.binOp .geq t (.tmp x) (.tmp y) t')=some (.bool (!Op.bytesLess a b),hp):=by simp only[b9,f7,a9,hx,hy,KC,v6,J3,yd,c9]
def JD {a b:Str}{t':Ay}(hx:tm.get x=some (.string ⟨a.toArray⟩))(hy:tm.get y=some (.string ⟨b.toArray⟩))(call:c7):xop PR call tm hp (.binOp .eql t (.tmp x) (.tmp y) t')=some (.bool (a==b),hp):=by simp only[b9,f7,a9,hx,hy,KC,v6,J3,yd,c9]
def ix_A {q c:Nat}{k:Int}(h0:0<=k)(h1:k<q):j7 PR tAs (.slice (some ⟨i,o,none⟩) q c) (.int .i64 k)=some (.pointer (some ⟨i,o+k.toNat*2,none⟩)):=by simp only[j7,nU,mz,hG,h0,h1,KR,Bool.and_self,Kc]
def ag_At :(PR.underlying tAt).map R8=some true:=by kernel_rfl
def Fy :(PR.info? tAt).map TypeInfo.size=some 2:=by kernel_rfl
def z_At :D6 PR tAt=some zvA:=by kernel_rfl
def Io (i o:Nat):i7 PR tAt (.pointer (some ⟨i,o,none⟩)) 0=some (.pointer (some ⟨i,o+0,none⟩)):=by kernel_rfl
abbrev tSt :Ay:=9
def fI :(PR.underlying tSt).map R8=some false:=by kernel_rfl
end
def q8 :List Att->Str->Nat
 | [],_=>0|a::l,s=>if Op.bytesLess a.n s=true then q8 l s+1 else 0
def z8 (l:List Att)(s:Str):Bool:=match l[q8 l s]? with
 |some a=>a.n==s|none=>false
theorem lB :∀(l:List Att) (s:Str),q8 l s<=l.length
 | [],_=>Kj _|a::l,s=>by unfold q8;have:=lB l s;grind
theorem qH :∀ {l:List Att} {s:Str} {i:Nat},(∀(j:Nat) a,j<i->l[j]? =some a->Op.bytesLess a.n s=true)->i<=l.length->(∀a,l[i]? =some a->Op.bytesLess a.n s=false)->q8 l s=i
 | [],s,i,_,h,_=>by simp at h;unfold q8;omega|a::l,s,0,_,_,h=>by unfold q8;rw[Kg (by grind)]|a::l,s,i+1,h1,h2,h3=>by unfold q8;rw[Ki (h1 0 a (by omega) rfl),qH (i:=i) (by grind) (by grind) (fun b hb=>h3 b (by grind))]
abbrev aF :Az:=63
def a_fn :PR.funcs[aF]? =some Go.Proofs.Tryz.f63:=by kernel_rfl
abbrev aL :Code:=cdA (cdA (cdB (cdA (cdB (D2 PR aF)))))
section
variable {ov :Aa}{hp:Hp}{tm:Ao}{l:List Att}{s:Str}{io oa c:Nat}
structure Ia (hp0:Hp)(iw ow:Nat)(l:List Att)(s:Str)(va:Aw)(i:Nat)(tm:Ao)(hp:Hp):Prop where
 t0:tm.get 0=some (.pointer (some ⟨iw,ow,none⟩))
 t1:tm.get 1=some (.string ⟨s.toArray⟩)
 t11:tm.get 11=some va
 t12:tm.get 12=some (.int .i64 l.length)
 t13:tm.get 13=some (.int .i64 i)
 nw:New hp0 hp
 le:i<=l.length
 lt:∀(j:Nat) a,j<i->l[j]? =some a->Op.bytesLess a.n s=true
def a_l0 :aL= .seq (cdA aL) (.seq (.cond (.tmp 14) .skip (.exit 0)) (.seq (.block 1 (.seq (cdA (cdA (cdA (cdB (cdB aL))))) (.seq (cdA (cdB (cdA (cdA (cdB (cdB aL)))))) (.cond (.tmp 21) (cdA (cdB (cdB (cdA (cdA (cdB (cdB aL))))))) .skip)))) (cdB (cdB (cdB aL))))):=rfl
variable {Q :Ao->Hp->Prop}
def a_R2 {n i:Int}(h12:tm.get 12=some (.int .i64 n))(a:tm.get 13=some (.int .i64 i))(k:∀tm1,(∀x,x≠14->tm1.get x=tm.get x)->tm1.get 14=some (.bool (decide (i<n)))->Q tm1 hp):YN PR ov 33 (cdA aL) tm hp Q:=by unfold aL;exact .region (.o (Aq a h12) (.nil ⟨.refl _,k _ (fun x hx=>by rw[gp,Kg hx]) (by rw[gp,Ki rfl])⟩))
theorem a_R6 {i:Int}(a:tm.get 13=some (.int .i64 i))(h0:0<=i)(h1:i<1000)(k:∀tm1,(∀x,x<13->tm1.get x=tm.get x)->tm1.get 13=some (.int .i64 (i+1))->Q tm1 hp):YN PR ov 33 (cdB (cdB (cdB aL))) tm hp Q:=by
 unfold aL;refine .region (.o (gK a h0 (by omega)) (.o qM (.nil ⟨.refl _,k _ (fun x hx=>?_) ?_⟩)))
 ·simp only[gp];grind
 ·simp only[gp];rfl
variable {ca:Ao}{i:Nat}
theorem a_R3 {a:Att}{r:Nat}(g:tm.get 11=some (.slice (some ⟨io,oa,none⟩) l.length c))(f:tm.get 13=some (.int .i64 i))(hi:i<l.length)(p:hp.m.get io=some (.cells ca r tAt 2))(hN:oa+i*2+2<=r)(w:AtC a ca (oa+i*2))(k:∀tm1 hp1,New hp hp1->(∀x,x≠6->x≠7->x<14->tm1.get x=tm.get x)->tm1.get 6=some (.int .i64 i)->tm1.get 7=some (.pointer (some ⟨hp.nx,0,none⟩))->(∃d,hp1.m.get hp.nx=some (.cells d 2 tAt 2)/\d.get 0=some (.string ⟨a.n.toArray⟩))->Q tm1 hp1):YN PR ov 33 (cdA (cdA (cdA (cdB (cdB aL))))) tm hp Q:=by
 have q:d6 ca (oa+i*2) 2=some [.string ⟨a.n.toArray⟩,.string ⟨a.v.toArray⟩]:=by
  have:=hP (l:=[a]) (fun j b hb=>by
   match j,hb with
   |0,hb=>cases hb;exact w
   |j+1,hb=>simp at hb)
  exact this
 have zl:zvA.cells.toList.length=2:=rfl;unfold aL;refine .region (.o (i5 f) (.o (cX (by simp only[gp];exact g) (by simp only[gp];exact f) (ix_A (by omega) (by omega))) (.o (qL (h:=(rl ag_At Fy p rfl hN q))) (.o (IE z_At) (.o qA (.o (qS (h:=(st_g Fy (by rw[Mw,Ki rfl,zl]) (by omega) rfl rfl))) (.nil ⟨?_,k _ _ ⟨Lk _,fun j hj=>?_⟩ (fun x A h7 hx=>?_) ?_ ?_ ⟨fill (fill .e 0 zvA.cells.toList) 0 [.string ⟨a.n.toArray⟩,.string ⟨a.v.toArray⟩],?_,?_⟩⟩)))))))
 ·exact(d9 (Lk _) (.inl (Kj _))).trans (d9 (Kj _) (.inr (by rw[Mw,Ki rfl];exact fun h=>by grind)))
 ·show((hp.m.set _ _).set _ _).get j=_;rw[Mw,Kg (by omega),Mw,Kg (by omega)]
 ·simp only[gp,gn];grind
 ·simp only[gp,gn];rfl
 ·simp only[gp,gn];rfl
 ·show((hp.m.set _ _).set _ _).get _=_;rw[Mw,Ki rfl]
 ·rfl
variable {d:Ao}
theorem a_R4 {a:Att}{s:Str}{f:Nat}(h1:tm.get 1=some (.string ⟨s.toArray⟩))(h7:tm.get 7=some (.pointer (some ⟨f,0,none⟩)))(hd:hp.m.get f=some (.cells d 2 tAt 2))(b:d.get 0=some (.string ⟨a.n.toArray⟩))(k:∀tm1,(∀x,x<14->tm1.get x=tm.get x)->tm1.get 21=some (.bool (!Op.bytesLess a.n s))->Q tm1 hp):YN PR ov 33 (cdA (cdB (cdA (cdA (cdB (cdB aL)))))) tm hp Q:=by
 unfold aL;refine .region (.o (l7 Io h7) (.o (qL (h:=((B7 fI hd rfl (by omega)).trans b))) (.o (i5 (by simp only[gp];exact h1)) (.o (JF (by simp only[gp];rfl) (by simp only[gp];rfl)) (.nil ⟨.refl _,k _ (fun x hx=>?_) ?_⟩)))))
 ·simp only[gp];grind
 ·simp only[gp];rfl
def a_R5 {a:Att}{s:Str}{f:Nat}(h1:tm.get 1=some (.string ⟨s.toArray⟩))(g:tm.get 6=some (.int .i64 i))(h7:tm.get 7=some (.pointer (some ⟨f,0,none⟩)))(hd:hp.m.get f=some (.cells d 2 tAt 2))(b:d.get 0=some (.string ⟨a.n.toArray⟩))(k:∀tm1 hp1,New hp hp1->tm1.get 4=some (.int .i64 i)->tm1.get 5=some (.bool (a.n==s))->Q tm1 hp1):YR ov 33 (cdA (cdB (cdB (cdA (cdA (cdB (cdB aL))))))) tm hp Q:=by
 unfold aL;refine .seq (.drawG rfl ?_);refine .mv rfl rfl rfl g (.o (l7 Io (by simp only[gp];exact h7)) (.r (qL (h:=((B7 fI hd rfl (by omega)).trans b))) (.o (i5 (by simp only[gp];exact h1)) (.o (JD (by simp only[gp];rfl) (by simp only[gp];rfl)) ?_))));refine .o qA (.o qA (.nil ⟨by kernel_rfl,by kernel_rfl,⟨Nat.le_add_right _ _,fun r hr h=>h⟩,.ret (k _ _ ⟨Nat.le_add_right _ _,fun j hj=>rfl⟩ ?_ ?_)⟩))
 ·simp only[gp];rfl
 ·simp only[gp];rfl
theorem Gi {hp0:Hp}{iw ow:Nat}{C:Nat}(hc:hp0.m.get io=some (.cells ca C tAt 2))(D:io<hp0.nx)(hN:oa+l.length*2<=C)(G:∀(j:Nat) a,l[j]? =some a->AtC a ca (oa+j*2))(hl:l.length<=1000)(I:Ia hp0 iw ow l s (.slice (some ⟨io,oa,none⟩) l.length c) i tm hp)(hi:i<l.length):(YN PR ov 33 aL tm hp fun tm' hp'=>Ia hp0 iw ow l s (.slice (some ⟨io,oa,none⟩) l.length c) (i+1) tm' hp')\/YR ov 33 aL tm hp fun tm' hp'=>tm'.get 4=some (.int .i64 (q8 l s))/\tm'.get 5=some (.bool (z8 l s))/\New hp0 hp':=by
 obtain⟨a,ha⟩:∃a,l[i]? =some a:=⟨_,JX hi⟩
 have q:hp.m.get io=some (.cells ca C tAt 2):=by rw[I.nw.old io D];exact hc
 have hd:decide ((i:Int)<(l.length:Int))=true:=decide_eq_true (by omega);cases hb:Op.bytesLess a.n s with
 |true=>
  left;refine .seq (a_R2 I.t12 I.t13 fun t1 g b1=>.seq (.condT (qX (by grind)) (.skip (.seq (.block (.seq ?_))))));refine a_R3 (by rw[g 11 (by omega)];exact I.t11) (by rw[g 13 (by omega)];exact I.t13) hi q (by omega) (G i a ha) fun t2 hp2 E A J b7 ⟨d,r,w⟩=>.seq ?_;refine a_R4 (by rw[A 1 (by omega) (by omega) (by omega),g 1 (by omega)];exact I.t1) b7 r w fun t3 F b3=>.condF (qX (by grind)) (.skip ?_);have p:∀x,x<14->x≠6->x≠7->t3.get x=tm.get x:=fun x h L h7=>by grind
  refine a_R6 (by rw[p 13 (by omega) (by omega) (by omega)];exact I.t13) (by omega) (by omega) fun t4 B b4=>⟨by rw[B 0 (by omega),p 0 (by omega) (by omega) (by omega)];exact I.t0,by rw[B 1 (by omega),p 1 (by omega) (by omega) (by omega)];exact I.t1,by rw[B 11 (by omega),p 11 (by omega) (by omega) (by omega)];exact I.t11,by rw[B 12 (by omega),p 12 (by omega) (by omega) (by omega)];exact I.t12,b4,I.nw.trans E,hi,fun j b hj f=>?_⟩
  rcases Nat.lt_or_ge j i with h|h
  ·exact I.lt j b h f
  ·have:j=i:=by omega
   subst this;rw[ha]at f;cases f;exact hb
 |false=>
  right;have H:=qH I.lt I.le fun b f=>by grind
  have is:z8 l s=(a.n==s):=by unfold z8;rw[H,ha]
  rw[a_l0,H,is];refine .seq (a_R2 I.t12 I.t13 fun t1 g b1=>.seq (.condT (qX (by grind)) (.skip (.seqX (.block (.seq ?_))))));refine a_R3 (by rw[g 11 (by omega)];exact I.t11) (by rw[g 13 (by omega)];exact I.t13) hi q (by omega) (G i a ha) fun t2 hp2 E A J b7 ⟨d,r,w⟩=>.seq ?_;refine a_R4 (by rw[A 1 (by omega) (by omega) (by omega),g 1 (by omega)];exact I.t1) b7 r w fun t3 F b3=>.condT (qX (by grind)) ?_;exact a_R5 (by rw[F 1 (by omega),A 1 (by omega) (by omega) (by omega),g 1 (by omega)];exact I.t1) (by grind) (by grind) r w fun t4 K n4 b4 b5=>⟨b4,b5,(I.nw.trans E).trans n4⟩
theorem CB {hp0:Hp}{iw ow:Nat}{ca:Ao}{va:Aw}(B:l=[]\/ ∃io oa c g,va= .slice (some ⟨io,oa,none⟩) l.length c/\hp0.m.get io=some (.cells ca g tAt 2)/\io<hp0.nx/\oa+l.length*2<=g/\ ∀(j:Nat) a,l[j]? =some a->AtC a ca (oa+j*2))(hl:l.length<=1000):∀(d i:Nat) (tm:Ao) (hp:Hp),i+d=l.length->Ia hp0 iw ow l s va i tm hp->(∃tm' hp',XK PR ov 33 (.loop aL) tm hp .ret tm' hp'/\tm'.get 4=some (.int .i64 (q8 l s))/\tm'.get 5=some (.bool (z8 l s))/\New hp0 hp')\/ ∃tm' hp',XK PR ov 33 (.loop aL) tm hp (.exit 0) tm' hp'/\tm'.get 0=some (.pointer (some ⟨iw,ow,none⟩))/\q8 l s=l.length/\New hp0 hp'
 |0,i,tm,hp,hd,I=>by
  right;obtain⟨tm1,hp1,b,rfl,p,h⟩:=a_R2 (ov:=ov) (Q:=fun tm1 hp1=>hp1=hp/\(∀x,x≠14->tm1.get x=tm.get x)/\tm1.get 14=some (.bool (decide ((i:Int)<(l.length:Int))))) I.t12 I.t13 fun tm1 p h=>⟨rfl,p,h⟩
  rw[Ll (by omega)]at h;exact⟨tm1,hp1,.loopX (b.seq (.seqX (.condF (qX h) .exit) (by simp))) (by simp),by rw[p 0 (by omega)];exact I.t0,qH (fun j a hj ha=>I.lt j a (by omega) ha) (Kj _) (fun a ha=>by grind),I.nw⟩
 |d+1,i,tm,hp,hd,I=>by
  rcases B with rfl| ⟨io,oa,c,g,rfl,hc,f,hN,w⟩
  ·grind
  rcases Gi hc f hN w hl I (by omega)with⟨tm1,hp1,b,A⟩| ⟨tm1,hp1,b,q⟩
  ·rcases CB (.inr ⟨io,oa,c,g,rfl,hc,f,hN,w⟩) hl d (i+1) tm1 hp1 (by omega) A with⟨tm',hp',r,q⟩| ⟨tm',hp',r,q⟩
   ·exact .inl ⟨tm',hp',b.loopN r,q⟩
   ·exact .inr ⟨tm',hp',b.loopN r,q⟩
  ·exact .inl ⟨tm1,hp1,b.loopX (by simp),q⟩
end
end Go.D
