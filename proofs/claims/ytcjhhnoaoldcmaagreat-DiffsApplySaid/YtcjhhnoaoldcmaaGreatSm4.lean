/- The symbolic engine: Delete and Insert, parts 41, 42, 43, 45, 46, 47.
  Conditions: none. -/
import Derived.Test.YtcjhhnoaoldcmaaGreatXm4
import Derived.KernelRfl
set_option linter.all false
noncomputable section PartSm441
namespace Go.Sx
open Go.Xe
section
variable {P :Ax}{U:Ab}{τ:Tau}{F:Ac}{s:SS}{hp:Hp}
end
section
variable (P :Ax)(U:Ab)
end
section
variable {P :Ax}{U:Ab}{ov:Aa}
def yK (n:Nat):(exec P ov n).ov=ov:=by cases n<;>rfl
def Y8 {C:c7->Prop}(a:∀n,C (exec P ov n)){g:Az}(b:isT (ov g)=false){args:Af}{hp:Hp}{v:Aw}{hp':Hp}(h:jZ P C g (bif wkF P g then wkA hp args else args) hp v hp'):A4 P ov g args hp v hp':=by
 obtain⟨m0,h⟩:=h;refine⟨m0+1,fun n hn=>?_⟩;obtain⟨k,rfl⟩:∃k,n=k+1:=⟨n-1,by omega⟩
 show(bif isT (ov g)&&args.isEmpty then some (.bool true,hp)else fU (V2 P (j3 P) (exec P ov k) (P5 P (j3 P) (exec P ov k) k) k g) (bif wkF P g then wkA hp args else args) hp)=_;rw[b,Bool.false_and,Ke];exact h _ (a k) k (by omega) _
def HJ {hp:Hp}{a:Addr}{l lo:Nat}{xs:Af}:wkA hp (.slice (some a) l (c8 lo 0)::xs)= .slice (some a) l (c8 lo 0)::xs:=by
 obtain⟨i,o,e⟩:=a;have:Nat.ble (c8 lo 0) 67108864=false:=ble_f (by have:=j1 lo 0;unfold unk at this;omega);cases e with
 |none=>simp only[wkA,this,Ke]|some e=>rfl
variable {τ :Tau}{F:Ac}{s:SS}{hp:Hp}
end
end Go.Sx
end PartSm441
noncomputable section PartSm442
namespace Go.Sx
open Go.Xe
section
variable {P :Ax}{U:Ab}{ov:Aa}{τ:Tau}{F:Ac}{s:SS}{hp:Hp}
end
end Go.Sx
end PartSm442
noncomputable section PartSm443
namespace Go.Sx
open Go.Xe
section
variable {P :Ax}{U:Ab}{ov:Aa}
abbrev fG:=List (Az×(Au->M SV))
variable (P U ov) in
def AE :fG->Prop
 | []=>True|p::xs=>(I5 P U ov p.2 p.1/\isT (ov p.1)=false)/\AE xs
variable (P U) in
def K7 (l:List (Az×Con)):fG->Az->Bc (Au->M SV)
 | [],g=>conP P U l g|p::xs,g=>bif Nat.beq p.1 g then some p.2 else K7 l xs g
def yA {l:List (Az×Con)}(ha:aI P U ov l):∀ {xs:fG},AE P U ov xs-> ∀g k,K7 P U l xs g=some k->I5 P U ov k g
 | [],_,g,k,hk=>by
  unfold K7 conP at hk;cases h:gZ P U l g with
  |none=>rw[h]at hk;cases hk
  |some k0=>rw[h]at hk;cases hk;exact EL (tq ha g k0 h)
 |p::xs,hx,g,k,hk=>by
  unfold K7 at hk;cases hb:Nat.beq p.1 g with
  |true=>rw[hb,Kc,JL]at hk;rw[<-hk,<-JQ hb];exact hx.1.1|false=>rw[hb,Ke]at hk;exact yA ha hx.2 g k hk
def pi {l:List (Az×Con)}:∀ {xs:fG},AE P U ov xs-> ∀g,isT (ov g)=true->K7 P U l xs g=none->gZ P U l g=none
 | [],_,g,_,hn=>by
  unfold K7 conP at hn;cases h:gZ P U l g with
  |none=>rfl|some k0=>rw[h]at hn;cases hn
 |p::xs,hx,g,a,hn=>by
  unfold K7 at hn;cases hb:Nat.beq p.1 g with
  |true=>rw[hb,Kc]at hn;cases hn
  |false=>rw[hb,Ke]at hn;exact pi hx.2 g a hn
variable {l:List (Az×Con)}{xs:fG}{g:Az}
def o6 (a:Az->List (Nat×(Fm->SS->Z7)))(ha:aI P U ov l)(hx:AE P U ov xs)(n:Nat){c:Con}{V:Prop}(he:(cvc P U c (sxF P U a (K7 P U l xs) n g)).vc U (fun _=>True)=V)(f:V)(d:∀g,isT (ov g)=true->gZ P U l g≠none:=by exact noT)(b:isT (ov g)=false:=by rfl):g8 P U ov c g:=
 pW (Ju a (con:=K7 P U l xs) (yA ha hx) (fun g b hn=>d g b (pi hx g b hn)) n g b) (he.symm▸f)
def Q8 (a:Az->List (Nat×(Fm->SS->Z7)))(ha:aI P U ov l)(hx:AE P U ov xs)(m:Nat){c:Con}(mu:As->Nat){V:Nat->Prop}(he:∀n,(cvc P U (c.below mu (n+1)) (sxF P U a (K7 P U ((g,c.below mu n)::l) xs) m g)).vc U (fun _=>True)=V n)(h:∀n,V n)(d:∀n,∀b,isT (ov b)=true->gZ P U ((g,c.below mu n)::l) b≠none)(f:isT (ov g)=false:=by rfl):g8 P U ov c g:=
 xg fun n hn=>o6 a (l:=(g,c.below mu n)::l) ⟨hn,ha⟩ hx m (he n) (h n) (d n) f
end
end Go.Sx
end PartSm443
noncomputable section PartSm445
namespace Go.Sx
open Go.Xe
mutual
def Bp (n:Nat):SV->Bool
 | .any=>true| .int _ _=>true| .bool _=>true| .str _=>true| .nilp=>true| .nils=>true| .sl _ _ _ _ _=>true| .agg l=>noFvs n l| .tup l=>noFvs n l|_=>false
def noFvs (n:Nat):Au->Bool
 | []=>true|a::l=>Bp n a&&noFvs n l
end
def jo {n:Nat}:∀ {l:Au},noFvs n l=true-> ∀ {i:Nat} {a:SV},l[i]? =some a->Bp n a=true
 | [],_,i,a,h=>by simp at h|b::l,h,0,a,ha=>by unfold noFvs at h;rw[JM]at h;simp only[Kb,JL]at ha;rw[<-ha];exact h.1|b::l,h,i+1,a,ha=>by unfold noFvs at h;rw[JM]at h;exact jo h.2 (by simpa using ha)
section
variable {P :Ax}{U:Ab}{ov:Aa}
def VD.noF {n:Nat}{τ:Tau}{F F':Ac}{a:SV}{v:Aw}(h:VD P U τ F a v)(hn:Bp n a=true):VD P U τ F' a v:=by
 induction h with
 |any v=>exact .any v|int k e=>exact .int k e|bool e=>exact .bool e|str e=>exact .str e|nilp=>exact .nilp|nils=>exact .nils|sl b z off len cap i o c k h0 h1 hc=>exact .sl b z off len cap i o c k h0 h1 hc|sl0 b z off len cap k h0 h1 hc=>exact .sl0 b z off len cap k h0 h1 hc|agg l xs h1 _ d=>exact .agg l xs h1 fun i a x ha hx=>d i a x ha hx (jo (by unfold Bp at hn;exact hn) ha)
 |tup l xs h1 _ d=>exact .tup l xs h1 fun i a x ha hx=>d i a x ha hx (jo (by unfold Bp at hn;exact hn) ha)
 |_=>simp[Bp]at hn
end
end Go.Sx
end PartSm445
noncomputable section PartSm446
namespace Go.Sx
open Go.Xe
section
variable {P :Ax}{ov:Aa}{nt:Nat}
structure l9 (hp hp':Hp):Prop where
 nx:hp.nx<=hp'.nx
 dfr:∀r,r<hp.nx->hp.m.get r=some .dfr->hp'.m.get r=some .dfr
def l9.refl (hp:Hp):l9 hp hp:=⟨Kj _,fun _ _ h=>h⟩
def l9.trans {a b c:Hp}(h:l9 a b)(k:l9 b c):l9 a c:=⟨KS h.nx k.nx,fun r hr h0=>k.dfr r (KO hr h.nx) (h.dfr r hr h0)⟩
def Ext.keeps {U:Ab}{τ τ':Tau}{F F':Ac}{s s':SS}{hp hp':Hp}(h:Ext τ F s hp τ' F' s' hp')(hs:SD P U τ F s hp):l9 hp hp':=
 ⟨h.nx,fun r hr h0=>h.dfr hs hr h0 (.inl rfl)⟩
variable (P ov nt) in
structure XK (c:Code)(tm:Ao)(hp:Hp)(e:Exit)(tm':Ao)(hp':Hp):Prop where
 run:XC P ov none nt c tm hp e tm' hp'
 kp:l9 hp hp'
variable {c c1 c2:Code}{tm tm1 tm':Ao}{hp hp1 hp':Hp}{e:Exit}
def XK.seq (h:XK P ov nt c1 tm hp .normal tm1 hp1)(k:XK P ov nt c2 tm1 hp1 e tm' hp'):XK P ov nt (.seq c1 c2) tm hp e tm' hp':=
 ⟨h.run.comp k.run h.kp.nx k.kp.nx k.kp.dfr fun n m ds d f a b=>by simp only[f9,a,b],h.kp.trans k.kp⟩
def XK.seqX (h:XK P ov nt c1 tm hp e tm' hp')(he:e≠ .normal):XK P ov nt (.seq c1 c2) tm hp e tm' hp':=
 ⟨h.run.map fun n m ds b a=>by simp only[f9,a];cases e<;>first|rfl|exact absurd rfl he,h.kp⟩
def XK.condT {o:Ba}(hc:a9 tm o=some (.bool true))(h:XK P ov nt c1 tm hp e tm' hp'):XK P ov nt (.cond o c1 c2) tm hp e tm' hp':=
 ⟨h.run.map fun n m ds b a=>by simp only[f9,hc,a],h.kp⟩
def XK.condF {o:Ba}(hc:a9 tm o=some (.bool false))(h:XK P ov nt c2 tm hp e tm' hp'):XK P ov nt (.cond o c1 c2) tm hp e tm' hp':=
 ⟨h.run.map fun n m ds b a=>by simp only[f9,hc,a],h.kp⟩
def XK.skip :XK P ov nt .skip tm hp .normal tm hp:=⟨.of0 ⟨0,fun n m ds _ _=>rfl⟩,.refl _⟩
def XK.ret :XK P ov nt .ret tm hp .ret tm hp:=⟨.of0 ⟨0,fun n m ds _ _=>rfl⟩,.refl _⟩
variable {id:Nat}
def XK.exit :XK P ov nt (.exit id) tm hp (.exit id) tm hp:=⟨.of0 ⟨0,fun n m ds _ _=>rfl⟩,.refl _⟩
def XK.block (h:XK P ov nt c tm hp .normal tm' hp'):XK P ov nt (.block id c) tm hp .normal tm' hp':=
 ⟨h.run.map fun n m ds b a=>by simp only[f9,a],h.kp⟩
def XK.blockX (h:XK P ov nt c tm hp (.exit id) tm' hp'):XK P ov nt (.block id c) tm hp .normal tm' hp':=
 ⟨h.run.map fun n m ds b a=>by simp only[f9,a,l6 (rfl:id=id),Kc],h.kp⟩
def XK.loopN (h:XK P ov nt c tm hp .normal tm1 hp1)(k:XK P ov nt (.loop c) tm1 hp1 e tm' hp'):XK P ov nt (.loop c) tm hp e tm' hp':=
 ⟨h.run.comp k.run h.kp.nx k.kp.nx k.kp.dfr fun n m ds d f a b=>by simp only[f9,a,b],h.kp.trans k.kp⟩
def XK.loopX (h:XK P ov nt c tm hp e tm' hp')(he:e≠ .normal):XK P ov nt (.loop c) tm hp e tm' hp':=
 ⟨h.run.map fun n m ds b a=>by simp only[f9,a];cases e<;>first|rfl|exact absurd rfl he,h.kp⟩
variable {ops:Am}
def XK.region (h:XOps P ov nt ops.toList ops.toList tm hp tm' hp')(k:l9 hp hp'):XK P ov nt (.region id ops false) tm hp .normal tm' hp':=by obtain⟨n0,h⟩:=h;exact⟨.of0 ⟨n0,fun n m ds hn _=>by simp only[f9,Ke,h n hn]⟩,k⟩
def XK.draw (h:EV fun n=>j3 P (exec P ov n) nt ops.toList tm hp=some (tm',hp'))(k:l9 hp hp'):XK P ov nt (.region id ops true) tm hp .normal tm' hp':=by obtain⟨n0,h⟩:=h;exact⟨.of0 ⟨n0,fun n m ds hn _=>by simp only[f9,Kc,h n hn]⟩,k⟩
variable (P ov nt) in
def YO (all l:An)(tm:Ao)(hp:Hp)(Q:Ao->Hp->Prop):Prop:=∃tm1 hp1,XOps P ov nt all l tm hp tm1 hp1/\Q tm1 hp1
variable (P ov nt) in
def YN (c:Code)(tm:Ao)(hp:Hp)(Q:Ao->Hp->Prop):Prop:=∃tm1 hp1,XK P ov nt c tm hp .normal tm1 hp1/\Q tm1 hp1
variable {Q :Ao->Hp->Prop}{all rest:An}{o:Oper}{v:Aw}{t:Tmp}
def YO.nil (h:Q tm hp):YO P ov nt all [] tm hp Q:=⟨_,_,.of fun _=>iS,h⟩
def YO.cons (h1:j4 nt o.dst=true)(h2:o.guard=none)(h:XOp P ov o.op tm hp v hp1)(k:YO P ov nt all rest (j0 tm o.dst v) hp1 Q):YO P ov nt all (o::rest) tm hp Q:=by obtain⟨t1,d,k1,k2⟩:=k;refine⟨t1,d,(h.and k1).mono fun n ⟨a,b⟩=>?_,k2⟩;rw[L4,h1,Kc,a];simp only[e9,h2,Kc];exact b
def YO.op (h1:j4 nt o.dst=true)(h2:o.guard=none)(h:∀call,xop P call tm hp o.op=some (v,hp1))(k:YO P ov nt all rest (j0 tm o.dst v) hp1 Q):YO P ov nt all (o::rest) tm hp Q:= .cons h1 h2 (.of fun _=>h _) k
def YO.opW (h1:j4 nt o.dst=true)(h2:e9 all tm o=true)(h:∀call,xop P call tm hp o.op=some (v,hp1))(k:YO P ov nt all rest (j0 tm o.dst v) hp1 Q):YO P ov nt all (o::rest) tm hp Q:=by obtain⟨t1,a,k1,k2⟩:=k;refine⟨t1,a,k1.mono fun n b=>?_,k2⟩;rw[L4,h1,Kc,h2,Kc,h (exec P ov n)];exact b
def YO.skipW (h1:j4 nt o.dst=true)(h2:e9 all tm o=false)(k:YO P ov nt all rest (j0 tm o.dst undef) hp Q):YO P ov nt all (o::rest) tm hp Q:=by obtain⟨t1,a,k1,k2⟩:=k;refine⟨t1,a,k1.mono fun n b=>?_,k2⟩;rw[L4,h1,Kc,h2,Ke];exact b
def YO.mv (h1:j4 nt o.dst=true)(h2:o.guard=none)(h:o.op= .move (.tmp t))(a:tm.get t=some v)(k:YO P ov nt all rest (j0 tm o.dst v) hp Q):YO P ov nt all (o::rest) tm hp Q:=
 .op h1 h2 (fun _=>by rw[h];simp only[b9,f7,a9,c9,a,KC]) k
def YO.asg (h1:j4 nt o.dst=true)(h2:o.guard=none)(h:o.op= .assign (.tmp t))(a:tm.get t=some v)(k:YO P ov nt all rest (j0 tm o.dst v) hp Q):YO P ov nt all (o::rest) tm hp Q:=
 .op h1 h2 (fun _=>by rw[h];simp only[b9,f7,a9,c9,a,KC]) k
def YN.region (h:YO P ov nt ops.toList ops.toList tm hp fun t1 h1=>l9 hp h1/\Q t1 h1):YN P ov nt (.region id ops false) tm hp Q:=by obtain⟨t1,h1,k1,k2,k3⟩:=h;exact⟨t1,h1,.region k1 k2,k3⟩
def YN.seq (h:YN P ov nt c1 tm hp fun t1 h1=>YN P ov nt c2 t1 h1 Q):YN P ov nt (.seq c1 c2) tm hp Q:=by obtain⟨t1,h1,k1,t2,h2,k2,k3⟩:=h;exact⟨t2,h2,k1.seq k2,k3⟩
def YN.skip (h:Q tm hp):YN P ov nt .skip tm hp Q:=⟨_,_,.skip,h⟩
def YN.condT {o:Ba}(hc:a9 tm o=some (.bool true))(h:YN P ov nt c1 tm hp Q):YN P ov nt (.cond o c1 c2) tm hp Q:=by obtain⟨t1,h1,k1,k2⟩:=h;exact⟨t1,h1,k1.condT hc,k2⟩
def YN.condF {o:Ba}(hc:a9 tm o=some (.bool false))(h:YN P ov nt c2 tm hp Q):YN P ov nt (.cond o c1 c2) tm hp Q:=by obtain⟨t1,h1,k1,k2⟩:=h;exact⟨t1,h1,k1.condF hc,k2⟩
def YN.block (h:YN P ov nt c tm hp Q):YN P ov nt (.block id c) tm hp Q:=by obtain⟨t1,h1,k1,k2⟩:=h;exact⟨t1,h1,k1.block,k2⟩
def YN.mono {a:Ao->Hp->Prop}(h:YN P ov nt c tm hp Q)(k:∀t1 h1,l9 hp h1->Q t1 h1->a t1 h1):YN P ov nt c tm hp a:=by obtain⟨t1,h1,k1,k2⟩:=h;exact⟨t1,h1,k1,k _ _ k1.kp k2⟩
variable (P ov nt) in
def YG (all:An)(nx0:Nat)(l:List (Oper×Nat))(i:Nat)(tm:Ao)(S:Hp)(I:Nat)(es:List Ent)(Q:Out->Prop):Prop:=∃out,(EV fun n=>xgo P (exec P ov n) nt all nx0 l i tm S I es=some out)/\Q out
variable {nx0 pre ix I:Nat}{restG:List (Oper×Nat)}{S S2:Hp}{es:List Ent}{QO:Out->Prop}
def YG.nil (h:QO ⟨tm,S,I,es⟩):YG P ov nt all nx0 [] ix tm S I es QO:=⟨_,.of fun _=>rfl,h⟩
theorem YG.k0 (h1:j4 nt o.dst=true)(h2:o.guard=none)(h3:d5 o.op=0)(h:∀call,xop P call tm S o.op=some (v,S))(k:YG P ov nt all nx0 restG (ix+1) (j0 tm o.dst v) S I (⟨ix,o,pre,tm,S,S,I,true,v,none⟩::es) QO):YG P ov nt all nx0 ((o,pre)::restG) ix tm S I es QO:=by obtain⟨b,k1,k2⟩:=k;refine⟨b,k1.mono fun n a=>?_,k2⟩;unfold xgo;rw[h1,Kc];simp only[e9,h2,Kc,h3,h (exec P ov n)];grind
theorem YG.k1 (h1:j4 nt o.dst=true)(h2:o.guard=none)(h3:d5 o.op=1)(h:∀call,xop P call tm S o.op=some (v,S))(k:YG P ov nt all nx0 restG (ix+1) (j0 tm o.dst v) S I (⟨ix,o,pre,tm,S,S,I,true,v,none⟩::es) QO):YG P ov nt all nx0 ((o,pre)::restG) ix tm S I es QO:=by
 obtain⟨b,k1,k2⟩:=k;refine⟨b,k1.mono fun n a=>?_,k2⟩;unfold xgo;rw[h1,Kc];have:xrd P tm S o.op=some v:=by unfold xrd;simp_all
 simp only[e9,h2,Kc,h3,this];grind
def YG.k3 (h1:j4 nt o.dst=true)(h2:o.guard=none)(h3:d5 o.op=3)(ht:takes nx0 (ee pre I) es S=S)(h:XOp P ov o.op tm S v S2)(k:YG P ov nt all nx0 restG (ix+1) (j0 tm o.dst v) S2 (I|||pre) (⟨ix,o,pre,tm,S,S2,I,true,v,none⟩::es) QO):YG P ov nt all nx0 ((o,pre)::restG) ix tm S I es QO:=by obtain⟨d,k1,k2⟩:=k;refine⟨d,(h.and k1).mono fun n ⟨a,b⟩=>?_,k2⟩;unfold xgo;rw[h1,Kc];simp only[e9,h2,Kc,h3,ht,a];exact b
def YG.mv (h1:j4 nt o.dst=true)(h2:o.guard=none)(h3:o.op= .move (.tmp t))(a:tm.get t=some v)(k:YG P ov nt all nx0 restG (ix+1) (j0 tm o.dst v) S I (⟨ix,o,pre,tm,S,S,I,true,v,none⟩::es) QO):YG P ov nt all nx0 ((o,pre)::restG) ix tm S I es QO:=
 .k0 h1 h2 (by rw[h3];rfl) (fun _=>by rw[h3];simp only[b9,f7,a9,c9,a,KC]) k
def YN.drawG (d:stat ops.toList (C4 ops.toList [])=true)(h:YG P ov nt ops.toList hp.nx (ops.toList.zip (C4 ops.toList [])) 0 tm ⟨hp.m,hp.nx+ops.toList.length⟩ 0 [] fun b=>dyn P ⟨hp.m,hp.nx+ops.toList.length⟩ b.es=true/\takes hp.nx (ea b.I) b.es b.S=b.S/\l9 hp b.S/\Q b.tm b.S):YN P ov nt (.region id ops true) tm hp Q:=by
 obtain⟨b,h1,h2,h3,h4,h5⟩:=h;refine⟨b.tm,b.S,.draw (h1.mono fun n a=>?_) h4,h5⟩;have:N3 P (exec P ov n) nt ops.toList tm hp=some (b.tm,b.S):=by unfold N3;rw[d,Kc,a];simp only[h2,Kc,h3]
 unfold j3;rw[this]
end
end Go.Sx
end PartSm446
noncomputable section PartSm447
namespace Go.Sx
open Go.Xe
def D2 (P:Ax)(g:Az):Code:=match P.funcs[g]? with
 |some fn=>fn.body.getD .skip|none=>.skip
def cdA :Code->Code
 | .seq a _=>a| .cond _ a _=>a| .block _ c=>c| .loop c=>c|c=>c
def cdB :Code->Code
 | .seq _ b=>b| .cond _ _ b=>b|c=>c
section
variable {P :Ax}{U:Ab}{ov:Aa}
variable {g:Az}
def bK {fn:Func}{c:Code}{args:Af}{tm':Ao}{hp hp':Hp}{e:Exit}{vs:Af}(j:P.funcs[g]? =some fn)(hc:fn.body=some c)(z:isT (ov g)=false)(h:XK P ov (args.length+(fn.ntmps-args.length)) c (fill .e 0 args) hp e tm' hp')(he:e= .normal\/e= .ret)(b:∀hp2:Hp,(∀i,hp'.m.get i≠some .dfr->hp2.m.get i=hp'.m.get i)->C8 P tm' hp2 fn.results.toList=some vs)(q:wkF P g=false:=by kernel_rfl):∃hp2,A4 P ov g args hp (bI vs) hp2/\hp2.nx=hp'.nx/\(∀i,hp'.m.get i≠some .dfr->hp2.m.get i=hp'.m.get i)/\l9 hp hp2:=by
 obtain⟨⟨f,⟨p,d⟩,B,y⟩,kp⟩:=h;have same:∀n:Nat,I3 P (P5 P (j3 P) (exec P ov n) n) (f.map Df.mark++ []) hp'=I3 P (P5 P (j3 P) (exec P ov 0) 0) (f.map Df.mark++ []) hp':=fun n=>gH f hp';obtain⟨hp2,A,w,x⟩:=cW (runD:=P5 P (j3 P) (exec P ov 0) 0) f hp' p fun r hr=>(d r hr).2.2;have u:∀i,hp'.m.get i≠some .dfr->hp2.m.get i=hp'.m.get i:=fun i hi=>x i fun hm=>hi (d i hm).2.2;refine⟨hp2,⟨B+1,fun n hn=>?_⟩,w,u,⟨by rw[w];exact kp.nx,fun r hr h0=>?_⟩⟩
 ·obtain⟨n,rfl⟩:∃k,n=k+1:=⟨n-1,by omega⟩
  have hx:=y n n [] (by omega) (by omega);show(bif isT (ov g)&&args.isEmpty then some (.bool true,hp)else fU (V2 P (j3 P) (exec P ov n) (P5 P (j3 P) (exec P ov n) n) n g) (bif wkF P g then wkA hp args else args) hp)=_;rw[z,Bool.false_and,Ke,q,Ke];have a:=(same n).trans A;have hb:V2 P (j3 P) (exec P ov n) (P5 P (j3 P) (exec P ov n) n) n g args hp=some (bI vs,hp2):=by
   simp only[V2,j,hc];rcases he with hr|hr
   ·rw[hr]at hx;simp only[hx,jO,a,b hp2 u]
   ·rw[hr]at hx;simp only[hx,jO,a,b hp2 u]
  simp only[fU,hb]
 ·rw[x r fun hm=>by have:=(d r hm).1;omega];exact kp.dfr r hr h0
def te :∀ {ps:List Lf} {ds:Av} {nb:Nat},I9 ps=0->X0 ps ds nb=[]
 | [],_,_,_=>rfl|x::l,ds,nb,h=>by unfold I9 at h;unfold X0;rw[Lf.blk_none (by omega),te (by omega)]
def FH (F:Ac)(hp:Hp):Prop:=∀i b,F i=some b->hp.m.get i=some b/\i<hp.nx
variable {F:Ac}
def SD.empty {hp:Hp}(hF:FH F hp)(fv:Nat):SD P U (fun _=>none) F ⟨[],0,[],fv,[]⟩ hp:=
 ⟨fun b x h=>by simp[SS.get,lk]at h,fun b c x y i o j q h=>by simp[SS.get,lk]at h,fun i b h=>(hF i b h).1,fun b i o h=>(by cases h),fun i b h=>(hF i b h).2,fun _ _=>rfl,fun c t h=>by simp at h,fun r h=>by simp at h⟩
def g8.use {c:Con}(J:g8 P U ov c g)(h1:c.blks=[])(h2:c.post=[])(h3:I9 c.inL=0)(h4:I9 c.outL=0){es:Av}(p:es.length=(j5 c.inL).length)(r:c.pre (j6 U (j5 c.inL) es)){hp:Hp}{xs:Af}(hF:FH F hp)(hx:VDL P U (fun _=>none) F (kq c (E2 U (j5 c.inL) 0 es)) xs):∃v F' hp' a,A4 P ov g xs hp v hp'/\l9 hp hp'/\Fle F F'/\FH F' hp'/\(∀i b,F' i=some b->F i=some b\/hp.nx<=i)/\(∀j,j<hp.nx->hp'.m.get j=hp.m.get j)/\a.length=(j5 c.outL).length/\c.rel (j6 U (j5 c.inL) es) (j6 U (j5 c.outL) a)/\VD P U (fun _=>none) F' (uy c.res (wQ c.res (AO idN c.outL (E2 U (j5 c.outL) 0 a) 0))) v:=by
 have e0:gst c (E2 U (j5 c.inL) 0 es) (j5 c.inL).length=⟨[],0,[],(j5 c.inL).length,[]⟩:=by unfold gst;rw[h1,te h3,h3];rfl
 have hs:SD P U (fun _=>none) F (gst c (E2 U (j5 c.inL) 0 es) (j5 c.inL).length) hp:=by rw[e0];exact SD.empty hF _
 obtain⟨v,τ',F',s',hp',vs,H,z,a,nw,d,L,w,G,R,V,T,C,y,W,M,N,O,A,u,B⟩:=J es p r _ F hp xs hs hx;rw[e0]at w;have hn:O8 0 c.blks.length++nw=[]:=by rw[h1,h2]at u;rw[h1];exact List.length_eq_zero_iff.1 (by simpa [O8]using u)
 have ha:d=[]:=List.length_eq_zero_iff.1 (by rw[A];exact h4);rw[hn]at C y;rw[h2]at C;have hf:z=[]:=C;subst hf;subst ha;have n:∀b x,(⟨[],0,[],(j5 c.inL).length,[]⟩:SS).get b=some x->False:=fun b x h=>by simp[SS.get,lk]at h
 obtain⟨l,a1,a2,a3,a4,_⟩:=w.hh;have hk:∀j,j<hp.nx->hp'.m.get j=hp.m.get j:=fun j hj=>a2 j hj fun b x o h _ _=>n b x h;refine⟨v,F',hp',a,L,w.keeps (SD.empty (P:=P) (U:=U) hF _),w.f,fun i b h=>⟨G.frz i b h,G.flt i b h⟩,fun i b h=>?_,hk,y.len,B,?_⟩
 ·by_cases hlt:i<hp.nx
  ·rcases a4 i b hlt h with q| ⟨b0,o,q1,q2⟩
   ·exact .inl q
   ·rcases a3 b0 i o (LF _) q1 with q| ⟨b1,x,o0,K,_⟩
    ·omega
    ·exact(n b1 x K).elim
  ·exact .inr (Lp hlt)
 ·have D:=fw.vals (τ2:=fun _=>none) (num:=idN) (nb:=0) y (J8 (j5 c.outL) 0 a y.len) (fun i b h=>by simp at h) (fun k b h=>by simp at h) R;rw[Lz]at D;have:=T _ F' _ [] D;rwa[Lz]at this
end
end Go.Sx
end PartSm447
