/- The symbolic engine: Delete and Insert, parts 41, 42, 43, 45, 46, 47.
  Conditions: none. -/
import Derived.Test.YtcjhhnoaoldcmaaXm4
set_option linter.unusedSimpArgs false
set_option linter.unusedVariables false
noncomputable section PartSm441
namespace Go.Sx
open Go.Xe
section
variable {P :Program}{U:Nat->List Dat->Dat}{τ:Tau}{F:Nat->Option Blk}{s:SS}{hp:Hp}
end
section
variable (P :Program)(U:Nat->List Dat->Dat)
end
section
variable {P :Program}{U:Nat->List Dat->Dat}{ov:FuncId->Option TypeId}
variable {τ :Tau}{F:Nat->Option Blk}{s:SS}{hp:Hp}
end
end Go.Sx
end PartSm441
noncomputable section PartSm442
namespace Go.Sx
open Go.Xe
section
variable {P :Program}{U:Nat->List Dat->Dat}{ov:FuncId->Option TypeId}{τ:Tau}{F:Nat->Option Blk}{s:SS}{hp:Hp}
end
end Go.Sx
end PartSm442
noncomputable section PartSm443
namespace Go.Sx
open Go.Xe
section
variable {P :Program}{U:Nat->List Dat->Dat}{ov:FuncId->Option TypeId}
abbrev R9:=List (FuncId×(List SV->M SV))
variable (P U ov) in
def aT8 :R9->Prop
 | []=>True
 |p::xs=>(z9 P U ov p.2 p.1/\isT (ov p.1)=false)/\aT8 xs
variable (P U) in
def B0 (l:List (FuncId×Con)):R9->FuncId->Option (List SV->M SV)
 | [],g=>conP P U l g
 |p::xs,g=>bif Nat.beq p.1 g then some p.2 else B0 l xs g
theorem aH9 {l:List (FuncId×Con)}(a:P2 P U ov l):∀ {xs:R9},aT8 P U ov xs-> ∀g k,B0 P U l xs g=some k->z9 P U ov k g
 | [],_,g,k,hk=>by
  unfold B0 conP at hk;cases h:ae9 P U l g with
  |none=>rw[h]at hk;cases hk
  |some k0=>
   rw[h]at hk;cases hk;exact bo7 (aM9 a g k0 h)
 |p::xs,hx,g,k,hk=>by
  unfold B0 at hk;cases hb:Nat.beq p.1 g with
  |true=>
   rw[hb,bB8,bA1]at hk;rw[<-hk,<-bA6 hb];exact hx.1.1
  |false=>rw[hb,bB9]at hk;exact aH9 a hx.2 g k hk
theorem am7 {l:List (FuncId×Con)}:∀ {xs:R9},aT8 P U ov xs-> ∀g,isT (ov g)=true->B0 P U l xs g=none->ae9 P U l g=none
 | [],_,g,_,hn=>by
  unfold B0 conP at hn;cases h:ae9 P U l g with
  |none=>rfl
  |some k0=>rw[h]at hn;cases hn
 |p::xs,hx,g,a,hn=>by
  unfold B0 at hn;cases hb:Nat.beq p.1 g with
  |true=>rw[hb,bB8]at hn;cases hn
  |false=>rw[hb,bB9]at hn;exact am7 hx.2 g a hn
variable {l:List (FuncId×Con)}{xs:R9}{g:FuncId}
theorem j0 (   a : FuncId → List (Nat × (Fm → SS → L3)))  ( f : P2 P U ov l)  (hx : aT8 P U ov xs) (n : Nat)  {c : Con} {V : Prop} (he : (cvc P U c (sxF P U    a (B0 P U l xs) n g)).vc U (fun _ => True) = V) ( h : V)
  (d:∀g,isT (ov g)=true->ae9 P U l g≠none:=by exact noT) (b:isT (ov g)=false:=by rfl):d6 P U ov c g:=
 aG0 (bz5 a (con:=B0 P U l xs) (aH9 f hx) (fun g b hn=>d g b (am7 hx g b hn)) n g b) (he.symm▸h)
theorem J9 (   a : FuncId → List (Nat × (Fm → SS → L3)))  ( f : P2 P U ov l)  (hx : aT8 P U ov xs) (m : Nat)  {c : Con} (mu : List Dat → Nat) {V : Nat → Prop}
  (he:∀n,(cvc P U (c.below mu (n+1)) (sxF P U a (B0 P U ((g,c.below mu n)::l) xs) m g)).vc U (fun _=>True)=V n) (i:∀n,V n)
  (d:∀n,∀b,isT (ov b)=true->ae9 P U ((g,c.below mu n)::l) b≠none) (h:isT (ov g)=false:=by rfl):d6 P U ov c g:=
 aW9 fun n hn=>j0 a (l:=(g,c.below mu n)::l) ⟨hn,f⟩ hx m (he n) (i n) (d n) h
end
end Go.Sx
end PartSm443
set_option linter.unusedVariables false
noncomputable section PartSm445
namespace Go.Sx
open Go.Xe
mutual
def bg4 (n:Nat):SV->Bool
 | .any=>true
 | .int _ _=>true
 | .bool _=>true
 | .str _=>true
 | .nilp=>true
 | .nils=>true
 | .sl _ _ _ _ _=>true
 | .agg l=>noFvs n l
 | .tup l=>noFvs n l
 |_=>false
def noFvs (n:Nat):List SV->Bool
 | []=>true
 |a::l=>bg4 n a&&noFvs n l
end
theorem an4 {n:Nat}:∀ {l:List SV},noFvs n l=true-> ∀ {i:Nat} {a:SV},l[i]? =some a->bg4 n a=true
 | [],_,i,a,h=>by simp at h
 |b::l,h,0,a,d=>by
  unfold noFvs at h;rw[bA2]at h;simp only[bB7,bA1]at d;rw[<-d];exact h.1
 |b::l,h,i+1,a,d=>by
  unfold noFvs at h;rw[bA2]at h;exact an4 h.2 (by simpa using d)
section
variable {P :Program}{U:Nat->List Dat->Dat}{ov:FuncId->Option TypeId}
theorem VD.noF {n:Nat}{τ:Tau}{F F':Nat->Option Blk}{a:SV}{v:Value}(h:VD P U τ F a v)(hn:bg4 n a=true):VD P U τ F' a v:=by
 induction h with
 |any v=>exact .any v
 |int k e=>exact .int k e
 |bool e=>exact .bool e
 |str e=>exact .str e
 |nilp=>exact .nilp
 |nils=>exact .nils
 |sl b z off len cap i o c k h0 h1 hc=>exact .sl b z off len cap i o c k h0 h1 hc
 |sl0 b z off len cap k h0 h1 hc=>exact .sl0 b z off len cap k h0 h1 hc
 |agg l xs h1 _ f=>exact .agg l xs h1 fun i a x d hx=>f i a x d hx (an4 (by unfold bg4 at hn;exact hn) d)
 |tup l xs h1 _ f=>exact .tup l xs h1 fun i a x d hx=>f i a x d hx (an4 (by unfold bg4 at hn;exact hn) d)
 |_=>simp[bg4]at hn
end
end Go.Sx
end PartSm445
noncomputable section PartSm446
namespace Go.Sx
open Go.Xe
section
variable {P :Program}{ov:FuncId->Option TypeId}{nt:Nat}
structure m9 (hp hp':Hp):Prop where
 nx:hp.nx<=hp'.nx
 dfr:∀r,r<hp.nx->hp.m.get r=some .dfr->hp'.m.get r=some .dfr
theorem m9.refl (hp:Hp):m9 hp hp:=⟨bC4 _,fun _ _ h=>h⟩
theorem m9.trans {a b c:Hp}(h:m9 a b)(k:m9 b c):m9 a c:=⟨bF8 h.nx k.nx,fun r hr h0=>k.dfr r (bF3 hr h.nx) (h.dfr r hr h0)⟩
theorem Ext.keeps {U:Nat->List Dat->Dat}{τ τ':Tau}{F F':Nat->Option Blk}{s s':SS}{hp hp':Hp}(h:Ext τ F s hp τ' F' s' hp')(hs:SD P U τ F s hp):m9 hp hp':=
 ⟨h.nx,fun r hr h0=>h.dfr hs hr h0 (.inl rfl)⟩
variable (P ov nt) in
structure XK (c:Code)(tm:T Value)(hp:Hp)(e:Exit)(tm':T Value)(hp':Hp):Prop where
 run:XC P ov none nt c tm hp e tm' hp'
 kp:m9 hp hp'
variable {c c1 c2:Code}{tm tm1 tm':T Value}{hp hp1 hp':Hp}{e:Exit}
theorem XK.seq (h:XK P ov nt c1 tm hp .normal tm1 hp1)(k:XK P ov nt c2 tm1 hp1 e tm' hp'):XK P ov nt (.seq c1 c2) tm hp e tm' hp':=
 ⟨h.run.comp k.run h.kp.nx k.kp.nx k.kp.dfr fun n m ds d f a b=>by simp only[d7,a,b],h.kp.trans k.kp⟩
theorem XK.seqX (h:XK P ov nt c1 tm hp e tm' hp')(he:e≠ .normal):XK P ov nt (.seq c1 c2) tm hp e tm' hp':=
 ⟨h.run.map fun n m ds b a=>by simp only[d7,a];cases e<;>first|rfl|exact absurd rfl he,h.kp⟩
theorem XK.condT {o:Operand}(hc:a8 tm o=some (.bool true))(h:XK P ov nt c1 tm hp e tm' hp'):XK P ov nt (.cond o c1 c2) tm hp e tm' hp':=
 ⟨h.run.map fun n m ds b a=>by simp only[d7,hc,a],h.kp⟩
theorem XK.condF {o:Operand}(hc:a8 tm o=some (.bool false))(h:XK P ov nt c2 tm hp e tm' hp'):XK P ov nt (.cond o c1 c2) tm hp e tm' hp':=
 ⟨h.run.map fun n m ds b a=>by simp only[d7,hc,a],h.kp⟩
theorem XK.skip :XK P ov nt .skip tm hp .normal tm hp:=⟨.of0 ⟨0,fun n m ds _ _=>rfl⟩,.refl _⟩
theorem XK.ret :XK P ov nt .ret tm hp .ret tm hp:=⟨.of0 ⟨0,fun n m ds _ _=>rfl⟩,.refl _⟩
variable {id:Nat}
theorem XK.exit :XK P ov nt (.exit id) tm hp (.exit id) tm hp:=⟨.of0 ⟨0,fun n m ds _ _=>rfl⟩,.refl _⟩
theorem XK.block (h:XK P ov nt c tm hp .normal tm' hp'):XK P ov nt (.block id c) tm hp .normal tm' hp':=
 ⟨h.run.map fun n m ds b a=>by simp only[d7,a],h.kp⟩
theorem XK.blockX (h:XK P ov nt c tm hp (.exit id) tm' hp'):XK P ov nt (.block id c) tm hp .normal tm' hp':=
 ⟨h.run.map fun n m ds b a=>by simp only[d7,a,l8 (rfl:id=id),bB8],h.kp⟩
theorem XK.loopN (h:XK P ov nt c tm hp .normal tm1 hp1)(k:XK P ov nt (.loop c) tm1 hp1 e tm' hp'):XK P ov nt (.loop c) tm hp e tm' hp':=
 ⟨h.run.comp k.run h.kp.nx k.kp.nx k.kp.dfr fun n m ds d f a b=>by simp only[d7,a,b],h.kp.trans k.kp⟩
theorem XK.loopX (h:XK P ov nt c tm hp e tm' hp')(he:e≠ .normal):XK P ov nt (.loop c) tm hp e tm' hp':=
 ⟨h.run.map fun n m ds b a=>by simp only[d7,a];cases e<;>first|rfl|exact absurd rfl he,h.kp⟩
variable {ops:Array Oper}
theorem XK.region (h:XOps P ov nt ops.toList ops.toList tm hp tm' hp')(k:m9 hp hp'):XK P ov nt (.region id ops false) tm hp .normal tm' hp':=by
 obtain⟨n0,h⟩:=h;exact⟨.of0 ⟨n0,fun n m ds hn _=>by simp only[d7,bB9,h n hn]⟩,k⟩
theorem XK.draw (h:EV fun n=>i8 P (exec P ov n) nt ops.toList tm hp=some (tm',hp'))(k:m9 hp hp'):XK P ov nt (.region id ops true) tm hp .normal tm' hp':=by
 obtain⟨n0,h⟩:=h;exact⟨.of0 ⟨n0,fun n m ds hn _=>by simp only[d7,bB8,h n hn]⟩,k⟩
variable (P ov nt) in
def YO (all l:List Oper)(tm:T Value)(hp:Hp)(Q:T Value->Hp->Prop):Prop:=∃tm1 hp1,XOps P ov nt all l tm hp tm1 hp1/\Q tm1 hp1
variable (P ov nt) in
def YN (c:Code)(tm:T Value)(hp:Hp)(Q:T Value->Hp->Prop):Prop:=∃tm1 hp1,XK P ov nt c tm hp .normal tm1 hp1/\Q tm1 hp1
variable {Q :T Value->Hp->Prop}{all rest:List Oper}{o:Oper}{v:Value}{t:Tmp}
theorem YO.nil (h:Q tm hp):YO P ov nt all [] tm hp Q:=⟨_,_,.of fun _=>ac1,h⟩
theorem YO.cons (h1:l5 nt o.dst=true)(h2:o.guard=none)(h:XOp P ov o.op tm hp v hp1)(k:YO P ov nt all rest (j2 tm o.dst v) hp1 Q):YO P ov nt all (o::rest) tm hp Q:=by
 obtain⟨t1,d,k1,k2⟩:=k;refine⟨t1,d,(h.and k1).mono fun n ⟨a,b⟩=>?_,k2⟩
 rw[H1,h1,bB8,a];simp only[f8,h2,bB8];exact b
theorem YO.op (h1:l5 nt o.dst=true)(h2:o.guard=none)(h:∀call,xop P call tm hp o.op=some (v,hp1))(k:YO P ov nt all rest (j2 tm o.dst v) hp1 Q):YO P ov nt all (o::rest) tm hp Q:= .cons h1 h2 (.of fun _=>h _) k
theorem YO.mv (h1:l5 nt o.dst=true)(h2:o.guard=none)(h:o.op= .move (.tmp t))(a:tm.get t=some v)(k:YO P ov nt all rest (j2 tm o.dst v) hp Q):YO P ov nt all (o::rest) tm hp Q:=
 .op h1 h2 (fun _=>by rw[h];simp only[a9,d9,a8,d8,a,bE3]) k
theorem YN.region (h:YO P ov nt ops.toList ops.toList tm hp fun t1 h1=>m9 hp h1/\Q t1 h1):YN P ov nt (.region id ops false) tm hp Q:=by
 obtain⟨t1,h1,k1,k2,k3⟩:=h;exact⟨t1,h1,.region k1 k2,k3⟩
theorem YN.seq (h:YN P ov nt c1 tm hp fun t1 h1=>YN P ov nt c2 t1 h1 Q):YN P ov nt (.seq c1 c2) tm hp Q:=by
 obtain⟨t1,h1,k1,t2,h2,k2,k3⟩:=h;exact⟨t2,h2,k1.seq k2,k3⟩
theorem YN.skip (h:Q tm hp):YN P ov nt .skip tm hp Q:=⟨_,_,.skip,h⟩
theorem YN.condT {o:Operand}(hc:a8 tm o=some (.bool true))(h:YN P ov nt c1 tm hp Q):YN P ov nt (.cond o c1 c2) tm hp Q:=by obtain⟨t1,h1,k1,k2⟩:=h;exact⟨t1,h1,k1.condT hc,k2⟩
theorem YN.condF {o:Operand}(hc:a8 tm o=some (.bool false))(h:YN P ov nt c2 tm hp Q):YN P ov nt (.cond o c1 c2) tm hp Q:=by obtain⟨t1,h1,k1,k2⟩:=h;exact⟨t1,h1,k1.condF hc,k2⟩
theorem YN.block (h:YN P ov nt c tm hp Q):YN P ov nt (.block id c) tm hp Q:=by obtain⟨t1,h1,k1,k2⟩:=h;exact⟨t1,h1,k1.block,k2⟩
theorem YN.mono {a:T Value->Hp->Prop}(h:YN P ov nt c tm hp Q)(k:∀t1 h1,m9 hp h1->Q t1 h1->a t1 h1):YN P ov nt c tm hp a:=by obtain⟨t1,h1,k1,k2⟩:=h;exact⟨t1,h1,k1,k _ _ k1.kp k2⟩
variable (P ov nt) in
def YG (all:List Oper)(nx0:Nat)(l:List (Oper×Nat))(i:Nat)(tm:T Value)(S:Hp)(I:Nat)(es:List Ent)(Q:Out->Prop):Prop:=∃out,(EV fun n=>xgo P (exec P ov n) nt all nx0 l i tm S I es=some out)/\Q out
variable {nx0 pre ix I:Nat}{restG:List (Oper×Nat)}{S S2:Hp}{es:List Ent}{QO:Out->Prop}
theorem YG.nil (h:QO ⟨tm,S,I,es⟩):YG P ov nt all nx0 [] ix tm S I es QO:=⟨_,.of fun _=>rfl,h⟩
theorem YG.k0 (h1:l5 nt o.dst=true)(h2:o.guard=none)(h3:c6 o.op=0)(h:∀call,xop P call tm S o.op=some (v,S))(k:YG P ov nt all nx0 restG (ix+1) (j2 tm o.dst v) S I (⟨ix,o,pre,tm,S,S,I,true,v,none⟩::es) QO):YG P ov nt all nx0 ((o,pre)::restG) ix tm S I es QO:=by
 obtain⟨b,k1,k2⟩:=k;refine⟨b,k1.mono fun n a=>?_,k2⟩
 unfold xgo;rw[h1,bB8];simp only[f8,h2,bB8,h3,h (exec P ov n)]
 grind
theorem YG.k1 (h1:l5 nt o.dst=true)(h2:o.guard=none)(h3:c6 o.op=1)(h:∀call,xop P call tm S o.op=some (v,S))(k:YG P ov nt all nx0 restG (ix+1) (j2 tm o.dst v) S I (⟨ix,o,pre,tm,S,S,I,true,v,none⟩::es) QO):YG P ov nt all nx0 ((o,pre)::restG) ix tm S I es QO:=by
 obtain⟨b,k1,k2⟩:=k;refine⟨b,k1.mono fun n a=>?_,k2⟩
 unfold xgo;rw[h1,bB8];have:xrd P tm S o.op=some v:=by
  unfold xrd
  simp_all
 simp only[f8,h2,bB8,h3,this]
 grind
theorem YG.k3 (h1:l5 nt o.dst=true)(h2:o.guard=none)(h3:c6 o.op=3)(ht:takes nx0 (ae3 pre I) es S=S)(h:XOp P ov o.op tm S v S2)(k:YG P ov nt all nx0 restG (ix+1) (j2 tm o.dst v) S2 (I|||pre) (⟨ix,o,pre,tm,S,S2,I,true,v,none⟩::es) QO):YG P ov nt all nx0 ((o,pre)::restG) ix tm S I es QO:=by
 obtain⟨d,k1,k2⟩:=k;refine⟨d,(h.and k1).mono fun n ⟨a,b⟩=>?_,k2⟩
 unfold xgo;rw[h1,bB8];simp only[f8,h2,bB8,h3,ht,a];exact b
theorem YG.mv (h1:l5 nt o.dst=true)(h2:o.guard=none)(h3:o.op= .move (.tmp t))(a:tm.get t=some v)(k:YG P ov nt all nx0 restG (ix+1) (j2 tm o.dst v) S I (⟨ix,o,pre,tm,S,S,I,true,v,none⟩::es) QO):YG P ov nt all nx0 ((o,pre)::restG) ix tm S I es QO:=
 .k0 h1 h2 (by rw[h3];rfl) (fun _=>by rw[h3];simp only[a9,d9,a8,d8,a,bE3]) k
theorem YN.drawG   (  d : stat ops.toList (p9 ops.toList []) = true)
  (h:YG P ov nt ops.toList hp.nx (ops.toList.zip (p9 ops.toList [])) 0 tm ⟨hp.m,hp.nx+ops.toList.length⟩ 0 [] fun b=>dyn P ⟨hp.m,hp.nx+ops.toList.length⟩ b.es=true/\takes hp.nx (ab0 b.I) b.es b.S=b.S/\m9 hp b.S/\Q b.tm b.S):YN P ov nt (.region id ops true) tm hp Q:=by
 obtain⟨b,h1,h2,h3,h4,h5⟩:=h;refine⟨b.tm,b.S,.draw (h1.mono fun n a=>?_) h4,h5⟩
 have:F8 P (exec P ov n) nt ops.toList tm hp=some (b.tm,b.S):=by
  unfold F8;rw[d,bB8,a];simp only[h2,bB8,h3]
 unfold i8;rw[this]
end
end Go.Sx
end PartSm446
noncomputable section PartSm447
namespace Go.Sx
open Go.Xe
def f5 (P:Program)(g:FuncId):Code:=match P.funcs[g]? with
 |some fn=>fn.body.getD .skip
 |none=>.skip
def cdA :Code->Code
 | .seq a _=>a
 | .cond _ a _=>a
 | .block _ c=>c
 | .loop c=>c
 |c=>c
def cdB :Code->Code
 | .seq _ b=>b
 | .cond _ _ b=>b
 |c=>c
def winB (args:List SV)(s0 s1:SS):Bool:=match args with
 | .ptr b _ _ _::_=>match s0.get b with
  |some (.cells c e z)=>(s1.h.take (s1.h.length-s0.h.length)).all fun p=>bif Nat.beq p.1 b then(match p.2 with
   |some (.cells c' e' z')=>Nat.beq c'.length c.length&&Nat.beq e' e&&Nat.beq z' z
   |_=>false)else true
  |_=>false
 |_=>false
def sxP (P:Program)(U:Nat->List Dat->Dat)(anns:FuncId->List (Nat×(Fm->SS->L3)))(con:FuncId->Option (List SV->M SV))(n:Nat)(g:FuncId)(nt:Nat)(C:Code)(temps outs:List Nat):List SV->M SV:=fun args=>fun s0=>
 a7 (C3 P U (sx P U anns con n) (aQ7 P U (sx P U anns con n) nt) (slp P U (anns g)) g true nt n C (temps.zip args)) (fun r=>match r.1 with
 | .normal=>i7 fun s1=>bif winB args s0 s1 then b9 (az4 (outs.map fun k=>match lk r.2 k with|some a=>a|none=>.any))else a6 "piece: window"
 |_=>a6 "piece") s0
section
variable {P :Program}{U:Nat->List Dat->Dat}{ov:FuncId->Option TypeId}
def PmT (temps:List Nat)(tm:T Value)(args:List Value):Prop:=∀(i k:Nat) x,temps[i]? =some k->args[i]? =some x->tm.get k=some x
def PcW (w:Nat)(args:List Value)(hp hp':Hp):Prop:=∀i o cs n e z,args.head? =some (.pointer (some ⟨i,o,none⟩))->hp.m.get i=some (.cells cs n e z)-> ∃cs',hp'.m.get i=some (.cells cs' n e z)/\ ∀j,j<o\/o+w<=j->cs'.get j=cs.get j
variable (P ov) in
def PcX (nt:Nat)(C:Code)(outs:List Nat)(w:Nat)(tm:T Value)(args:List Value)(hp:Hp)(v:Value)(hp':Hp):Prop:=
 (∃tm',XK P ov nt C tm hp .normal tm' hp'/\v=U4 (outs.map fun k=>(tm'.get k).getD undef))/\PcW w args hp hp'
theorem bm5 {α:Type}:∀ {ks:List Nat} {l:List α} {k:Nat} {a:α},lk (ks.zip l) k=some a-> ∃i:Nat,ks[i]? =some k/\l[i]? =some a
 | [],l,k,a,h=>by simp[lk]at h
 |x::ks,[],k,a,h=>by simp[lk]at h
 |x::ks,b::l,k,a,h=>by
  rw[List.zip_cons_cons,j4]at h
  by_cases e:x=k
  ·rw[bC3 e]at h;exact⟨0,by rw[<-e];rfl,h⟩
  ·rw[bC1 e]at h
   obtain⟨i,h1,h2⟩:=bm5 h;exact⟨i+1,h1,h2⟩
def Pfst (w:Nat)(l:List SV)(s:SS):Prop:=∃b z rest c e z',l= .ptr b z (.int 0) 0::rest/\s.get b=some (.cells c e z')/\c.length=w
theorem bz6 (   f : FuncId → List (Nat × (Fm → SS → L3))) {con : FuncId → Option (List SV → M SV)} (   u : ∀ g k, con g = some k → z9 P U ov k g) ( V : ∀ g, isT (ov g) = true → con g ≠ none) (n : Nat) (g : FuncId) (nt : Nat) (C : Code) (    d    m : List Nat) (w : Nat) (tm : T Value) :
  ∀l args τ F s hp,VDL P U τ F l args->PmT d tm args->SD P U τ F s hp->Pfst w l s->OKh P U (sxP P U f con n g nt C d m l) τ F s hp fun a τ' F' hp'=>∃v,PcX P ov nt C m w tm args hp v hp'/\VD P U τ' F' a v:=by
 intro l args τ F s hp hl J hs ⟨b,N,rest,c,e0,z1,G,hb,hc⟩;have j:=br4 f u V n;have ht:TD P U τ F (d.zip l) tm:=fun k a p=>by
  obtain⟨i,h1,h2⟩:=bm5 p;obtain⟨x,hx,W⟩:=VDL.get hl h2;rw[J i k x h1 hx];exact W
 intro Q hq _;unfold sxP at hq;rw[m8]at hq;obtain⟨r,s1,hq,τ1,F1,hp1,ex,hs1,tm1,K,O,_⟩:=aa9 j (ay8 j) (aX8 (f g)) g true (fun _=>rfl) n C (d.zip l) τ F s hp tm ht hs _ hq hs
 simp only at hq;cases hr:r.1 with
 |normal=>
  rw[hr]at hq K;simp only[i7]at hq;cases q:winB l s s1 with
  |false=>rw[q]at hq;exact hq.elim
  |true=>
   rw[q]at hq;refine⟨_,s1,hq,τ1,F1,hp1,ex,hs1,_,⟨⟨tm1,⟨K,ex.keeps hs⟩,rfl⟩,fun i o cs n e z p D=>?_⟩,aR6 ⟨by simp,fun i a x p hx=>?_⟩⟩
   ·obtain⟨X,a1,a2⟩:=ex.win
    subst G;obtain⟨y,ys,rfl,v1,_⟩:=hl.uncons;cases p;cases v1 with
    |ptr _ _ _ _ i' o' h h0=>
     have R:o'+(E.int 0).toN U*N+0=o':=by show o'+0*N+0=o';omega
     rw[R]
     rcases hs.live b _ hb with⟨i2,o2,y,q1,q2,q3,Z⟩| ⟨q1,_⟩
     ·rw[h]at q1
      simp only[bA1,bA3]at q1;obtain⟨rfl,rfl⟩:=q1;obtain⟨B,Y,L,q6,q7⟩:=Z;rw[q2,L]at D;simp only[bA1,Blk.cells.injEq]at D;obtain⟨rfl,rfl,rfl,rfl⟩:=D;have:=a2 b c _ _ _ _ B Y hb h (hs.lt b _ _ h) (by rw[q2,L]) fun x hx=>?_
      ·rw[<-hc];exact this
      ·unfold winB at q
       simp only[hb]at q;have H:s1.h.take (s1.h.length-s.h.length)=X:=by
        rw[a1,bC8,Nat.add_sub_cancel,List.take_left'];rfl
       rw[H,bD1]at q;have h5:=q _ hx;simp only[l8 (rfl:b=b),bB8]at h5;cases x with
       |none=>cases h5
       |some x=>cases x with
        |cells c' e' z'=>
         simp only[bA2,bE1]at h5;obtain⟨⟨k1,rfl⟩,rfl⟩:=h5;exact⟨c',rfl,k1⟩
        |_=>cases h5
     ·rw[h]at q1;cases q1
   ·simp only[bF1,bI2]at p hx
    obtain⟨k,hk,rfl⟩:=p;obtain⟨k',A,rfl⟩:=hx;rw[hk]at A;cases A;cases hl:lk r.2 k with
    |none=>exact .any _
    |some a=>exact O k a hl
 |_=>rw[hr]at hq;exact hq.elim
variable {g:FuncId}{c:Con}
theorem aF6 (   d : FuncId → List (Nat × (Fm → SS → L3))) {l : List (FuncId × Con)} ( i : P2 P U ov l) {xs : R9} (hx : aT8 P U ov xs) (n : Nat)  {nt : Nat} {C : Code} {    a    b : List Nat}  {V : Prop}
  (he:(cvc P U c (sxP P U d (B0 P U l xs) n g nt C a b)).vc U (fun _=>True)=V) (j:V) (h:∀g,isT (ov g)=true->ae9 P U l g≠none:=by exact noT) (w:Nat) (k:∀(es:List E) fv,Pfst w (af0 c es) (gst c es fv)) (tm:T Value):M4 P U c (PmT a tm) (PcX P ov nt C b w tm):=
 aG1 (fun es τ F hp xs h1 h2 h3=>bz6 d (aH9 i hx) (fun g f hn=>h g f (am7 hx g f hn)) n g nt C a b w tm _ xs τ F _ hp h1 h2 h3 (k es _)) (he.symm▸j)
variable {hp:Hp}
theorem ad9  {fn : Func} {c : Code} {args : List Value} {tm' : T Value} {hp':Hp} {e : Exit} {vs : List Value} (  j : P.funcs[g]? = some fn) (hc : fn.body = some c) ( y : isT (ov g) = false)
  (h:XK P ov (args.length+(fn.ntmps-args.length)) c (fill .e 0 args) hp e tm' hp') (he:e= .normal\/e= .ret)
  (b:∀hp2:Hp,(∀i,hp'.m.get i≠some .dfr->hp2.m.get i=hp'.m.get i)->t9 P tm' hp2 fn.results.toList=some vs):
  ∃hp2,E4 P ov g args hp (U4 vs) hp2/\hp2.nx=hp'.nx/\(∀i,hp'.m.get i≠some .dfr->hp2.m.get i=hp'.m.get i)/\m9 hp hp2:=by
 obtain⟨⟨f,⟨p,d⟩,A,x⟩,kp⟩:=h;have same:∀n:Nat,C6 P (K5 P (i8 P) (exec P ov n) n) (f.map Df.mark++ []) hp'=C6 P (K5 P (i8 P) (exec P ov 0) 0) (f.map Df.mark++ []) hp':=fun n=>ah6 f hp'
 obtain⟨hp2,z,u,w⟩:=W8 (runD:=K5 P (i8 P) (exec P ov 0) 0) f hp' p fun r hr=>(d r hr).2.2
 have q:∀i,hp'.m.get i≠some .dfr->hp2.m.get i=hp'.m.get i:=fun i hi=>w i fun hm=>hi (d i hm).2.2
 refine⟨hp2,⟨A+1,fun n hn=>?_⟩,u,q,⟨by rw[u];exact kp.nx,fun r hr h0=>?_⟩⟩
 ·obtain⟨n,rfl⟩:∃k,n=k+1:=⟨n-1,by omega⟩
  have hx:=x n n [] (by omega) (by omega)
  show(bif isT (ov g)&&args.isEmpty then some (.bool true,hp)else ar8 (ab6 P (i8 P) (exec P ov n) (K5 P (i8 P) (exec P ov n) n) n g) args hp)=_
  rw[y,Bool.false_and,bB9];have a:=(same n).trans z;have hb:ab6 P (i8 P) (exec P ov n) (K5 P (i8 P) (exec P ov n) n) n g args hp=some (U4 vs,hp2):=by
   simp only[ab6,j,hc]
   rcases he with hr|hr
   ·rw[hr]at hx;simp only[hx,as9,a,b hp2 q]
   ·rw[hr]at hx;simp only[hx,as9,a,b hp2 q]
  simp only[ar8,hb]
 ·rw[w r fun hm=>by have:=(d r hm).1;omega]
  exact kp.dfr r hr h0
theorem av2 :∀ {ps:List Lf} {ds:List E} {nb:Nat},C2 ps=0->O3 ps ds nb=[]
 | [],_,_,_=>rfl
 |x::l,ds,nb,h=>by
  unfold C2 at h;unfold O3;rw[Lf.blk_none (by omega),av2 (by omega)]
def FH (F:Nat->Option Blk)(hp:Hp):Prop:=∀i b,F i=some b->hp.m.get i=some b/\i<hp.nx
variable {F:Nat->Option Blk}
theorem SD.empty (hF:FH F hp)(fv:Nat):SD P U (fun _=>none) F ⟨[],0,[],fv,[]⟩ hp:=
 ⟨fun b x h=>by simp[SS.get,lk]at h,fun b c x y i o j q h=>by simp[SS.get,lk]at h,fun i b h=>(hF i b h).1,fun b i o h=>(by cases h),fun i b h=>(hF i b h).2,fun _ _=>rfl,fun c t h=>by simp at h,fun r h=>by simp at h⟩
variable {xs:List Value}
theorem d6.use   ( L : d6 P U ov c g) (h1 : c.blks = []) (h2 : c.post = []) (h3 : C2 c.inL = 0) (h4 : C2 c.outL = 0) {es : List E} (   p : es.length = (g8 c.inL).length) (   r : c.pre (i6 U (g8 c.inL) es))
     (hF:FH F hp) (hx:VDL P U (fun _=>none) F (af0 c (s8 U (g8 c.inL) 0 es)) xs):
  ∃v F' hp' a,E4 P ov g xs hp v hp'/\m9 hp hp'/\Fle F F'/\FH F' hp'/\(∀i b,F' i=some b->F i=some b\/hp.nx<=i)/\(∀j,j<hp.nx->hp'.m.get j=hp.m.get j)/\
   a.length=(g8 c.outL).length/\c.rel (i6 U (g8 c.inL) es) (i6 U (g8 c.outL) a)/\VD P U (fun _=>none) F' (aP4 c.res (aV8 c.res (be7 idN c.outL (s8 U (g8 c.outL) 0 a) 0))) v:=by
 have e0:gst c (s8 U (g8 c.inL) 0 es) (g8 c.inL).length=⟨[],0,[],(g8 c.inL).length,[]⟩:=by
  unfold gst;rw[h1,av2 h3,h3];rfl
 have hs:SD P U (fun _=>none) F (gst c (s8 U (g8 c.inL) 0 es) (g8 c.inL).length) hp:=by rw[e0];exact SD.empty hF _
 obtain⟨v,τ',F',s',hp',vs,J,z,a,nw,d,N,w,G,V,X,W,C,y,Y,O,R,T,A,u,B⟩:=L es p r _ F hp xs hs hx;rw[e0]at w;have hn:j8 0 c.blks.length++nw=[]:=by
  rw[h1,h2]at u;rw[h1];exact List.length_eq_zero_iff.1 (by simpa [j8]using u)
 have K:d=[]:=List.length_eq_zero_iff.1 (by rw[A];exact h4)
 rw[hn]at C y;rw[h2]at C;have hf:z=[]:=C;subst hf;subst K;have n:∀b x,(⟨[],0,[],(g8 c.inL).length,[]⟩:SS).get b=some x->False:=fun b x h=>by simp[SS.get,lk]at h
 obtain⟨l,a1,a2,a3,a4,_⟩:=w.hh;have hk:∀j,j<hp.nx->hp'.m.get j=hp.m.get j:=fun j hj=>a2 j hj fun b x o h _ _=>n b x h
 refine⟨v,F',hp',a,N,w.keeps (SD.empty (P:=P) (U:=U) hF _),w.f,fun i b h=>⟨G.frz i b h,G.flt i b h⟩,fun i b h=>?_,hk,y.len,B,?_⟩
 ·by_cases hlt:i<hp.nx
  ·rcases a4 i b hlt h with q| ⟨b0,o,q1,q2⟩
   ·exact .inl q
   ·rcases a3 b0 i o (bI9 _) q1 with q| ⟨H,x,o0,M,_⟩
    ·omega
    ·exact(n H x M).elim
  ·exact .inr (bH7 hlt)
 ·have D:=Y5.vals (τ2:=fun _=>none) (num:=idN) (nb:=0) y (q9 (g8 c.outL) 0 a y.len) (fun i b h=>by simp at h) (fun k b h=>by simp at h) V
  rw[bI5]at D;have:=W _ F' _ [] D
  rwa[bI5]at this
def OwnL (P:Program)(F:Nat->Option Blk)(e z:Nat)(n0:Nat)(hp:Hp)(L:Rows)(v:Value):Prop:=
 (L=[]/\v= .slice none 0 0)\/ ∃i o c cs n,v= .slice (some ⟨i,o,none⟩) L.length c/\n0<=i/\i<hp.nx/\F i=none/\hp.m.get i=some (.cells cs n e z)/\j7 P F e z o n cs L/\ap8 L.length c
theorem d6.useA   {e z : Nat} (hg : d6 P U ov c g) (h1 : c.blks = []) (h2 : c.post = []) (h3 : C2 c.inL = 0) (h4 : c.res = [.one (.g (.acc e z))]) {es : List E} (   A : es.length = (g8 c.inL).length) (   B : c.pre (i6 U (g8 c.inL) es))
     (hF:FH F hp) (hx:VDL P U (fun _=>none) F (af0 c (s8 U (g8 c.inL) 0 es)) xs):
  ∃v F' hp' L,E4 P ov g xs hp v hp'/\m9 hp hp'/\Fle F F'/\FH F' hp'/\(∀i b,F' i=some b->F i=some b\/hp.nx<=i)/\(∀j,j<hp.nx->hp'.m.get j=hp.m.get j)/\
   c.rel (i6 U (g8 c.inL) es) [.lst L]/\OwnL P F' e z hp.nx hp' L v:=by
 have e0:gst c (s8 U (g8 c.inL) 0 es) (g8 c.inL).length=⟨[],0,[],(g8 c.inL).length,[]⟩:=by
  unfold gst;rw[h1,av2 h3,h3];rfl
 have hs:SD P U (fun _=>none) F (gst c (s8 U (g8 c.inL) 0 es) (g8 c.inL).length) hp:=by rw[e0];exact SD.empty hF _
 obtain⟨v,τ',F',s',hp',vs,ak,W,ai,nw,ae,r1,M,N,r4,r5,r6,r7,O,r9,ao,ap,aq,ar,J,k⟩:=hg es A B _ F hp xs hs hx;rw[e0]at M;have hn:j8 0 c.blks.length++nw=[]:=by
  rw[h1,h2]at J;rw[h1];exact List.length_eq_zero_iff.1 (by simpa [j8]using J)
 rw[hn]at r7 O;rw[h2]at r7;have hf:W=[]:=r7;subst hf;have ho:c.outL=[.g (.acc e z)]:=by unfold Con.outL;rw[h2,h4];rfl
 have u:∀b x,(⟨[],0,[],(g8 c.inL).length,[]⟩:SS).get b=some x->False:=fun b x h=>by simp[SS.get,lk]at h
 obtain⟨l,a1,a2,a3,a4,_⟩:=M.hh;have hk:∀j,j<hp.nx->hp'.m.get j=hp.m.get j:=fun j hj=>a2 j hj fun b x o h _ _=>u b x h
 have fresh:∀b i o,τ' b=some (some (i,o))->hp.nx<=i:=fun b i o h=>by
  rcases a3 b i o (bI9 _) h with q| ⟨b1,x,o0,q3,_⟩
  ·exact q
  ·exact(u b1 x q3).elim
 rw[ho]at O k;cases vs with
 |nil=>exact O.elim
 |cons v0 K=>
 obtain⟨r,aj,ah,rfl,rfl,hL,hR⟩:=O;have H:K=[]:=by
  cases K with
  |nil=>rfl
  |cons _ _=>exact hR.elim
 subst H;obtain⟨rfl,rfl⟩:=hR;obtain⟨so,ab,b,L,x',hb,C,aa,Z⟩:=hL.2.2.2.2 (by show(1:Nat)≠0;omega)
 cases ab;have G:=hL.2.2.2.1;rw[bI5]at r4;obtain⟨v1,V,rfl,ac,ad⟩:=r4.uncons;have w:V=[]:=bA7 ad.1.symm;subst w
 let d:E:= .dat 0 (.lst (L.toR U))
 have hd:af2 U .l L d:=rfl;obtain⟨X,hX,Y,_⟩:=Z d hd;cases hX;have D:i6 U (g8 [Lf.g (.acc e z)]) (G7 r.1 [])=[.lst (L.toR U)]:=by
  rw[C];rfl
 rw[D]at k;have hv:∀p,τ' b=some p->VD P U (fun _=>some p) F' (.sl 0 z (.int 0) (i9 d) .un) v:=fun p hp0=>by
  have h5:VD P U (fun _=>some p) F' (.sl 0 z (.int 0) (i9 d) .un) v1:=G v1 ac (fun _=>some p) idN 0 d (fun i b h=>by simp at h) (fun e0 so he hs=>by rw[C]at he;cases he;cases hs;exact hd) (fun b0 h=>by rw[hb]at h;cases h;exact hp0.symm)
  have h6:=r6 (fun _=>some p) F' [.sl 0 z (.int 0) (i9 d) .un] [] ⟨rfl,fun i a x ha hx=>by cases i with
   |zero=>cases ha;cases hx;exact h5
   |succ i=>simp at ha⟩
  rw[h4]at h6;exact h6
 refine⟨v,F',hp',L.toR U,r1,M.keeps (SD.empty (P:=P) (U:=U) hF _),M.f,fun i b h=>⟨N.frz i b h,N.flt i b h⟩,fun i b h=>?_,hk,k,?_⟩
 ·by_cases hlt:i<hp.nx
  ·rcases a4 i b hlt h with q| ⟨b0,o,q1,q2⟩
   ·exact .inl q
   ·have:=fresh b0 i o q1;omega
  ·exact .inr (bH7 hlt)
 ·rcases N.live b x' aa with⟨i,o,y,q1,q2,q3,q4⟩| ⟨q1,q2⟩
  ·have hy:=Y τ' o y q4
   obtain⟨cs,n,rfl,k1,_⟩:=hy;have h5:=hv _ q1;cases h5 with
   |sl _ _ _ _ _ i' o' c h h0 h1 hc=>
    cases h;have e1:(i9 d).toN U=(L.toR U).length:=by
     show((i9 d).toI U).toNat=_;rw[c9];rfl
    have e2:i=i/\o+(E.int 0).toN U*z=o:=⟨rfl,by show o+0*z=o;omega⟩
    have e3:(i9 d).toI U=((L.toR U).length:Int):=by rw[c9];rfl
    refine .inr ⟨i,o,c,cs,n,by rw[e1,e2.2],fresh b i o q1,N.lt b i o q1,q3,q2,k1,?_⟩
    rcases hc with⟨R,T,d3⟩| ⟨lo,R,T,d3⟩
    ·exact .inl ⟨R,by rw[T,e1];exact bC4 _⟩
    ·exact .inr ⟨lo,R,T,by rw[e3]at d3;omega⟩
   |sl0 _ _ _ _ _ h h0 h1 hc=>cases h
  ·have h5:=hv _ q1
   obtain⟨L2,e2,z2,al,_,_⟩:=q2;cases h5 with
   |sl _ _ _ _ _ i' o' c h h0 h1 hc=>cases h
   |sl0 _ _ _ _ _ h h0 h1 hc=>
    have:(i9 d).toI U=((L.toR U).length:Int):=by rw[c9];rfl
    rw[this]at h1;exact .inl ⟨List.length_eq_zero_iff.1 (by omega),rfl⟩
end
end Go.Sx
end PartSm447
