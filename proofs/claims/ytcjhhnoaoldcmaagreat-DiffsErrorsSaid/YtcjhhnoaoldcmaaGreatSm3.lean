/- The symbolic engine, parts 23, 24, 25, 26, 27, 28, 29, 30, 31, 32, 33, 34, 35, 36, 37, 38, 39, 40.
  Conditions: none. -/
import Derived.Test.YtcjhhnoaoldcmaaGreatSm2
import Derived.Carry
import Derived.OpenShut
set_option linter.unusedSimpArgs false
set_option linter.unusedVariables false
namespace Go.Sx
open Go.Xe
def L5 :Nat->List (Nat×Option y4)->List Nat
 |0,_=>[]
 |_+1,[]=>[]
 |n+1,(k,_)::l=>k::L5 n l
theorem au7 (l h:List (Nat×Option y4)):L5 l.length (l++h)=l.map Prod.fst:=by
 induction l with
 |nil=>rfl
 |cons a l ih=>obtain⟨k,x⟩:=a;simp only[bM2,bO1,L5,bN0,ih]
theorem ax6 {α:Type}{b:Nat}:∀(l h:List (Nat×α)),b∉l.map Prod.fst->lk (l++h) b=lk h b
 | [],_,_=>rfl
 | (k,x)::l,h,hb=>by
  simp only[bN0,bL7,not_or]at hb;rw[bO1,t8,bJ9 (fun e=>hb.1 e.symm)]
  exact ax6 l h hb.2
def au6 :Nat->List (Nat×Option y4)->Bool
 |0,_=>false
 |_+1,[]=>false
 |n+1,(_,x)::l=>match x with
  |none=>true
  |some _=>au6 n l
theorem bm8 (l h:List (Nat×Option y4))(hf:au6 l.length (l++h)=false):∀p∈l,p.2≠none:=by
 induction l with
 |nil=>exact fun p hp=>by simp at hp
 |cons a l ih=>
  obtain⟨k,x⟩:=a;intro p hp;simp only[bM2,bO1,au6]at hf
  grind
def quiet {α:Type}(m:M α):M α:=fun s=>(m s).bind fun r=>bif Nat.beq r.2.h.length s.h.length&&Nat.beq r.2.nx s.nx then c8 r.1 r.2 else a7 "a region: an operation that should leave the memory alone" r.2
def bt9 {α:Type}(n:Nat)(m:M α):M (α×List Nat×Bool):=fun s=>(m s).bind fun r=>c8 (r.1,L5 (r.2.h.length-n) r.2.h,au6 (r.2.h.length-n) r.2.h) r.2
def mpend :M Nat:=fun s=>c8 s.nx (aW7 s)
def bv8 (pd:List Pd):M Unit:=fun s=>c8 () (ab5 s pd)
def liveR (r:Rd):M Unit:=match r with
 | .blk b=>m9 fun s=>match s.get b with
  |some _=>c8 ()
  |none=>a7 "a region: read"
 | .mlk _ b=>m9 fun s=>match s.get b with
  |some _=>c8 ()
  |none=>a7 "a region: read"
 |_=>c8 ()
def bk3 (P:Program)(vt:TypeId):Option E:=match ae7 P vt with
 |some [z]=>bif aw6 (I3 P vt)then aG6 (kd1 P vt) z else none
 |_=>none
def aj9 (P:Program)(s0:SS)(f:Fm):Op->Rd
 | .mapEntry t m k=>match j8 f m with
  |some (.map b)=>match s0.get b,P.underlying t with
   |some (.map _ kt' vt'),some (.map kt vt)=>bif bl7 P t f k&&Nat.beq kt kt'&&Nat.beq vt vt'&&(bk3 P vt).isSome then .mlk t b else .free
   |_,_=>.free
  |_=>.free
 |_=>.free
def bt4 (o:Oper):Bool:=Nat.beq (d6 o.op) 3
section
variable (P :Program)(U:Nat->List Dat->Dat)
def sgo (call : D9) (nt : Nat) (all : List Oper) : List (Oper × Nat) → Nat → Fm → List Pd → List En → M (Fm × List Pd)
 | [],_,f,pd,_=>c8 (f,pd)
 | (o, pre) :: rest, i, f, pd, es =>
  bif A4 nt o.dst && Nat.blt pre (2 ^ i) then
   a8 (ay3 U all f o) fun t=>
   bif t then
    bif Nat.beq (d6 o.op) 0 then a8 (quiet (sop P U call (P5 all f o t) o.op)) fun v=>sgo call nt all rest (i+1) (H5 (P5 all f o t) o.dst v) pd (⟨i,pre,false,false,.free,[],false⟩::es)
    else bif Nat.beq (d6 o.op) 1 then a8 (quiet (sop P U call (P5 all f o t) o.op)) fun v => a8 (liveR (aw7 P (P5 all f o t) o.op)) fun _ =>
      bif vok 1000 v&&es.all (Z0 pre (aw7 P (P5 all f o t) o.op))then sgo call nt all rest (i+1) (H5 (P5 all f o t) o.dst v) pd (⟨i,pre,false,true,aw7 P (P5 all f o t) o.op,[],false⟩::es)
      else a7 "a region: a read"
    else bif Nat.beq (d6 o.op) 2 then match snw P (P5 all f o t) o.op with
     |some (x,mk)=>a8 mpend fun b=>sgo call nt all rest (i+1) (H5 (P5 all f o t) o.dst (mk b)) (⟨b,i,x⟩::pd) (⟨i,pre,false,false,.free,[],false⟩::es)
     |none=>a7 "a region: a new block"
    else bif pd.all (fun p => pre.testBit p.i) then
      m9 fun s0=>a8 (bv8 pd) fun _=>a8 (bt9 s0.h.length (sop P U call (P5 all f o t) o.op)) fun r=>a8 (liveR (aj9 P s0 (P5 all f o t) o.op)) fun _=>
       bif es.all (ab4 pre r.2.1 (aj9 P s0 (P5 all f o t) o.op))then sgo call nt all rest (i+1) (H5 (P5 all f o t) o.dst r.1) [] (⟨i,pre,true,false,aj9 P s0 (P5 all f o t) o.op,r.2.1,r.2.2⟩::es)else a7 "a region: a write"
     else a7 "a region: blocks that wait"
   else bif bt4 o&& !(es.all (ab4 pre [] .free))then a7 "a region: not wanted" else
    sgo call nt all rest (i+1) (H5 (P5 all f o t) o.dst (.tup [])) pd (⟨i,pre,bt4 o,false,.free,[],false⟩::es)
  else a7 "a region: slot"
def ar4 (call:D9)(nt:Nat):ac6:=fun all f=>
 bif stat all (C0 all [])then a8 (sgo P U call nt all (all.zip (C0 all [])) 0 f [] []) fun r=>a8 (bv8 r.2) fun _=>c8 r.1
 else a7 "a region: order"
def bg9 (s:SS)(b:Nat):Bool:=(s.get b).isSome
def twoB (a a':Operand)(f:Fm):M Fm:=m9 fun s=>match j8 f a,j8 f a' with
 |some (.ptr b _ _ _),some (.ptr b' _ _ _)=>bif !(Nat.beq b b')&&bg9 s b&&bg9 s b' then c8 f else a7 "a region: two stores"
 |_,_=>a7 "a region: two stores"
def bi8 (call : D9) (nt : Nat) : ac6 := fun all f =>
 bif stat all (C0 all []) then ar4 P U call nt all f else match aq5 all with
  | some (x, y) => bif az1 0 all && Nat.blt x all.length && Nat.blt y all.length && !(Nat.beq x y) then
    match ar0 (c9 all.toArray x y .data).toList (moveLast (c9 all.toArray y x .data) x).toList x y with
    | some (a, a') => fun s => .both ((ar4 P U call nt (moveLast (c9 all.toArray y x .data) x).toList f s).bind fun _ => .done)
      (a8 (ar4 P U call nt (c9 all.toArray x y .data).toList f) (twoB a a') s)
    |none=>a7 "a region: order"
   else a7 "a region: order"
  |none=>a7 "a region: order"
end
section
variable {P :Program}{U:Nat->List Dat->Dat}{ov:FuncId->Option TypeId}{nt:Nat}
variable {call :d8}{all:List Oper}{nx0:Nat}{o:Oper}{pre:Nat}{rest:List (Oper×Nat)}{i:Nat}{tm:T Value}{S:Hp}{I:Nat}{es:List Ent}
theorem bH7 (hd:A4 nt o.dst=true)(hw:n8 all tm o=false):xgo P call nt all nx0 ((o,pre)::rest) i tm S I es=xgo P call nt all nx0 rest (i+1) (y8 tm o.dst undef) S I (⟨i,o,pre,tm,S,S,I,false,undef,none⟩::es):=by
 rw[xgo,hd,bJ6,hw,bJ7]
theorem xgo_0 (hd : A4 nt o.dst = true) (hw : n8 all tm o = true) (hk : d6 o.op = 0) {v : Value} {S' : Hp} (hx : xop P call tm S o.op = some (v, S')) :
  xgo P call nt all nx0 ((o,pre)::rest) i tm S I es=xgo P call nt all nx0 rest (i+1) (y8 tm o.dst v) S I (⟨i,o,pre,tm,S,S,I,true,v,none⟩::es):=by
 rw[xgo,hd,bJ6,hw,bJ6,hk]
 grind
theorem xgo_1 (hd : A4 nt o.dst = true) (hw : n8 all tm o = true) (hk : d6 o.op = 1) {v : Value} (hx : xrd P tm S o.op = some v) :
  xgo P call nt all nx0 ((o,pre)::rest) i tm S I es=xgo P call nt all nx0 rest (i+1) (y8 tm o.dst v) S I (⟨i,o,pre,tm,S,S,I,true,v,none⟩::es):=by
 rw[xgo,hd,bJ6,hw,bJ6,hk]
 grind
theorem xgo_2 (hd : A4 nt o.dst = true) (hw : n8 all tm o = true) (hk : d6 o.op = 2) {n : Nw} (hx : xnw P tm o.op = some n) :
  xgo P call nt all nx0 ((o,pre)::rest) i tm S I es=xgo P call nt all nx0 rest (i+1) (y8 tm o.dst (n.val (nx0+i))) S I (⟨i,o,pre,tm,S,S,I,true,n.val (nx0+i),some n⟩::es):=by
 rw[xgo,hd,bJ6,hw,bJ6,hk]
 grind
theorem xgo_3 (hd : A4 nt o.dst = true) (hw : n8 all tm o = true) (hk : d6 o.op = 3) {v : Value} {S' : Hp} (hx : xop P call tm (takes nx0 (aj5 pre I) es S) o.op = some (v, S')) :
  xgo P call nt all nx0 ((o,pre)::rest) i tm S I es=xgo P call nt all nx0 rest (i+1) (y8 tm o.dst v) S' (I|||pre) (⟨i,o,pre,tm,S,S',I,true,v,none⟩::es):=by
 rw[xgo,hd,bJ6,hw,bJ6,hk]
 grind
theorem y5 {α β:Type}{m:M α}{k:α->M β}{s:SS}{Q:β×SS->Prop}:(a8 m k s).vc U Q↔(m s).vc U fun r=>(k r.1 r.2).vc U Q:=by
 unfold a8;exact Tr.vc_bind _ _ _ _
theorem aU9 {α:Type}{m:M α}{s:SS}{Q:α×SS->Prop}(h:(quiet m s).vc U Q):(m s).vc U fun r=>Q r/\r.2.h.length=s.h.length/\r.2.nx=s.nx:=by
 unfold quiet at h;rw[Tr.vc_bind]at h;refine Tr.vc_mono _ _ (fun r hr=>?_) h
 cases hb:Nat.beq r.2.h.length s.h.length&&Nat.beq r.2.nx s.nx with
 |false=>rw[hb]at hr;exact hr.elim
 |true=>
  rw[hb]at hr;rw[bI0]at hb;exact⟨hr,bI4 hb.1,bI4 hb.2⟩
variable {τ :Tau}{F:Nat->Option Blk}{s:SS}
theorem Ext.quiet {τ':Tau}{F':Nat->Option Blk}{s':SS}{S':Hp}(ex:Ext τ F s S τ' F' s' S')(hs:SD P U τ F s S)(hs':SD P U τ' F' s' S')(hS:S'=S)(hh:s'.h.length=s.h.length)(hn:s'.nx=s.nx):τ'=τ/\F'=F/\s'.h=s.h:=by
 obtain⟨l,a1,_,_,a4,_⟩:=ex.hh;have hl:l=[]:=by
  cases l with
  |nil=>rfl
  |cons x l=>rw[a1]at hh;simp at hh;omega
 subst hl;refine⟨funext fun b=>?_,funext fun j=>?_,by simpa using a1⟩
 ·by_cases hb:b<s.nx
  ·exact ex.st b hb
  ·rw[hs.new b (by omega),hs'.new b (by omega)]
 ·cases hq:F' j with
  |none=>
   cases hq':F j with
   |none=>rfl
   |some y=>rw[ex.f j y hq']at hq;cases hq
  |some y=>
   rcases a4 j y (by rw[<-hS];exact hs'.flt j y hq) hq with h1| ⟨b,o,_,h1⟩
   ·rw[h1]
   ·simp at h1
theorem bB3 {vt:TypeId}{d:E}(h:bk3 P vt=some d):∃z,I3 P vt=some z/\aw6 (some z)=true/\PV P F (kd1 P vt) z (d.den U):=by
 unfold bk3 at h;split at h
 ·rename_i z hz
  obtain⟨zv,z1,z2⟩:=L9 (U:=U) (τ:=fun _=>none) (F:=F) hz
  obtain⟨zc,zs,hzc,z3,z4⟩:=z2.uncons;cases ho:aw6 (I3 P vt)with
  |false=>grind
  |true=>
   rw[ho,bJ6]at h;rw[z1]at ho;have hz1:zv=zc:=by
    have hc:zv.cells.toList=[zv]:=by
     unfold aw6 at ho;split at ho
     ·rename_i h;cases h;rfl
     ·rename_i h;cases h;rfl
     ·rename_i h;cases h;rfl
     ·cases ho
    grind
   subst hz1;exact⟨zv,z1,ho,U3 z3 h⟩
 ·cases h
theorem bp2 {s0 : SS} {f : Fm} {o : Op} {t : TypeId} {b : Nat} {S' : Hp} {v : Value} (h : aj9 P s0 f o = .mlk t b) (ht : TD P U τ F f tm) (hs : SD P U τ F s S) (hb : s.get b = s0.get b) (hx : xop P call tm S o = some (v, S')) :
  ∃x j q,s0.get b=some x/\τ b=some (some (j,q))/\MS P t j S S':=by
 unfold aj9 at h;split at h
 ·rename_i t' m k
  split at h
  ·rename_i b' hm
   split at h
   ·rename_i L kt' vt' kt vt hg hu
    cases hc:bl7 P t' f k&&Nat.beq kt kt'&&Nat.beq vt vt'&&(bk3 P vt).isSome with
    |false=>rw[hc]at h;cases h
    |true=>
     rw[hc]at h;cases h;simp only[bI0,bL9]at hc;obtain⟨⟨⟨c1,rfl⟩,rfl⟩,c4⟩:=hc;obtain⟨mv,m1,m2⟩:=A6 ht hm;cases m2 with
     |map _ i q hτ=>
      simp only[c6,k9,m1]at hx;cases hkv:a9 tm k with
      |none=>rw[hkv]at hx;cases hx
      |some kv=>
      rw[hkv]at hx;simp only at hx;obtain⟨kt2,vt2,sh,ks,k1,k2,k3,rfl⟩:=bg7 ht hkv c1;rw[hu]at k1;cases k1;obtain⟨d,hd⟩:∃d,P.underlying kt=some d:=by
       cases h:P.underlying kt with
       |none=>unfold N0 at k2;rw[h]at k2;cases k2
       |some d=>exact⟨d,rfl⟩
      obtain⟨ez,hez⟩:=Option.isSome_iff_exists.1 c4;obtain⟨z,z1,z2,z3⟩:=bB3 (U:=U) (F:=F) hez;rw[<-hb]at hg
      rcases hs.live b _ hg with⟨i',o',y,h1,h2,_,h0,es,reg,rfl,hreg,h3⟩| ⟨_,L',e',z',ph',h2,_⟩
      ·rw[hτ]at h1
       simp only[bH9,bI1]at h1;obtain⟨rfl,rfl⟩:=h1;subst hreg;refine⟨_,i,q,by rw[<-hb];exact hg,hτ,?_⟩
       obtain⟨find,hfd,hany⟩:=az8 hd k2 k3
       rcases J9 k2 k3 hfd z3 (ez.den U) (L.toR U) es 0 h3 with⟨q1,q2,q3,q5,q4⟩| ⟨q1,x,y,q2,q3,q5,q6,_⟩
       ·simp only[H7,hu,hd,h2,hany,q2,z1,bH9,bI1]at hx
        exact aR7 hu hd k2 z1 z2 z3 h2 (by rw[<-hx.2];exact(by show(S.m.set i _).get i=_;rw[T.get_set,bK1 rfl])) h3 (by rw[q3];exact q4) k3
       ·rw[bL1]at q2
        rcases J9 k2 k3 hfd q3 (ez.den U) (L.toR U) es 0 h3 with⟨w1,_⟩| ⟨_,_,_,_,_,_,_,q4⟩
        ·rw[w1]at q1;cases q1
        simp only[H7,hu,hd,h2,hany,q2,q5,bH9,bI1]at hx;rw[q6]at hx;exact aR7 hu hd k2 z1 z2 z3 h2 (by rw[<-hx.2];exact(by show(S.m.set i _).get i=_;rw[T.get_set,bK1 rfl])) h3 q4 k3
      ·cases h2
   ·cases h
  ·cases h
 ·cases h
variable (P U ov nt) in
def br4 (all:List Oper)(τ0:Tau)(F0:Nat->Option Blk)(s0:SS)(hp0:Hp)(rest:List (Oper×Nat))(i:Nat)(tm:T Value)(S:Hp)(I:Nat)(esX:List Ent)(f:Fm)(Q:(Fm×List Pd)×SS->Prop):Prop:=
 ∃f' pd' s',Q ((f',pd'),s')/\ ∃τ' F' out es',(EV fun m=>xgo P (exec P ov m) nt all hp0.nx rest i tm S I esX=some out)/\
  DA P U τ0 F0 s0 hp0 all.length all.length τ' F' s' out.S f' out.tm pd' out.es out.I/\DB P ⟨hp0.m,hp0.nx+all.length⟩ all.length τ' F' s' out.S es' out.es/\ ∃pr,f'=pr++f
theorem ar6 {call : D9} (hcall : B5 P U ov call) {all : List Oper} {τ0 : Tau} {F0 : Nat → Option Blk} {s0 : SS} {hp0 : Hp} : ∀ (rest : List (Oper × Nat)) (i : Nat) (τ : Tau) (F : Nat → Option Blk) (s : SS) (S : Hp) (f : Fm) (tm : T Value) (pd : List Pd) (es : List En) (esX : List Ent) (I : Nat),
  DA P U τ0 F0 s0 hp0 all.length i τ F s S f tm pd esX I->DB P ⟨hp0.m,hp0.nx+all.length⟩ i τ F s S es esX->i+rest.length=all.length->
  ∀Q,(sgo P U call nt all rest i f pd es s).vc U Q->br4 P U ov nt all τ0 F0 s0 hp0 rest i tm S I esX f Q
 | [],i,τ,F,s,S,f,tm,pd,es,esX,I,ha,hb,hi,Q,hq=>by
  have e:i=all.length:=by grind
  subst e;exact⟨f,pd,s,hq,τ,F,⟨tm,S,I,esX⟩,es,EV.of fun m=>rfl,ha,hb,[],rfl⟩
 | (o, pre) :: rest, i, τ, F, s, S, f, tm, pd, es, esX, I, ha, hb, hi, Q, hq => by
  have hin:i<all.length:=by grind
  have hi':i+1+rest.length=all.length:=by grind
  unfold sgo at hq;cases hd:A4 nt o.dst&&Nat.blt pre (2^i)with
  |false=>rw[hd]at hq;exact hq.elim
  | true =>
   rw[hd,bJ6,y5]at hq;rw[bI0]at hd;have hpre:pre<2^i:=bI3 hd.2;obtain⟨t,s1,hq,ho,hft,hw⟩:=aD3 ha.td all o (s:=s) _ hq ha.sd.fc;have ha:=ha.fr (bh9 ha.td hw);obtain⟨p0,hp0'⟩:=aV0 all f o t;have fin0:br4 P U ov nt all τ0 F0 s0 hp0 ((o,pre)::rest) i tm S I esX (P5 all f o t) Q->br4 P U ov nt all τ0 F0 s0 hp0 ((o,pre)::rest) i tm S I esX f Q:=
    fun⟨f',pd',s',h1,τ',F',out,es',h2,h3,h4,pr,h5⟩=>⟨f',pd',s',h1,τ',F',out,es',h2,h3,h4,pr++p0,by rw[h5,hp0',bJ3]⟩
   refine fin0 ?_;clear fin0 hp0' p0;generalize P5 all f o t=f at hq ha ⊢;have hsd1:=ha.sd.only ho hft;have fin : ∀ {a : SV} {v : Value} {S' : Hp} {I' : Nat} {eX : Ent}, (EV fun m => xgo P (exec P ov m) nt all hp0.nx ((o, pre) :: rest) i tm S I esX = xgo P (exec P ov m) nt all hp0.nx rest (i + 1) (y8 tm o.dst v) S' I' (eX :: esX)) →
     br4 P U ov nt all τ0 F0 s0 hp0 rest (i+1) (y8 tm o.dst v) S' I' (eX::esX) (H5 f o.dst a) Q->br4 P U ov nt all τ0 F0 s0 hp0 ((o,pre)::rest) i tm S I esX f Q:=by
    intro a v S' I' eX he ⟨f',pd',s',h1,τ',F',out,es',h2,h3,h4,pr,h5⟩;obtain⟨p,hp⟩:=aU7 f o.dst a;exact⟨f',pd',s',h1,τ',F',out,es',(he.and h2).mono fun m ⟨k1,k2⟩=>by rw[k1];exact k2,h3,h4,pr++p,by rw[h5,hp,bJ3]⟩
   have hl0:∀b x,s.get b=some x->τ b=τ b:=fun _ _ _=>rfl
   cases t with
   |false=>
    rw[bJ7]at hq;cases hc:bt4 o&& !(es.all (ab4 pre [] .free))with
    |true=>rw[hc]at hq;exact hq.elim
    |false=>
     rw[hc,bJ7]at hq;have hk:∀h:bt4 o=true,es.all (ab4 pre [] .free)=true:=fun h=>by
      grind
     have hg:∀b,s1.get b=s.get b:=ho.get;have ha':=ha.keep hb.xi (eX:=⟨i,o,pre,tm,S,S,I,false,undef,none⟩) hsd1 (ha.td.put (.tup [] [] rfl (fun i a x h _=>by simp at h)) o.dst) ho.h ho.nx (Ext.only ha.sd ho) rfl rfl
     have hb':=hb.step (en:=⟨i,pre,bt4 o,false,.free,[],false⟩) (eX:=⟨i,o,pre,tm,S,S,I,false,undef,none⟩) (τ':=τ) (F':=F) (s':=s1) (S':=S) (Tle.refl τ) (Fle.refl F) hl0 ha.sd.frz (fun _ _ _ h=>h)
      (fun b _=>hg b) (fun _ _ _ _ _ _ _=>rfl) rfl rfl rfl rfl rfl (fun _=>⟨rfl,rfl⟩) hk (fun _ _ _ h=>by cases h) (fun h _=>by cases h)
     exact fin (EV.of fun m=>bH7 hd.1 hw) (ar6 hcall rest (i+1) τ F s1 S _ _ pd _ _ I ha' hb' hi' Q hq)
   |true=>
    rw[bJ6]at hq;have hkk:d6 o.op=0\/d6 o.op=1\/d6 o.op=2\/d6 o.op=3:=by have:=an0 o.op;omega
    rcases hkk with hk|hk|hk|hk<;>rw[hk]at hq
    ·rw[show Nat.beq 0 0=true from rfl,bJ6,y5]at hq
     obtain⟨a,s2,⟨hq,h1,h2⟩,τ',F',S',ex,hsd2,v,hx,hv⟩:=aO2 hcall (ha.td) hsd1 o.op _ (aU9 hq) hsd1;obtain⟨m0,hm0⟩:=hx;have hm0:∀m,m0<=m->xop P (exec P ov m) tm S o.op=some (v,S'):=hm0;obtain⟨r,hr⟩:=aF3 (P:=P) (call:=exec P ov m0) (tm:=tm) hk;have hS:S'=S:=by have:=hm0 m0 (bK2 _);rw[hr]at this;exact(i8 this).2
     obtain⟨rfl,rfl,h3⟩:=ex.quiet hsd1 hsd2 hS h1 h2;subst hS;have hh:s2.h=s.h:=by rw[h3,ho.h]
     have hn:s2.nx=s.nx:=by rw[h2,ho.nx]
     have hg:∀b,s2.get b=s.get b:=fun b=>by unfold SS.get;rw[hh]
     have ha':=ha.keep hb.xi (eX:=⟨i,o,pre,tm,S',S',I,true,v,none⟩) hsd2 (ha.td.put hv o.dst) hh hn ((Ext.only ha.sd ho).trans ex) rfl rfl;have hb':=hb.step (en:=⟨i,pre,false,false,.free,[],false⟩) (eX:=⟨i,o,pre,tm,S',S',I,true,v,none⟩) (τ':=τ') (F':=F') (s':=s2) (S':=S') (Tle.refl _) (Fle.refl _) hl0 ha.sd.frz (fun _ _ _ h=>h)
      (fun b _=>hg b) (fun _ _ _ _ _ _ _=>rfl) rfl rfl rfl (by show false=isW _;unfold isW;rw[show d6 o.op=0 from hk];rfl) rfl (fun _=>⟨rfl,rfl⟩) (fun h=>by unfold isW at h;rw[show d6 o.op=0 from hk]at h;cases h) (fun h=>by cases h) (fun _ h=>by rw[show d6 o.op=0 from hk]at h;cases h)
     exact fin ⟨m0,fun m hm=>xgo_0 hd.1 hw hk (hm0 m hm)⟩ (ar6 hcall rest (i+1) _ _ s2 S' _ _ pd _ _ I ha' hb' hi' Q hq)
    ·rw[show Nat.beq 1 0=false from rfl,show Nat.beq 1 1=true from rfl,bJ7,bJ6,y5]at hq
     obtain⟨a,s2,⟨hq,h1,h2⟩,τ',F',S',ex,hsd2,v,hx,hv⟩:=aO2 hcall (ha.td) hsd1 o.op _ (aU9 hq) hsd1;obtain⟨m0,hm0⟩:=hx;obtain⟨hS,hrd⟩:=bH8 hk (hm0 m0 (bK2 _));obtain⟨rfl,rfl,h3⟩:=ex.quiet hsd1 hsd2 hS h1 h2;subst hS;have hh:s2.h=s.h:=by rw[h3,ho.h]
     have hn:s2.nx=s.nx:=by rw[h2,ho.nx]
     have hg:∀b,s2.get b=s.get b:=fun b=>by unfold SS.get;rw[hh]
     have hro:=bD3 ha.td hsd1 (hm0 m0 (bK2 _));rw[y5]at hq;have hlv:(∀b,(aw7 P f o.op= .blk b\/ ∃t,aw7 P f o.op= .mlk t b)-> ∃x,s.get b=some x)/\Tr.vc U ((bif vok 1000 a&&es.all (Z0 pre (aw7 P f o.op))then sgo P U call nt all rest (i+1) (H5 f o.dst a) pd (⟨i,pre,false,true,aw7 P f o.op,[],false⟩::es)
      else a7 "a region: a read") s2) Q:=by
      cases hrr:aw7 P f o.op with
      |blk b=>
       rw[hrr]at hq;simp only[liveR,m9]at hq;cases hgb:s2.get b with
       |none=>rw[hgb]at hq;exact hq.elim
       |some x=>rw[hgb]at hq;exact⟨fun b' e=>by rcases e with e| ⟨_,e⟩<;>cases e;exact⟨x,by rw[<-hg];exact hgb⟩,hq⟩
      |mlk tt b=>
       rw[hrr]at hq;simp only[liveR,m9]at hq;cases hgb:s2.get b with
       |none=>rw[hgb]at hq;exact hq.elim
       |some x=>rw[hgb]at hq;exact⟨fun b' e=>by rcases e with e| ⟨_,e⟩<;>cases e;exact⟨x,by rw[<-hg];exact hgb⟩,hq⟩
      |_=>rw[hrr]at hq;exact⟨fun b' e=>(by rcases e with e| ⟨_,e⟩<;>cases e),hq⟩
     obtain⟨hlv,hq⟩:=hlv;cases hc:vok 1000 a&&es.all (Z0 pre (aw7 P f o.op))with
     |false=>rw[hc]at hq;exact hq.elim
     |true=>
      rw[hc,bJ6]at hq;rw[bI0]at hc;have ha':=ha.keep hb.xi (eX:=⟨i,o,pre,tm,S',S',I,true,v,none⟩) hsd2 (ha.td.put hv o.dst) hh hn ((Ext.only ha.sd ho).trans ex) rfl rfl;have hb':=hb.step (en:=⟨i,pre,false,true,aw7 P f o.op,[],false⟩) (eX:=⟨i,o,pre,tm,S',S',I,true,v,none⟩) (τ':=τ') (F':=F') (s':=s2) (S':=S') (Tle.refl _) (Fle.refl _) hl0 ha.sd.frz (fun _ _ _ h=>h)
       (fun b _=>hg b) (fun _ _ _ _ _ _ _=>rfl) rfl rfl rfl (by show false=isW _;unfold isW;rw[show d6 o.op=1 from hk];rfl) rfl (fun _=>⟨rfl,rfl⟩) (fun h=>by unfold isW at h;rw[show d6 o.op=1 from hk]at h;cases h) (fun h=>by cases h)
       (fun _ _=>⟨aW9 1000 a v hc.1 hv,rfl,rfl,hro,hlv,hc.2⟩)
      refine fin ⟨m0,fun m hm=>xgo_1 hd.1 hw hk hrd⟩ (ar6 hcall rest (i+1) _ _ s2 S' _ _ pd _ _ I ha' hb' hi' Q hq)
    ·rw[show Nat.beq 2 0=false from rfl,show Nat.beq 2 1=false from rfl,show Nat.beq 2 2=true from rfl,bJ7,bJ7,bJ6]at hq
     cases hnw:snw P f o.op with
     |none=>rw[hnw]at hq;exact hq.elim
     |some xm=>
      obtain⟨x,mk⟩:=xm;rw[hnw]at hq;obtain⟨nw,hx,hbd,hval⟩:=bH1 (U:=U) ha.td hnw;have hq:(sgo P U call nt all rest (i+1) (H5 f o.dst (mk s1.nx)) (⟨s1.nx,i,x⟩::pd) (⟨i,pre,false,false,.free,[],false⟩::es) (aW7 s1)).vc U Q:=hq;have ha1:DA P U τ0 F0 s0 hp0 all.length i τ F s1 S f tm pd esX I:=
       ⟨hsd1,ha.td,ha.ext.trans (Ext.only ha.sd ho),ha.room,ha.ib,ha.xd,ha.pn,fun p hp=>let k:=ha.pds p hp;⟨k.lt,k.un,by rw[ho.get];exact k.g,k.lo,by rw[ho.nx];exact k.hi,k.t,k.f,k.u,k.e⟩,ha.cl,ha.tk⟩
      have h0:τ s1.nx=none:=hsd1.new _ (bK2 _);have hle:=V0 (τ:=τ) (some (hp0.nx+i,0)) h0;have ha':=ha1.pend hb.xi hin (eX:=⟨i,o,pre,tm,S,S,I,true,nw.val (hp0.nx+i),some nw⟩) (x:=x) (nw:=nw) ((ha.td.mono hle (Fle.refl F)).put (hval _ s1.nx (hp0.nx+i) (l8 _ _ _)) o.dst) (hbd _ hle) rfl rfl;have hb':=hb.step (en:=⟨i,pre,false,false,.free,[],false⟩) (eX:=⟨i,o,pre,tm,S,S,I,true,nw.val (hp0.nx+i),some nw⟩) (τ':=put τ s1.nx (some (hp0.nx+i,0))) (F':=F) (s':=aW7 s1) (S':=S) hle (Fle.refl _)
       (fun b y hb=>y7 τ _ (by have:=ha.sd.bound hb;rw[ho.nx];omega)) ha.sd.frz (fun _ _ _ h=>h)
       (fun b _=>ho.get b) (fun _ _ _ _ _ _ _=>rfl) rfl rfl rfl (by show false=isW _;unfold isW;rw[show d6 o.op=2 from hk];rfl) rfl (fun _=>⟨rfl,rfl⟩) (fun h=>by unfold isW at h;rw[show d6 o.op=2 from hk]at h;cases h) (fun h=>by cases h) (fun _ h=>by rw[show d6 o.op=2 from hk]at h;cases h)
      exact fin (EV.of fun m=>xgo_2 hd.1 hw hk hx) (ar6 hcall rest (i+1) _ _ _ S _ _ _ _ _ I ha' hb' hi' Q hq)
    ·rw[show Nat.beq 3 0=false from rfl,show Nat.beq 3 1=false from rfl,show Nat.beq 3 2=false from rfl,bJ7,bJ7,bJ7]at hq
     cases hc:pd.all (fun p=>pre.testBit p.i)with
     |false=>rw[hc]at hq;exact hq.elim
     |true=>
      rw[hc,bJ6]at hq;rw[bK9]at hc;have ha1:DA P U τ0 F0 s0 hp0 all.length i τ F s1 S f tm pd esX I:=
       ⟨hsd1,ha.td,ha.ext.trans (Ext.only ha.sd ho),ha.room,ha.ib,ha.xd,ha.pn,fun p hp=>let k:=ha.pds p hp;⟨k.lt,k.un,by rw[ho.get];exact k.g,k.lo,by rw[ho.nx];exact k.hi,k.t,k.f,k.u,k.e⟩,ha.cl,ha.tk⟩
      have hsel:∀e∈esX,e.nw≠none->(aj5 pre I e.i=true↔ ∃p∈pd,p.i=e.i):=by
       intro e he hne;unfold aj5;rw[bI0,bM5]
       constructor
       ·rintro ⟨_,h2⟩;exact ha.tk e he hne h2
       ·rintro ⟨p,hp,h2⟩;rw[<-h2];exact⟨hc p hp,(ha.pds p hp).un⟩
      obtain⟨t1,t2,t3,t4⟩:=ha1.take (aj5 pre I) hsel;simp only[m9]at hq;rw[y5]at hq;generalize hso:aj9 P s1 f o.op=so at hq;have hq:(a8 (bt9 s1.h.length (sop P U call f o.op)) (fun r=>a8 (liveR so) fun _=>bif es.all (ab4 pre r.2.1 so)then sgo P U call nt all rest (i+1) (H5 f o.dst r.1) [] (⟨i,pre,true,false,so,r.2.1,r.2.2⟩::es)else a7 "a region: a write") (ab5 s1 pd)).vc U Q:=hq
      rw[y5]at hq;unfold bt9 at hq;rw[Tr.vc_bind]at hq;obtain⟨a,s2,hq,τ',F',S',ex,hsd2,v,hx,hv⟩:=aO2 hcall ha.td t1 o.op _ hq t1;obtain⟨l,a1,a2,a3,a4,a5⟩:=ex.hh;have hkeys:L5 (s2.h.length-s1.h.length) s2.h=(l++tkl pd).map Prod.fst:=by
       have:s2.h=(l++tkl pd)++s1.h:=by rw[a1,bJ3];rfl
       rw[this,bK6,Nat.add_sub_cancel,au7]
      have hq:(a8 (liveR so) (fun _=>bif es.all (ab4 pre (L5 (s2.h.length-s1.h.length) s2.h) so)then sgo P U call nt all rest (i+1) (H5 f o.dst a) [] (⟨i,pre,true,false,so,L5 (s2.h.length-s1.h.length) s2.h,au6 (s2.h.length-s1.h.length) s2.h⟩::es)else a7 "a region: a write") s2).vc U Q:=hq
      rw[y5]at hq;have hlv:(∀t b,so= .mlk t b-> ∃x,s2.get b=some x)/\((bif es.all (ab4 pre (L5 (s2.h.length-s1.h.length) s2.h) so)then sgo P U call nt all rest (i+1) (H5 f o.dst a) [] (⟨i,pre,true,false,so,L5 (s2.h.length-s1.h.length) s2.h,au6 (s2.h.length-s1.h.length) s2.h⟩::es)else a7 "a region: a write") s2).vc U Q:=by
       cases so with
       |blk b=>
        simp only[liveR,m9]at hq;cases hgb:s2.get b with
        |none=>rw[hgb]at hq;exact hq.elim
        |some x=>rw[hgb]at hq;exact⟨fun _ _ e=>(by cases e),hq⟩
       |mlk tt b=>
        simp only[liveR,m9]at hq;cases hgb:s2.get b with
        |none=>rw[hgb]at hq;exact hq.elim
        |some x=>rw[hgb]at hq;exact⟨fun _ _ e=>(by cases e;exact⟨x,hgb⟩),hq⟩
       |free=>exact⟨fun _ _ e=>(by cases e),hq⟩
       |frz=>exact⟨fun _ _ e=>(by cases e),hq⟩
       |bad=>exact⟨fun _ _ e=>(by cases e),hq⟩
      obtain⟨hlv,hq⟩:=hlv;rw[hkeys]at hq;cases hc2:es.all (ab4 pre ((l++tkl pd).map Prod.fst) so)with
      |false=>rw[hc2]at hq;exact hq.elim
      |true=>
       rw[hc2,bJ6]at hq;have ha':=ha1.write hb.xi hpre hc t3 t2 ex hsd2 ((ha.td.mono ex.t ex.f).put hv o.dst) (eX:=⟨i,o,pre,tm,S,S',I,true,v,none⟩) rfl rfl;have hgk:∀b,b∉(l++tkl pd).map Prod.fst->s2.get b=s.get b:=by
        intro b hb;have:s2.h=(l++tkl pd)++s.h:=by rw[a1,bJ3,<-ho.h];rfl
        unfold SS.get;rw[this,ax6 _ _ hb]
       have hun:∀b x j q,s.get b=some x->τ b=some (some (j,q))->b∉(l++tkl pd).map Prod.fst->S'.m.get j=S.m.get j:=by
        intro b x j q hgb hτ hbk;have hnp:∀p∈pd,b≠p.b:=by
         intro p hp e;rw[e,(ha.pds p hp).g]at hgb;cases hgb
        have hjp:∀p∈pd,j≠hp0.nx+p.i:=by
         intro p hp e;subst e;exact hnp p hp ((ha.pds p hp).u b q hτ)
        have hg1:(ab5 s1 pd).get b=some x:=by rw[U2 hnp,ho.get];exact hgb
        rw[a2 j (by rw[t3];exact ha.sd.lt b j q hτ) (fun b' y q' e1 e2 e3=>?_),t4 j hjp]
        by_cases eb:b'=b
        ·grind
        ·exact t1.inj b' b y x j q' j q e1 hg1 eb e2 hτ rfl
       have hfe:(isW (⟨i,o,pre,tm,S,S',I,true,v,none⟩:Ent)=true->au6 (s2.h.length-s1.h.length) s2.h=false)-> ∀j y,F' j=some y->F j=some y:=fun hq=>by
        have hn:=hq (by unfold isW;rw[show d6 o.op=3 from hk];rfl)
        have e2:s2.h=(l++tkl pd)++s1.h:=by rw[a1,bJ3];rfl
        rw[e2,bK6,Nat.add_sub_cancel]at hn;exact a5 fun p hp=>bm8 _ _ hn p (bR6 _ hp)
       obtain⟨m0,hm0⟩:=hx;have hsoft:∀tt b,av3 so (.mlk tt b)=true-> ∃x x' j q,s.get b=some x/\s2.get b=some x'/\τ b=some (some (j,q))/\MS P tt j S S':=by
        intro tt b hsb;have e:so= .mlk tt b:=by
         clear hso hq hlv hc2;cases so with
         |mlk t2 b2=>
          simp only[av3,bI0,bL9]at hsb
          grind
         |_=>cases hsb
        obtain⟨x',hx'⟩:=hlv tt b e;have hlb:∃x,s1.get b=some x:=by
         rw[<-hso]at e;unfold aj9 at e;split at e
         ·split at e
          ·grind
          ·cases e
         ·cases e
        obtain⟨x1,hx1⟩:=hlb;have hnp:∀p∈pd,b≠p.b:=by
         intro p hp e;have:=(ha1.pds p hp).g;rw[<-e,hx1]at this;cases this
        obtain⟨x,j,q,g1,g2,g3⟩:=bp2 (s0:=s1) (hso.trans e) ha.td t1 (by rw[U2 hnp]) (hm0 m0 (bK2 _))
        have hjp:∀p∈pd,j≠hp0.nx+p.i:=by
         intro p hp e;subst e;exact hnp p hp ((ha.pds p hp).u b q g2)
        exact⟨x,x',j,q,by rw[<-ho.get];exact g1,hx',g2,(MS.of (t4 j hjp)).trans g3⟩
       have hb':=hb.step (en:=⟨i,pre,true,false,so,(l++tkl pd).map Prod.fst,au6 (s2.h.length-s1.h.length) s2.h⟩) (eX:=⟨i,o,pre,tm,S,S',I,true,v,none⟩) (τ':=τ') (F':=F') (s':=s2) (S':=S') ex.t ex.f
        (fun b y hgb=>ex.st b (by have:=ha.sd.bound hgb;show b<s1.nx;rw[ho.nx];exact this)) hsd2.frz hfe hgk hun rfl rfl rfl (by show true=isW _;unfold isW;rw[show d6 o.op=3 from hk];rfl) rfl
        (fun h=>by unfold isW at h;rw[show d6 o.op=3 from hk]at h;cases h) (fun _=>hc2) (fun _=>hsoft) (fun _ h=>by rw[show d6 o.op=3 from hk]at h;cases h)
       exact fin ⟨m0,fun m hm=>xgo_3 hd.1 hw hk (hm0 m hm)⟩ (ar6 hcall rest (i+1) _ _ _ S' _ _ _ _ _ _ ha' hb' hi' Q hq)
theorem ar5 {call : D9} (hcall : B5 P U ov call) (all : List Oper) (f : Fm) (τ : Tau) (F : Nat → Option Blk) (s : SS) (hp : Hp) (tm : T Value) (ht : TD P U τ F f tm) (hs : SD P U τ F s hp) :
  OKh P U (ar4 P U call nt all f) τ F s hp fun f' τ' F' hp'=>∃tm',(EV fun n=>M4 P (exec P ov n) nt all tm hp=some (tm',hp'))/\TD P U τ' F' f' tm'/\ ∃pre,f'=pre++f:=by
 intro Q hq _;unfold ar4 at hq;cases hst:stat all (C0 all [])with
 |false=>rw[hst]at hq;exact hq.elim
 |true=>
  rw[hst,bJ6,y5]at hq;have hlen:(all.zip (C0 all [])).length=all.length:=by
   have:=hst;simp only[stat,bI0]at this;have:=bI4 this.1.1;rw[List.length_zip,this,Nat.min_self]
  have hsd:SD P U τ F s ⟨hp.m,hp.nx+all.length⟩:=⟨hs.live,hs.inj,hs.frz,fun b i o h=>bN2 (hs.lt b i o h) (Nat.le_add_right _ _),fun i b h=>bN2 (hs.flt i b h) (Nat.le_add_right _ _),hs.new,hs.fc,hs.fz⟩
  have hex:Ext τ F s hp τ F s ⟨hp.m,hp.nx+all.length⟩:=⟨Tle.refl τ,Fle.refl F,Nat.le_add_right _ _,bK2 _,fun _ _=>rfl,fun b x hb _=>⟨x,hb⟩,
   ⟨[],rfl,fun _ _ _=>rfl,fun b i o hb ht=>(by rw[hs.new b hb]at ht;cases ht),fun _ _ _ h=>.inl h,fun _ _ _ h=>h⟩,⟨[],rfl⟩⟩
  have ha:DA P U τ F s hp all.length 0 τ F s ⟨hp.m,hp.nx+all.length⟩ f tm [] [] 0:=by
   refine⟨hsd,ht,hex,bK2 _,fun j _=>Nat.zero_testBit j,.nil,.nil,fun p hp=>by simp at hp,fun j _ _=>⟨fun c o hc=>?_,?_⟩,fun e he=>by simp at he⟩
   ·have:=hs.lt c _ o hc;omega
   ·cases hF:F (hp.nx+j)with
    |none=>rfl
    |some y=>have:=hs.flt _ y hF;omega
  have hb:DB P ⟨hp.m,hp.nx+all.length⟩ 0 τ F s ⟨hp.m,hp.nx+all.length⟩ [] []:=by
   refine⟨fun e he=>by simp at he,fun e he=>by simp at he,fun e he=>by simp at he,fun e he=>by simp at he,fun k Sk hpt b x j o _ _ _=>?_,fun k Sk hpt _ j y hj=>?_,fun e he=>by simp at he,fun t k Sk hpt b x j o _ _ _=>?_⟩
   ·rcases hpt with⟨_,rfl⟩| ⟨x,hx,_⟩
    ·rfl
    ·simp at hx
   ·rcases hpt with⟨_,rfl⟩| ⟨x,hx,_⟩
    ·exact hs.frz j y hj
    ·simp at hx
   ·rcases hpt with⟨_,rfl⟩| ⟨x,hx,_⟩
    ·exact MS.of rfl
    ·simp at hx
  obtain⟨f',pd',s',hq',τ',F',out,es',⟨m0,hm0⟩,ha',hb',pr,hpr⟩:=ar6 hcall (all.zip (C0 all [])) 0 τ F s _ f tm [] [] [] 0 ha hb (by rw[hlen,bL1]) _ hq
  obtain⟨t1,t2,_,_⟩:=ha'.take (ah3 out.I) (fun e he hne=>by
   unfold ah3;rw[bM5]
   constructor
   ·exact ha'.tk e he hne
   ·rintro ⟨p,hp,e1⟩
    rw[<-e1];exact(ha'.pds p hp).un)
  have hdyn:dyn P ⟨hp.m,hp.nx+all.length⟩ out.es=true:=by
   unfold dyn;rw[bK9];intro e he;cases hc:e.wt&&Nat.beq (d6 e.o.op) 1 with
   |false=>rfl
   |true=>
    rw[bJ6];rw[bI0]at hc;have look:=hb'.look e he hc.1 (bI4 hc.2);rw[bI0];refine⟨(look 0 _ (.inl ⟨rfl,rfl⟩)).look,?_⟩;rw[bK9];intro x hx;cases hw:isW x with
    |false=>rfl
    |true=>exact(look _ _ (.inr ⟨x,hx,hw,rfl,rfl⟩)).look
  refine⟨f',ab5 s' pd',hq',τ',F',takes hp.nx (ah3 out.I) out.es out.S,t2,t1,out.tm,⟨m0,fun m hm=>?_⟩,ha'.td,pr,hpr⟩
  have e:xgo P (exec P ov m) nt all hp.nx (all.zip (C0 all [])) 0 tm ⟨hp.m,hp.nx+all.length⟩ 0 []=some out:=hm0 m hm;show M4 P (exec P ov m) nt all tm hp=_;unfold M4;rw[hst,bJ6,e];simp only[hdyn,bJ6]
theorem bE5 {a a' : Operand} {f : Fm} {s : SS} {Q : Fm × SS → Prop} (h : (twoB a a' f s).vc U Q) :
  ∃b z r fl b' z' r' fl',j8 f a=some (.ptr b z r fl)/\j8 f a'=some (.ptr b' z' r' fl')/\b≠b'/\(∃X,s.get b=some X)/\(∃Y,s.get b'=some Y)/\Q (f,s):=by
 unfold twoB m9 at h;generalize j8 f a=u at h⊢;generalize j8 f a'=w at h⊢;cases u with
 |none=>exact h.elim
 |some u=>cases w with
  |none=>cases u<;>exact h.elim
  |some w=>
   cases u<;>try exact h.elim
   cases w<;>try exact h.elim
   rename_i b z r fl b' z' r' fl';simp only at h;cases hc: !(Nat.beq b b')&&bg9 s b&&bg9 s b' with
   |false=>rw[hc]at h;exact h.elim
   |true=>
    rw[hc,bJ6]at h;simp only[bI0,bM5]at hc;obtain⟨⟨c1,c2⟩,c3⟩:=hc;exact⟨b,z,r,fl,b',z',r',fl',rfl,rfl,fun e=>by rw[e]at c1;simp at c1,Option.isSome_iff_exists.1 c2,Option.isSome_iff_exists.1 c3,h⟩
theorem aV7 {call:D9}(hcall:B5 P U ov call):V7 P U ov nt (bi8 P U call nt):=by
 intro all f τ F s hp tm ht hs Q hq hs';unfold bi8 at hq;cases hst:stat all (C0 all [])with
 |true=>
  rw[hst,bJ6]at hq;obtain⟨f',s',h1,τ',F',hp',h2,h3,tm',h4,h5⟩:=ar5 hcall all f τ F s hp tm ht hs Q hq hs';exact⟨f',s',h1,τ',F',hp',h2,h3,tm',h4.mono fun n k=>by unfold u7;rw[k],h5⟩
 |false=>
  rw[hst,bJ7]at hq;have hno:∀n,M4 P (exec P ov n) nt all tm hp=none:=fun n=>by unfold M4;rw[hst];rfl
  cases hxy:aq5 all with
  |none=>rw[hxy]at hq;exact hq.elim
  |some xy=>
  obtain⟨x,y⟩:=xy;rw[hxy]at hq;simp only at hq;cases hb:az1 0 all&&Nat.blt x all.length&&Nat.blt y all.length&& !(Nat.beq x y)with
  |false=>rw[hb]at hq;exact hq.elim
  |true=>
  rw[hb,bJ6]at hq;cases hp2:ar0 (c9 all.toArray x y .data).toList (moveLast (c9 all.toArray y x .data) x).toList x y with
  |none=>rw[hp2]at hq;exact hq.elim
  |some aa=>
  obtain⟨a,a'⟩:=aa;rw[hp2]at hq;simp only at hq;obtain⟨q1,q2⟩:=hq;rw[Tr.vc_bind]at q1;obtain⟨_,_,_,_,_,hpB,_,_,tmB,hB,_⟩:=ar5 hcall _ f τ F s hp tm ht hs _ q1 hs';have q2:(a8 (ar4 P U call nt (c9 all.toArray x y .data).toList f) (twoB a a') s).vc U Q:=q2;rw[y5]at q2;obtain⟨f',s',q2,τ',F',hp',h2,h3,tm',h4,h5,h6⟩:=ar5 hcall _ f τ F s hp tm ht hs _ q2 hs';obtain⟨b,z,r,fl,b',z',r',fl',e1,e2,hne,⟨X,hX⟩,⟨Y,hY⟩,q2⟩:=bE5 q2;obtain⟨u,u1,u2⟩:=A6 (P:=P) (U:=U) h5 e1;obtain⟨w,w1,w2⟩:=A6 (P:=P) (U:=U) h5 e2;have hdj:bl0 (a9 tm' a) (a9 tm' a')=true:=by
   rw[u1,w1];cases u2 with
   |ptr _ _ _ _ i q hτ _=>cases w2 with
    |ptr _ _ _ _ j q' hτ' _=>
     have:=h3.inj b b' X Y i q j q' hX hY hne hτ hτ';show(!(Nat.beq i j))=true;cases hb:Nat.beq i j with
     |false=>rfl
     |true=>exact absurd (bI4 hb) this
  refine⟨f',s',q2,τ',F',hp',h2,h3,tm',(h4.and hB).mono fun n ⟨k1,k2⟩=>?_,h5,h6⟩
  unfold u7;rw[hno n];simp only;rw[hxy];simp only;unfold bA2;have e0:all.toArray.toList=all:=by simp
  have e3:all.toArray.size=all.length:=by simp
  rw[e0,e3,hb,bJ6,k1,k2];simp only;unfold ax2;rw[hp2];simp only;rw[hdj];rfl
end
end Go.Sx
namespace Go.Sx
open Go.Xe
section
variable {P :Program}{U:Nat->List Dat->Dat}
theorem VD.re {τ0 τ1 τ2:Tau}{F0 F1:Nat->Option Blk}{a:SV}{v0 v1:Value}(h0:VD P U τ0 F0 a v0)(h1:VD P U τ1 F1 a v1)(hτ:∀b p,τ0 b=some p->τ2 b=τ1 b):VD P U τ2 F1 a v1:=by
 induction h1 generalizing v0 with
 |any v=>exact .any v
 |int k e=>exact .int k e
 |bool e=>exact .bool e
 |str e=>exact .str e
 |nilp=>exact .nilp
 |ptr b z row fld i o k h=>
  cases h0 with
  |ptr _ _ _ _ i' o' k' _=>exact .ptr b z row fld i o (by rw[hτ b _ k'];exact k) h
 |pptr t L row fld i o l c k h h'=>exact .pptr t L row fld i o l c k h h'
 |nils=>exact .nils
 |sl b z off len cap i o c k h h' hc=>
  have hb:∃p,τ0 b=some p:=by cases h0<;>exact⟨_,by assumption⟩
  obtain⟨p,hp⟩:=hb;exact .sl b z off len cap i o c (by rw[hτ b _ hp];exact k) h h' hc
 |sl0 b z off len cap k h h' hc=>
  have hb:∃p,τ0 b=some p:=by cases h0<;>exact⟨_,by assumption⟩
  obtain⟨p,hp⟩:=hb;exact .sl0 b z off len cap (by rw[hτ b _ hp];exact k) h h' hc
 |lst t L clip v k hc=>exact .lst t L clip v k hc
 |agg l xs e1 _ ih=>
  cases h0 with
  |agg _ ys e2 h2=>
   refine .agg l xs e1 fun i a x ha hx=>?_
   grind
 |tup l xs e1 _ ih=>
  cases h0 with
  |tup _ ys e2 h2=>
   refine .tup l xs e1 fun i a x ha hx=>?_
   grind
 |fn f l m xs ys e1 _ e2 _ ih1 ih2=>
  cases h0 with
  |fn _ _ _ xs' ys' e3 k3 e4 k4=>
   refine .fn f l m xs ys e1 (fun i a x ha hx=>?_) e2 (fun i a x ha hx=>?_)
   ·grind
   ·grind
 |nilf=>exact .nilf
 |map b i o k=>
  cases h0 with
  |map _ i' o' k'=>exact .map b i o (by rw[hτ b _ k'];exact k)
 |nilm=>exact .nilm
 |iface t v x _ ih=>
  cases h0 with
  |iface _ _ x' h'=>exact .iface t v x (ih h')
 |nili=>exact .nili
 |yld ks vs g nt ps as bo i tms pr db hF hp _ ih=>
  cases h0 with
  |yld _ _ _ _ _ _ _ i0 tms0 pr0 db0 _ _ k0=>exact .yld ks vs g nt ps as bo i tms pr db hF hp fun k a ha=>ih k a ha (k0 k a ha)
theorem BD.re {τ0 τ1 τ2:Tau}{F0 F1:Nat->Option Blk}{x:y4}{o0 o1:Nat}{y0 y1:Blk}(h0:BD P U τ0 F0 o0 x y0)(h1:BD P U τ1 F1 o1 x y1)(hτ:∀b p,τ0 b=some p->τ2 b=τ1 b):BD P U τ2 F1 o1 x y1:=by
 cases x with
 |cells l e z=>
  obtain⟨cs0,n0,_,_,k0⟩:=h0;obtain⟨cs,n,e1,e2,k1⟩:=h1;refine⟨cs,n,e1,e2,fun j a ha=>?_⟩
  obtain⟨x,hx,hv⟩:=k1 j a ha;obtain⟨x0,_,hv0⟩:=k0 j a ha;exact⟨x,hx,hv0.re hv hτ⟩
 |rows L e z ph=>exact h1
 |map L kt vt=>exact h1
 |iter s p=>exact h1
def E8 (P:Program)(U:Nat->List Dat->Dat)(x:y4):Prop:=∃L e z ph,x= .rows L e z ph/\L.toR U=[]/\z=(kf P e).length/\ph.toI U<=0
theorem SD.rebase {τ1 τ2 : Tau} {F : Nat → Option Blk} {s1 s2 : SS} {hp : Hp} (hs : SD P U τ1 F s1 hp) (g : Nat → Nat)
  (h:∀b x,s2.get b=some x-> ∃x',s1.get (g b)=some x'/\τ2 b=τ1 (g b)/\(∀i o y,τ1 (g b)=some (some (i,o))->hp.m.get i=some y->BD P U τ1 F o x' y->BD P U τ2 F o x y)/\(E8 P U x'->E8 P U x))
  (hg:∀b c x y,s2.get b=some x->s2.get c=some y->b≠c->g b≠g c) (hlt:∀b i o,τ2 b=some (some (i,o))->i<hp.nx) (hn:∀b,s2.nx<=b->τ2 b=none) (hf:FT U s2.fc) (hz:∀r∈s2.fz,bk4 P U τ2 F r):SD P U τ2 F s2 hp:=by
 refine⟨fun b x hb=>?_,fun b c x y i o j q hb hc hne e1 e2=>?_,hs.frz,hlt,hs.flt,hn,hf,hz⟩
 ·obtain⟨x',h1,h2,h3,h4⟩:=h b x hb
  rcases hs.live _ _ h1 with⟨i,o,y,k1,k2,k3,k4⟩| ⟨k1,k2⟩
  ·grind
  ·exact .inr ⟨by rw[h2];exact k1,h4 k2⟩
 ·obtain⟨x',h1,h2,_⟩:=h b x hb
  obtain⟨y',k1,k2,_⟩:=h c y hc;rw[h2]at e1;rw[k2]at e2;exact hs.inj _ _ x' y' i o j q h1 k1 (hg b c x y hb hc hne) e1 e2
inductive G where
 |keep
 |any
 |int (k:IntKind)
 |bool
 |str
 |lst (t:TypeId)
 |acc (e:TypeId) (z:Nat)
 |clp (t:TypeId)
 |itr (s:E)
 |cel (k:IntKind) (t:TypeId)
 |mac (kt vt:TypeId)
 |rwk (b:Nat) (e:TypeId) (z:Nat) (ph:E)
 |pp (t:TypeId)
def G.so :G->Option So
 | .int _=>some .i
 | .bool=>some .b
 | .str=>some .s
 | .lst _=>some .l
 | .clp _=>some .l
 | .acc _ _=>some .l
 | .itr _=>some .i
 | .cel _ _=>some .i
 | .mac _ _=>some .l
 | .rwk _ _ _ _=>some .l
 | .pp _=>some .l
 |_=>none
def G.na :G->Nat
 | .acc _ _=>1
 | .itr _=>1
 | .cel _ _=>1
 | .mac _ _=>1
 |_=>0
def ac8 :SV->Cp
 | .nils=>.ge
 | .sl _ _ _ _ (.ex c)=>.ex c
 | .sl _ _ _ _ .ge=>.ge
 |_=>.un
def phOf (L:E):Cp->E
 | .ex c=>c
 | .ge=>y6 L
 | .un=>y6 L
def tv (g:G)(a:SV)(e:E)(b:Nat):SV:=match g with
 | .keep=>a
 | .any=>.any
 | .int k=>.int k e
 | .bool=>.bool e
 | .str=>.str e
 | .lst t=>.lst t e false
 | .clp t=>.lst t e true
 | .acc _ z=>.sl b z (.int 0) (y6 e) (ac8 a)
 | .itr _=>.ptr b 1 (.int 0) 0
 | .cel _ _=>.ptr b 1 (.int 0) 0
 | .mac _ _=>.map b
 | .rwk _ _ _ _=>.any
 | .pp t=>.pptr t e (.int 0) 0
def G.blk (g:G)(a:SV)(d:E):Option y4:=match g with
 | .acc e z=>some (.rows d e z (phOf d (ac8 a)))
 | .itr s=>some (.iter s d)
 | .cel k t=>some (.cells [.int k d] t 1)
 | .mac kt vt=>some (.map d kt vt)
 |_=>none
def G.fix (g:G)(d:E):Option (Nat×y4):=match g with
 | .rwk b e z ph=>some (b,.rows d e z ph)
 |_=>none
def hd1 :List E->E
 | []=>.int 0
 |e::_=>e
def tl1 :List E->List E
 | []=>[]
 |_::l=>l
def pop (g:G)(es:List E):List E:=match g.so with
 |some _=>tl1 es
 |none=>es
inductive At where
 |tmp (t:Nat)
 |cell (b j:Nat)
 |no
structure Pl where
 at_:At
 g:G
 a:SV
def S6 :List Pl->List E->Nat->List (At×SV)
 | [],_,_=>[]
 |p::l,es,b=>(p.at_,tv p.g p.a (hd1 es) b)::S6 l (pop p.g es) (b+p.g.na)
def ab9 :List Pl->List E->Nat->List (Nat×Option y4)
 | [],_,_=>[]
 |p::l,es,b=>match p.g.blk p.a (hd1 es)with
  |some X=>(b,some X)::ab9 l (pop p.g es) (b+p.g.na)
  |none=>match p.g.fix (hd1 es)with
   |some q=>(q.1,some q.2)::ab9 l (pop p.g es) (b+p.g.na)
   |none=>ab9 l (pop p.g es) (b+p.g.na)
def aB4 (P:Program)(U:Nat->List Dat->Dat)(g:G)(v:SV):M SV:=match g with
 | .lst t=>a8 (aV6 P U 20 (.sl t) v) fun e=>c8 (.lst t e false)
 | .clp t=>match v with
  | .lst t' L c=>bif c then c8 (.lst t' L c)else a7 "a list with room behind it"
  | .nils=>c8 (.lst t (.op .nil []) true)
  | .sl b z off len (.ex c)=>a8 (j7 U (E5 c len)) fun _=>a8 (aV6 P U 20 (.sl t) (.sl b z off len (.ex c))) fun e=>c8 (.lst t e true)
  |_=>a7 "a slice with room behind it"
 | .acc e z=>match v with
  | .sl b z' off len cap=>a8 (aB2 P b) fun _=>c8 (.sl b z' off len cap)
  | .nils=>bif Nat.beq z (kf P e).length then a8 (V3 (.rows (.op .nil []) e z (.int 0))) fun b=>c8 (.sl b z (.int 0) (.int 0) .ge)else a7 "loop: cells"
  |_=>a7 "loop: no slice"
 | .pp t=>match v with
  | .ptr b z (.int 0) 0=>m9 fun s=>match s.get b with
   |some (.cells _ _ _)=>a8 (aV6 P U 20 (.sl t) (.sl b z (.int 0) (.int 1) (.ex (.int 1)))) fun e=>a8 (j7 U (E5 (y6 e) (.int 1))) fun _=>c8 (.pptr t e (.int 0) 0)
   |_=>c8 v
  |_=>c8 v
 |_=>c8 v
def norm (P:Program)(U:Nat->List Dat->Dat):List Pl->List SV->M (List SV)
 |p::l,v::vs=>a8 (aB4 P U p.g v) fun v'=>a8 (norm P U l vs) fun vs'=>c8 (v'::vs')
 | [],[]=>c8 []
 |_,_=>a7 "loop: places"
def svp :SV->SV->Bool
 | .ptr b z (.int m) f,.ptr b' z' (.int m') f'=>Nat.beq b b'&&Nat.beq z z'&&decide (m=m')&&Nat.beq f f'
 | .nilp,.nilp=>true
 | .nilf,.nilf=>true
 | .nilm,.nilm=>true
 | .nili,.nili=>true
 | .nils,.nils=>true
 | .map b,.map b'=>Nat.beq b b'
 | .int k (.int m),.int k' (.int m')=>decide (k=k')&&decide (m=m')
 |_,_=>false
def bz7 :List SV->List SV->Bool
 | [],[]=>true
 |a::l,b::m=>svp a b&&bz7 l m
 |_,_=>false
def svk (a v:SV):Bool:=svp a v||match a,v with
 | .fn f l m,.fn g l' m'=>decide (f=g)&&bz7 l l'&&bz7 m m'
 |_,_=>false
theorem bz6 {a v : SV} (h : svp a v = true) : a = v := by
 unfold svp at h;split at h <;> first
  |rfl
  |cases h
  | (simp only [bI0, bL9, bK0] at h
     obtain⟨⟨⟨rfl,rfl⟩,rfl⟩,rfl⟩:=h;rfl)
  | (simp only [bI0, bK0] at h
     obtain⟨rfl,rfl⟩:=h;rfl)
  | (rw[bI4 h])
theorem aO9 :∀ {l m:List SV},bz7 l m=true->l=m
 | [],[],_=>rfl
 | [],_::_,h=>by cases h
 |_::_,[],h=>by cases h
 |a::l,b::m,h=>by
  unfold bz7 at h;rw[bI0]at h;rw[bz6 h.1,aO9 h.2]
theorem bH3 {a v:SV}(h:svk a v=true):a=v:=by
 unfold svk at h;rw[bP6]at h
 rcases h with h|h
 ·exact bz6 h
 ·split at h
  ·simp only[bI0,bK0]at h
   rw[h.1.1,aO9 h.1.2,aO9 h.2]
  ·cases h
def mt1 (U : Nat → List Dat → Dat) (g : G) (a v : SV) : M (Option E × Option Nat) := match g with
 | .keep=>bif svk a v then c8 (none,none)else a7 "loop: a place that has changed"
 | .any=>c8 (none,none)
 | .int k=>match v with
  | .int k' e=>bif decide (k=k')then c8 (some e,none)else a7 "loop: kind"
  |_=>a7 "loop: no int"
 | .bool=>match v with
  | .bool e=>c8 (some e,none)
  |_=>a7 "loop: no bool"
 | .str=>match v with
  | .str e=>c8 (some e,none)
  |_=>a7 "loop: no string"
 | .lst t=>match v with
  | .lst t' L _=>bif Nat.beq t t' then c8 (some L,none)else a7 "loop: type"
  |_=>a7 "loop: no list"
 | .clp t=>match v with
  | .lst t' L c=>bif c&&Nat.beq t t' then c8 (some L,none)else a7 "loop: type"
  |_=>a7 "loop: no list"
 | .acc e z => match v with
  | .sl b z' (.int m) len cap => m9 fun s => match s.get b with
   | some (.rows L e' z'' ph) => bif Nat.beq e e' && Nat.beq z z' && Nat.beq z z'' && decide (m = 0) then
     a8 (j7 U (u5 (v6 (y6 L) len))) fun _=>a8 (O9 U L (.int 0) len) fun d=>match ac8 a,cap with
      | .un,.ge=>c8 (some d,some b)
      | .un,.un=>c8 (some d,some b)
      | .ge,.ge=>c8 (some d,some b)
      | .un,.ex c'=>a8 (j7 U (E5 c' len)) fun _=>a8 (j7 U (v6 len (.int 67108865))) fun _=>c8 (some d,some b)
      | .ex c,.ex c'=>a8 (j7 U (E5 c' c)) fun _=>a8 (j7 U (u5 (v6 ph c))) fun _=>c8 (some d,some b)
      |_,_=>a7 "loop: capacity"
    else a7 "loop: slice"
   |_=>a7 "loop: block"
  |_=>a7 "loop: no slice"
 | .itr s0=>match v with
  | .ptr b z (.int m) f=>m9 fun s=>match s.get b with
   |some (.iter s' pos)=>bif Nat.beq z 1&&decide (m=0)&&Nat.beq f 0 then a8 (j7 U (au4 s' s0)) fun _=>c8 (some pos,some b)else a7 "loop: iterator"
   |_=>a7 "loop: block"
  |_=>a7 "loop: no iterator"
 | .cel k t=>match v with
  | .ptr b z (.int m) f=>m9 fun s=>match s.get b with
   |some (.cells [.int k' e] t' z')=>bif Nat.beq z 1&&decide (m=0)&&Nat.beq f 0&&Nat.beq z' 1&&Nat.beq t t'&&decide (k=k')then c8 (some e,some b)else a7 "loop: cell"
   |_=>a7 "loop: block"
  |_=>a7 "loop: no cell"
 | .mac kt vt=>match v with
  | .map b=>m9 fun s=>match s.get b with
   |some (.map L kt' vt')=>bif Nat.beq kt kt'&&Nat.beq vt vt' then c8 (some L,some b)else a7 "loop: map"
   |_=>a7 "loop: block"
  |_=>a7 "loop: no map"
 | .rwk b e z ph=>m9 fun s=>match s.get b with
  |some (.rows L e' z' ph')=>bif Nat.beq e e'&&Nat.beq z z' then a8 (j7 U (u5 (v6 ph' ph))) fun _=>c8 (some L,none)else a7 "loop: rows"
  |_=>a7 "loop: no rows"
 | .pp t=>match v with
  | .pptr t' L row 0=>bif Nat.beq t t' then c8 (some (.op .part [L,row,.int 1]),none)else a7 "pointer: type"
  |_=>a7 "no pointer to a value"
variable (U) in
def av0 :So->E->E->Prop
 | .i,e,d=>e.toI U=d.toI U
 | .b,e,d=>(e.den U).toBool=(d.den U).toBool
 | .s,e,d=>(e.den U).toStr=(d.den U).toStr
 | .l,e,d=>e.toR U=d.toR U
variable {τ :Tau}{F:Nat->Option Blk}{s:SS}{hp:Hp}
variable (P U) in
def br2 (τ:Tau)(F:Nat->Option Blk)(s:SS)(so:So)(mk:E->Option y4)(r:Option E×Option Nat):Prop:=
 ∃b L x',r.2=some b/\r.1=some L/\s.get b=some x'/\ ∀d,av0 U so L d-> ∃X,mk d=some X/\
  (∀(τ2:Tau) o y,BD P U τ F o x' y->BD P U τ2 F o X y)/\(E8 P U x'->E8 P U X)
variable (P U) in
def bF9 (τ:Tau)(F:Nat->Option Blk)(s:SS)(g:G)(r:Option E×Option Nat):Prop:=
 ∀d0 p,g.fix d0=some p->g.so=some .l/\ ∃L x',r.1=some L/\s.get p.1=some x'/\ ∀d,av0 U .l L d-> ∃X,g.fix d=some (p.1,X)/\
  (∀(τ2:Tau) o y,BD P U τ F o x' y->BD P U τ2 F o X y)/\(E8 P U x'->E8 P U X)
variable (P U) in
def MtOK (τ0:Tau)(τ:Tau)(F:Nat->Option Blk)(s:SS)(g:G)(a v:SV)(r:Option E×Option Nat):Prop:=
 (∀so,g.so=some so-> ∃e,r.1=some e)/\(g.so=none->r.1=none)/\(g.na=0->r.2=none)/\
 (∀x,VD P U τ F v x-> ∀(τ2:Tau) (nb:Nat) (d:E),(∀b p,τ0 b=some p->τ2 b=τ b)->(∃F0 x0,VD P U τ0 F0 a x0)->(∀e so,r.1=some e->g.so=some so->av0 U so e d)->(∀b,r.2=some b->τ2 nb=τ b)->VD P U τ2 F (tv g a d nb) x)/\
 (g.na≠0-> ∃so,g.so=some so/\br2 P U τ F s so (g.blk a) r)/\bF9 P U τ F s g r
theorem bv6 (τ0 : Tau) (g : G) (a v : SV) : OKp U (mt1 U g a v) s fun r => ∀ s', s'.h = s.h → MtOK P U τ0 τ F s' g a v r := by
 cases g with
 |keep=>
  simp only[mt1];cases h:svk a v with
  |false=>exact OKp.fail
  |true=>
   have:=bH3 h;subst this;exact OKp.ret fun s' _=>⟨fun so h=>(by cases h),fun _=>rfl,fun _=>rfl,fun x hx τ2 nb d hk ⟨F0,x0,h0⟩ _ _=>h0.re hx hk,fun h=>absurd rfl h,fun d0 p h=>(by cases h)⟩
 |any=>
  simp only[mt1];exact OKp.ret fun s' _=>⟨fun so h=>(by cases h),fun _=>rfl,fun _=>rfl,fun x hx τ2 nb d hk _ _ _=>.any x,fun h=>absurd rfl h,fun d0 p h=>(by cases h)⟩
 |int k=>
  simp only[mt1];split
  ·rename_i k' e
   cases h:decide (k=k')with
   |false=>exact OKp.fail
   |true=>
    rw[bK0]at h;subst h;refine OKp.ret fun s' _=>⟨fun so h=>⟨e,rfl⟩,fun h=>(by cases h),fun _=>rfl,fun x hx τ2 nb d hk _ hd _=>?_,fun h=>absurd rfl h,fun d0 p h=>(by cases h)⟩
    have:=hd e .i rfl rfl;cases hx;show VD P U τ2 F (.int k d) _;rw[show e.toI U=d.toI U from this];exact .int k d
  ·exact OKp.fail
 |bool=>
  simp only[mt1];split
  ·rename_i e
   refine OKp.ret fun s' _=>⟨fun so h=>⟨e,rfl⟩,fun h=>(by cases h),fun _=>rfl,fun x hx τ2 nb d hk _ hd _=>?_,fun h=>absurd rfl h,fun d0 p h=>(by cases h)⟩
   have:=hd e .b rfl rfl;cases hx;show VD P U τ2 F (.bool d) _;rw[show(e.den U).toBool=(d.den U).toBool from this];exact .bool d
  ·exact OKp.fail
 |str=>
  simp only[mt1];split
  ·rename_i e
   refine OKp.ret fun s' _=>⟨fun so h=>⟨e,rfl⟩,fun h=>(by cases h),fun _=>rfl,fun x hx τ2 nb d hk _ hd _=>?_,fun h=>absurd rfl h,fun d0 p h=>(by cases h)⟩
   have:=hd e .s rfl rfl;cases hx;show VD P U τ2 F (.str d) _;rw[show(e.den U).toStr=(d.den U).toStr from this];exact .str d
  ·exact OKp.fail
 |lst t=>
  simp only[mt1];split
  ·rename_i t' L clip
   cases h:Nat.beq t t' with
   |false=>exact OKp.fail
   |true=>
    have:=bI4 h;subst this;refine OKp.ret fun s' _=>⟨fun so h=>⟨L,rfl⟩,fun h=>(by cases h),fun _=>rfl,fun x hx τ2 nb d hk _ hd _=>?_,fun h=>absurd rfl h,fun d0 p h=>(by cases h)⟩
    have:=hd L .l rfl rfl;cases hx with
    |lst _ _ _ _ hp hc=>exact .lst t d false x (by rw[<-show L.toR U=d.toR U from this];exact hp) (fun h=>by cases h)
  ·exact OKp.fail
 |clp t=>
  simp only[mt1];split
  ·rename_i t' L clip
   cases h:clip&&Nat.beq t t' with
   |false=>exact OKp.fail
   |true=>
    rw[bI0]at h;obtain⟨rfl,h⟩:=h;have:=bI4 h;subst this;refine OKp.ret fun s' _=>⟨fun so h=>⟨L,rfl⟩,fun h=>(by cases h),fun _=>rfl,fun x hx τ2 nb d hk _ hd _=>?_,fun h=>absurd rfl h,fun d0 p h=>(by cases h)⟩
    have:=hd L .l rfl rfl;cases hx with
    |lst _ _ _ _ hp hc=>exact .lst t d true x (by rw[<-show L.toR U=d.toR U from this];exact hp) hc
  ·exact OKp.fail
 |itr s0=>
  simp only[mt1];split
  ·rename_i b z m f
   refine OKp.read ?_;split
   ·rename_i s' pos hb
    cases hc:Nat.beq z 1&&decide (m=0)&&Nat.beq f 0 with
    |false=>exact OKp.fail
    |true=>
     simp only[bI0,bL9,bK0]at hc;obtain⟨⟨rfl,rfl⟩,rfl⟩:=hc;refine OKp.need.bind fun _ s1 o1 _ n1=>OKp.ret fun s2 hs2=>?_
     have heq:(s'.den U).toStr=(s0.den U).toStr:=by
      have:=(E.pr_iff U _).1 n1;rw[P9]at this
      grind
     refine⟨fun so h=>⟨pos,rfl⟩,fun h=>(by cases h),fun h=>(by cases h),fun x hx τ2 nb d hk _ hd hbb=>?_,fun _=>⟨.i,rfl,b,pos,.iter s' pos,rfl,rfl,by unfold SS.get;rw[hs2];exact hb,fun d hd=>⟨_,rfl,?_,?_⟩⟩,fun d0 p h=>(by cases h)⟩
     ·cases hx with
      |ptr _ _ _ _ i o h h0=>exact .ptr nb 1 (.int 0) 0 i o (by rw[hbb b rfl];exact h) h0
     ·rintro τ2 o y ⟨e0,n,e1,e2⟩
      exact⟨e0,n,by rw[<-heq];exact e1,by rw[<-e2];exact hd.symm⟩
     ·rintro ⟨L,e,z,ph,h,_⟩
      cases h
   ·exact OKp.fail
  ·exact OKp.fail
 |mac kt vt=>
  simp only[mt1];split
  ·rename_i b
   refine OKp.read ?_;split
   ·rename_i L kt' vt' hb
    cases hc:Nat.beq kt kt'&&Nat.beq vt vt' with
    |false=>exact OKp.fail
    |true=>
     simp only[bI0,bL9]at hc;obtain⟨rfl,rfl⟩:=hc;refine OKp.ret fun s2 hs2=>?_
     refine⟨fun so h=>⟨L,rfl⟩,fun h=>(by cases h),fun h=>(by cases h),fun x hx τ2 nb d hk _ hd hbb=>?_,fun _=>⟨.l,rfl,b,L,.map L kt vt,rfl,rfl,by unfold SS.get;rw[hs2];exact hb,fun d hd=>⟨_,rfl,?_,?_⟩⟩,fun d0 p h=>(by cases h)⟩
     ·cases hx with
      |map _ i o h=>exact .map nb i o (by rw[hbb b rfl];exact h)
     ·rintro τ2 o y ⟨h0,es,reg,h1,h2⟩
      exact⟨h0,es,reg,h1,by rw[<-show L.toR U=d.toR U from hd];exact h2⟩
     ·rintro ⟨L,e,z,ph,h,_⟩
      cases h
   ·exact OKp.fail
  ·exact OKp.fail
 |cel k t=>
  simp only[mt1];split
  ·rename_i b z m f
   refine OKp.read ?_;split
   ·rename_i k' e t' z' hb
    cases hc:Nat.beq z 1&&decide (m=0)&&Nat.beq f 0&&Nat.beq z' 1&&Nat.beq t t'&&decide (k=k')with
    |false=>exact OKp.fail
    |true=>
     simp only[bI0,bL9,bK0]at hc;obtain⟨⟨⟨⟨⟨rfl,rfl⟩,rfl⟩,rfl⟩,rfl⟩,rfl⟩:=hc;refine OKp.ret fun s2 hs2=>?_
     refine⟨fun so h=>⟨e,rfl⟩,fun h=>(by cases h),fun h=>(by cases h),fun x hx τ2 nb d hk _ hd hbb=>?_,fun _=>⟨.i,rfl,b,e,.cells [.int k e] t 1,rfl,rfl,by unfold SS.get;rw[hs2];exact hb,fun d hd=>⟨_,rfl,?_,?_⟩⟩,fun d0 p h=>(by cases h)⟩
     ·cases hx with
      |ptr _ _ _ _ i o h h0=>exact .ptr nb 1 (.int 0) 0 i o (by rw[hbb b rfl];exact h) h0
     ·rintro τ2 o y ⟨cs,n,e0,e1,e2⟩
      refine⟨cs,n,e0,e1,fun j a ha=>?_⟩
      have hj:j=0:=by grind
      subst hj;obtain⟨x,h1,h2⟩:=e2 0 (.int k e) rfl;simp at ha;subst ha;refine⟨x,h1,?_⟩;cases h2;rw[show e.toI U=d.toI U from hd];exact .int k d
     ·rintro ⟨L,e,z,ph,h,_⟩
      cases h
   ·exact OKp.fail
  ·exact OKp.fail
 |pp t=>
  simp only[mt1];split
  ·rename_i t' L row
   cases h:Nat.beq t t' with
   |false=>exact OKp.fail
   |true=>
    have:=bI4 h;subst this;refine OKp.ret fun s' _=>⟨fun so h=>⟨_,rfl⟩,fun h=>(by cases h),fun _=>rfl,fun x hx τ2 nb d hk _ hd _=>?_,fun h=>absurd rfl h,fun d0 p h=>(by cases h)⟩
    have hd:=hd _ .l rfl rfl;have hd:part (L.toR U) (row.toI U) 1=d.toR U:=hd;cases hx with
    |pptr _ _ _ _ i o l c hp h0 h1=>
     generalize hrows:L.toR U=rows at hp h1 hd;cases hp with
     |sl _ _ _ _ b cs n z rows xx hF hb hc hn hz hr hx hpx=>
      have hcap:aH5 (1:Int).toNat c/\roC b c _ z:=⟨by
       rcases hc.1 with⟨q1,q2⟩| ⟨lo,q1,q2,q3⟩
       ·exact .inl ⟨q1,by have:(1:Int).toNat=1:=rfl;omega⟩
       ·exact .inr ⟨lo,q1,q2,by have:(1:Int).toNat=1:=rfl;omega⟩,hc.2⟩
      have:=PV.cut (P:=P) (F:=F) hF hb hn hz hr hx hpx h0 (show(0:Int)<=1 by omega) (by omega) hcap
      rw[hd]at this;have hl1:((d.toR U).length:Int)=1:=by rw[<-hd,O0 h0 (by omega) (by omega)];rfl
      exact VD.pptr' (row:= .int 0) this (bO3 0) (by rw[z8];omega) (by rw[<-hz];show _=o+(row.toI U).toNat*z+(0:Int).toNat*z+0;simp)
  ·exact OKp.fail
 |rwk b e z ph=>
  simp only[mt1];refine OKp.read ?_;split
  ·rename_i L e' z' ph' hb
   cases hc:Nat.beq e e'&&Nat.beq z z' with
   |false=>exact OKp.fail
   |true=>
    simp only[bI0,bL9]at hc;obtain⟨rfl,rfl⟩:=hc;rw[bJ6];refine OKp.need.bind fun _ s1 o1 _ n1=>OKp.ret fun s' hs'=>?_
    have hph:=w9 n1;refine⟨fun so h=>⟨L,rfl⟩,fun h=>(by cases h),fun _=>rfl,fun x hx τ2 nb d hk _ _ _=>.any x,fun h=>absurd rfl h,fun d0 p h=>⟨rfl,L,.rows L e z ph',rfl,?_,fun d hd=>⟨.rows d e z ph,?_,?_,?_⟩⟩⟩
    ·simp only[G.fix,bH9]at h
     subst h;unfold SS.get;rw[hs'];exact hb
    ·simp only[G.fix,bH9]at h
     subst h;rfl
    ·rintro τ2 o y ⟨cs,n,h1,h2,h3⟩
     have hR:L.toR U=d.toR U:=hd;refine⟨cs,n,h1,by rw[<-hR];exact h2,?_⟩
     have:ph.toN U<=ph'.toN U:=by show(ph.toI U).toNat<=(ph'.toI U).toNat;omega
     have:=bJ2 z this;omega
    ·rintro ⟨L',e',z',ph0,h1,h2,h3,h4⟩
     have hR:L.toR U=d.toR U:=hd;cases h1;exact⟨d,e,z,ph,rfl,by rw[<-hR];exact h2,h3,by omega⟩
  ·exact OKp.fail
 | acc e z =>
  simp only[mt1];split
  ·rename_i b z' m len cap
   refine OKp.read ?_;split
   ·rename_i L e' z'' ph hb
    cases hc:Nat.beq e e'&&Nat.beq z z'&&Nat.beq z z''&&decide (m=0)with
    |false=>exact OKp.fail
    | true =>
     simp only[bI0,bL9,bK0]at hc;obtain⟨⟨⟨rfl,rfl⟩,rfl⟩,rfl⟩:=hc;rw[bJ6];refine OKp.need.bind fun _ s1 o1 _ n1=>z6.bind fun D s2 o2 _ hD=>?_
     have hlen:len.toI U<=((L.toR U).length:Int):=by have:=w9 n1;rwa[d9]at this
     have hDR:D.toR U=(L.toR U).take (len.toN U):=by
      show(D.den U).rows=_;rw[hD];show part (L.toR U) 0 (len.toI U)=_;unfold part;simp
     have key : ∀ (hcap : ∀ (c : Nat) (n : E), n.toI U = len.toI U → az5 U len cap c → az5 U n (ac8 a) c) (hcap0 : ∀ c, ac8 a = .ex c → ∃ c', cap = .ex c' ∧ c'.toI U = c.toI U)
       (hph:∀c,ac8 a= .ex c->c.toI U<=ph.toI U) (s':SS),s'.h=s.h->MtOK P U τ0 τ F s' (.acc e z) a (.sl b z (.int 0) len cap) (some D,some b):=by
      intro hcap hcap0 hph s' hs';have hlD:∀ {d:E},av0 U .l D d->d.toR U=(L.toR U).take (len.toN U):=fun h=>by rw[<-hDR];exact h.symm
      refine⟨fun so _=>⟨D,rfl⟩,fun h=>(by cases h),fun h=>(by cases h),fun x hx τ2 nb d hk _ hd hbb=>?_,fun _=>⟨.l,rfl,?_⟩,fun d0 p h=>(by cases h)⟩
      ·have hR:=hlD (hd D .l rfl rfl)
       have hτ:=hbb b rfl;have hle0:0<=len.toI U:=by cases hx<;>omega
       have hl1:(y6 d).toI U=len.toI U:=by
        rw[d9,hR,bL4]
        grind
       have hl2:(y6 d).toN U=len.toN U:=by grind
       cases hx with
       |sl _ _ _ _ _ i o c k1 k2 k3 k4=>
        show VD P U τ2 F (.sl nb z (.int 0) (y6 d) (ac8 a)) _;rw[<-hl2];exact .sl nb z (.int 0) (y6 d) (ac8 a) i o c (by rw[hτ];exact k1) (bO3 0) (by omega) (hcap c _ hl1 k4)
       |sl0 _ _ _ _ _ k1 k2 k3 k4=>
        refine .sl0 nb z (.int 0) (y6 d) (ac8 a) (by rw[hτ];exact k1) rfl (by omega) fun c hc=>?_
        grind
      ·refine⟨b,D,.rows L e z ph,rfl,rfl,by unfold SS.get;rw[hs'];exact hb,fun d hd=>⟨_,rfl,?_⟩⟩
       have hR:=hlD hd;have hll:(d.toR U).length<=(L.toR U).length:=by grind
       constructor
       ·rintro τ2 o y ⟨cs,n,h1,⟨h2,h3,h4,h5⟩,h6⟩
        refine⟨cs,n,h1,⟨?_,h3,fun r hr=>h4 r ?_,fun r k row dd hr hkd=>h5 r k row dd ?_ hkd⟩,?_⟩
        ·have:=bJ2 z hll;omega
        ·grind
        ·grind
        ·cases hca:ac8 a with
         |ge=>
          have:(phOf d .ge).toN U=(d.toR U).length:=by show((y6 d).toI U).toNat=_;rw[d9];omega
          rw[this];have:=bJ2 z hll;omega
         |un=>
          have:(phOf d .un).toN U=(d.toR U).length:=by show((y6 d).toI U).toNat=_;rw[d9];omega
          rw[this];have:=bJ2 z hll;omega
         |ex c=>
          have h7:=hph c hca;have:(phOf d (.ex c)).toN U<=ph.toN U:=by show(c.toI U).toNat<=(ph.toI U).toNat;omega
          have:=bJ2 z this;omega
       ·rintro ⟨L',e',z',ph',h1,h2,h3,h4⟩
        cases h1;refine⟨d,e,z,_,rfl,by rw[hR,h2];simp,h3,?_⟩
        cases hca:ac8 a with
        |ge=>show(y6 d).toI U<=0;rw[d9,hR,h2];simp
        |un=>show(y6 d).toI U<=0;rw[d9,hR,h2];simp
        |ex c=>have h7:=hph c hca;show c.toI U<=0;omega
     split
     ·rename_i ha
      refine OKp.ret (key (fun c n hn hc=>?_) (fun c hc=>by rw[ha]at hc;cases hc) (fun c hc=>by rw[ha]at hc;cases hc))
      rw[ha];obtain⟨lo,h1,h2,h3⟩:=hc;exact Or.inr ⟨lo,h1,h2,by omega⟩
     ·rename_i ha
      refine OKp.ret (key (fun c n hn hc=>?_) (fun c hc=>by rw[ha]at hc;cases hc) (fun c hc=>by rw[ha]at hc;cases hc))
      rw[ha]
      rcases hc with⟨h1,h2,h3⟩| ⟨lo,h1,h2,h3⟩
      ·exact Or.inl ⟨h1,by rw[h2];show(len.toI U).toNat=(n.toI U).toNat;rw[hn],by omega⟩
      ·exact Or.inr ⟨lo,h1,h2,by omega⟩
     ·rename_i ha
      refine OKp.ret (key (fun c n hn hc=>?_) (fun c hc=>by rw[ha]at hc;cases hc) (fun c hc=>by rw[ha]at hc;cases hc))
      rw[ha];obtain⟨lo,h1,h2,h3⟩:=hc;exact⟨lo,h1,h2,by omega⟩
     ·rename_i c' ha
      refine OKp.need.bind fun _ s3 _ _ n2=>OKp.need.bind fun _ s4 _ _ n3=>?_
      have e1:=af7 n2;have e2:=A5 n3;simp only[z8]at e2;refine OKp.ret (key (fun k n hn hc=>?_) (fun c hc=>by rw[ha]at hc;cases hc) (fun c hc=>by rw[ha]at hc;cases hc))
      rw[ha];obtain⟨h1,h2,h3,h4⟩:=hc;exact Or.inl ⟨h3,by rw[h2];show(c'.toI U).toNat=(n.toI U).toNat;rw[e1,hn],by omega⟩
     ·rename_i c c' ha
      refine OKp.need.bind fun _ s3 _ _ n2=>OKp.need.bind fun _ s4 _ _ n3=>?_
      have e1:=af7 n2;have e2:=w9 n3;refine OKp.ret (key (fun k n hn hc=>?_) (fun c2 hc=>?_) (fun c2 hc=>?_))
      ·rw[ha]
       obtain⟨h1,h2,h3,h4⟩:=hc;exact⟨by omega,by rw[h2];show(c'.toI U).toNat=(c.toI U).toNat;rw[e1],h3,by omega⟩
      ·rw[ha]at hc;cases hc;exact⟨c',rfl,e1⟩
      ·rw[ha]at hc;cases hc;exact e2
     ·exact OKp.fail
   ·exact OKp.fail
  ·exact OKp.fail
end
end Go.Sx
namespace Go.Sx
open Go.Xe
section
variable {P :Program}{U:Nat->List Dat->Dat}
theorem PV.lst_eq {F:Nat->Option Blk}{e:TypeId}{v:Value}{d:Dat}(h:PV P F (.sl e) v d):d= .lst d.rows:=by cases h<;>rfl
theorem aU0 {τ : Tau} {F : Nat → Option Blk} {s : SS} {hp : Hp} (g : G) {v : SV} {x : Value} (hv : VD P U τ F v x) (hs : SD P U τ F s hp) :
  OKh P U (aB4 P U g v) τ F s hp fun v' τ' F' hp'=>hp'=hp/\VD P U τ' F' v' x:=by
 cases g with
 |lst t=>
  simp only[aB4];refine(ag2 20 (.sl t) v x τ F s hp hv hs).bind fun e τ1 F1 s1 hp1 _ hs1 ⟨h1,h2,h3⟩=>OKh.ret ⟨h2,?_⟩
  have:=h3.lst_eq;rw[this]at h3;exact .lst t e false x h3 (fun h=>by cases h)
 |clp t=>
  simp only[aB4];split
  ·rename_i t' L c
   cases c with
   |false=>exact OKh.fail
   |true=>exact OKh.ret ⟨rfl,hv⟩
  ·cases hv
   exact OKh.ret ⟨rfl,.lst t _ true _ (.nils t) (fun _=>⟨_,_,rfl⟩)⟩
  ·rename_i b z off len c
   refine OKh.bindp OKp.need fun _ s1 o1 hs1 p1=>?_
   have p1:=af7 p1;refine(ag2 20 (.sl t) _ x τ F s1 hp hv hs1).bind fun e τ1 F1 s2 hp1 _ hs2 ⟨h1,h2,h3⟩=>OKh.ret ⟨h2,?_⟩
   have:=h3.lst_eq;rw[this]at h3;refine .lst t e true x h3 (fun _=>?_)
   cases hv with
   |sl _ _ _ _ _ i o c' k1 k2 k3 k4=>
    obtain⟨q1,q2,q3,q4⟩:=k4
    grind
   |sl0=>grind
  ·exact OKh.fail
 |acc e z=>
  simp only[aB4];split
  ·rename_i b z' off len cap
   refine(ad6 hs).bind fun _ τ1 F1 s1 hp1 _ hs1 ⟨h1,h2,h3⟩=>OKh.ret ⟨h3,?_⟩
   grind
  ·cases hz:Nat.beq z (kf P e).length with
   |false=>exact OKh.fail
   |true=>
    rw[bJ6];have hz':=bI4 hz;refine OKh.bind (R:=fun b τ' F' hp'=>hp'=hp/\τ' b=some none) ?_ fun b τ1 F1 s1 hp1 _ hs1 ⟨h1,h2⟩=>OKh.ret ⟨h1,?_⟩
    ·intro Q hq _
     obtain⟨h1,h2⟩:=hs.alloc (x:= .rows (.op .nil []) e z (.int 0)) (p:=none) (hp':=hp) (bK2 _) (fun _ _=>rfl) (.inr ⟨rfl,_,_,_,_,rfl,rfl,hz',bO3 0⟩)
     exact⟨s.nx,_,hq,_,F,hp,h1,h2,rfl,l8 _ _ _⟩
    ·cases hv
     exact .sl0 b z (.int 0) (.int 0) .ge h2 rfl rfl (fun e h=>by cases h)
  ·exact OKh.fail
 |keep=>exact OKh.ret ⟨rfl,hv⟩
 |any=>exact OKh.ret ⟨rfl,hv⟩
 |int k=>exact OKh.ret ⟨rfl,hv⟩
 |bool=>exact OKh.ret ⟨rfl,hv⟩
 |str=>exact OKh.ret ⟨rfl,hv⟩
 |itr s=>exact OKh.ret ⟨rfl,hv⟩
 |cel k t=>exact OKh.ret ⟨rfl,hv⟩
 |mac kt vt=>exact OKh.ret ⟨rfl,hv⟩
 |rwk b e z ph=>exact OKh.ret ⟨rfl,hv⟩
 |pp t=>
  simp only[aB4];split
  ·rename_i b z
   refine OKh.read ?_;split
   ·rename_i l e z' hb
    cases hv with
    |ptr _ _ _ _ i o h h0=>
     have hsl:VD P U τ F (.sl b z (.int 0) (.int 1) (.ex (.int 1))) (.slice (some ⟨i,o+(E.int 0).toN U*z,none⟩) ((E.int 1).toN U) 1):=
      .sl b z (.int 0) (.int 1) (.ex (.int 1)) i o 1 h (bO3 0) (by rw[z8];omega) ⟨by rw[z8];omega,rfl,by unfold unk;omega,bO3 _⟩
     refine(ag2 20 (.sl t) _ _ τ F s hp hsl hs).bind fun e τ1 F1 s1 hp1 _ hs1 ⟨h1,h2,h3⟩=>OKh.bindp OKp.need fun _ s2 o2 hs2 p1=>OKh.ret ⟨h2,?_⟩
     have p1:=af7 p1;rw[d9,z8]at p1;have:=h3.lst_eq;rw[this]at h3;exact VD.pptr' (row:= .int 0) h3 (bO3 0) (by rw[z8];show(0:Int)<(e.toR U).length;omega) (by show o+(0:Int).toNat*z+0=o+(0:Int).toNat*z+(0:Int).toNat*_+0;simp)
   ·exact OKh.ret ⟨rfl,hv⟩
  ·exact OKh.ret ⟨rfl,hv⟩
theorem aN1 : ∀ (ps : List Pl) (vs : List SV) (xs : List Value) (τ : Tau) (F : Nat → Option Blk) (s : SS) (hp : Hp), VDL P U τ F vs xs → SD P U τ F s hp →
  OKh P U (norm P U ps vs) τ F s hp fun vs' τ' F' hp'=>hp'=hp/\VDL P U τ' F' vs' xs
 | [],[],xs,τ,F,s,hp,hv,hs=>OKh.ret ⟨rfl,hv⟩
 | [],v::vs,xs,τ,F,s,hp,hv,hs=>OKh.fail
 |p::ps,[],xs,τ,F,s,hp,hv,hs=>OKh.fail
 |p::ps,v::vs,xs,τ,F,s,hp,hv,hs=>by
  obtain⟨y,ys,rfl,h1,h2⟩:=hv.uncons;unfold norm;refine(aU0 p.g h1 hs).bind fun v' τ1 F1 s1 hp1 ex hs1 ⟨e1,e2⟩=>(aN1 ps vs ys τ1 F1 s1 hp1 (h2.mono ex.t ex.f) hs1).bind fun vs' τ2 F2 s2 hp2 ex2 hs2 ⟨k1,k2⟩=>OKh.ret ⟨by rw[k1,e1],.cons (e2.mono ex2.t ex2.f) k2⟩
def L7 {α:Type}:Option α->List α->List α
 |some a,l=>a::l
 |none,l=>l
def mtP (U:Nat->List Dat->Dat):List Pl->List SV->M (List E×List Nat)
 |p::l,v::vs=>a8 (mt1 U p.g p.a v) fun r=>a8 (mtP U l vs) fun t=>c8 (L7 r.1 t.1,L7 r.2 t.2)
 | [],[]=>c8 ([],[])
 |_,_=>a7 "loop: places"
def sos :List Pl->List So
 | []=>[]
 |p::l=>L7 p.g.so (sos l)
def rbs :List Pl->List Nat
 | []=>[]
 |p::l=>match p.g.fix (.int 0)with
  |some q=>q.1::rbs l
  |none=>rbs l
theorem G.fix_num {g:G}{d:E}{q:Nat×y4}(h:g.fix d=some q)(d':E):∃X,g.fix d'=some (q.1,X):=by
 cases g with
 |rwk b e z ph=>simp only[G.fix,bH9]at h;subst h;exact⟨_,rfl⟩
 |_=>cases h
variable (U) in
def W7 :List So->List E->List E->Prop
 |k::ks,e::es,d::ds=>av0 U k e d/\W7 ks es ds
 | [],[],[]=>True
 |_,_,_=>False
variable (P U) in
def ab0 (τ0 τ:Tau)(F:Nat->Option Blk)(s:SS):List Pl->List SV->List E->List Nat->Prop
 | [],[],es,bs=>es=[]/\bs=[]
 |p::l,v::vs,es,bs=>∃r es' bs',es=L7 r.1 es'/\bs=L7 r.2 bs'/\MtOK P U τ0 τ F s p.g p.a v r/\ab0 τ0 τ F s l vs es' bs'
 |_,_,_,_=>False
theorem bb4 {τ:Tau}{F:Nat->Option Blk}(τ0:Tau):∀(ps:List Pl) (vs:List SV) (s:SS),OKp U (mtP U ps vs) s fun r=>∀s',s'.h=s.h->ab0 P U τ0 τ F s' ps vs r.1 r.2
 | [],[],s=>OKp.ret fun _ _=>⟨rfl,rfl⟩
 | [],_::_,s=>OKp.fail
 |_::_,[],s=>OKp.fail
 |p::ps,v::vs,s=>by
  unfold mtP;refine(bv6 (P:=P) (τ:=τ) (F:=F) τ0 p.g p.a v).bind fun r s1 o1 _ h1=>(bb4 (τ:=τ) (F:=F) τ0 ps vs s1).bind fun t s2 o2 _ h2=>OKp.ret fun s' hs'=>?_
  exact⟨r,t.1,t.2,rfl,rfl,h1 s' hs',h2 s' (by rw[hs',o1.h])⟩
section
variable {τ0 τ:Tau}{F:Nat->Option Blk}{s:SS}
theorem G.blk_none {g:G}(h:g.na=0)(a:SV)(d:E):g.blk a d=none:=by
 cases g with
 |acc e z=>cases h
 |itr s=>cases h
 |cel k t=>cases h
 |mac kt vt=>cases h
 |_=>rfl
theorem G.na_le (g:G):g.na=0\/g.na=1:=by cases g<;>simp[G.na]
theorem aT7 {p : Pl} {ps : List Pl} {v : SV} {r : Option E × Option Nat} {es' : List E} {ds : List E} (h : MtOK P U τ0 τ F s p.g p.a v r) (hd : W7 U (sos (p :: ps)) (L7 r.1 es') ds) :
  (∀e so,r.1=some e->p.g.so=some so->av0 U so e (hd1 ds))/\W7 U (sos ps) es' (pop p.g ds)/\
  (∀b,r.2=some b->p.g.na=1)/\(p.g.na=0\/p.g.na=1):=by
 obtain⟨m1,m2,m3,m4,m5⟩:=h;have hna:p.g.na=0\/p.g.na=1:=p.g.na_le;refine⟨?_,?_,fun b hb=>?_,hna⟩
 ·intro e so he hso
  unfold sos at hd;rw[hso,he]at hd;cases ds with
  |nil=>exact hd.elim
  |cons d ds=>exact hd.1
 ·unfold sos at hd
  cases hso:p.g.so with
  |none=>
   rw[hso,m2 hso]at hd;unfold pop;rw[hso];exact hd
  |some so=>
   obtain⟨e,he⟩:=m1 so hso;rw[hso,he]at hd;cases ds with
   |nil=>exact hd.elim
   |cons d ds=>unfold pop;rw[hso];exact hd.2
 ·grind
theorem ab0.vals : ∀ {ps : List Pl} {vs : List SV} {es : List E} {bs : List Nat} {ds : List E} {xs : List Value} {τ2 : Tau} {nb : Nat}, ab0 P U τ0 τ F s ps vs es bs → W7 U (sos ps) es ds →
  (∀b p,τ0 b=some p->τ2 b=τ b)->(∀k b,bs[k]? =some b->τ2 (nb+k)=τ b)->(∀p∈ps,∃F0 x0,VD P U τ0 F0 p.a x0)->VDL P U τ F vs xs->
  ∀(i:Nat) q x,(S6 ps ds nb)[i]? =some q->xs[i]? =some x->VD P U τ2 F q.2 x
 | [],vs,es,bs,ds,xs,τ2,nb,h,hd,hk,hb,ha,hx=>fun i q x hq _=>by simp[S6]at hq
 |p::ps,[],es,bs,ds,xs,τ2,nb,h,hd,hk,hb,ha,hx=>h.elim
 |p::ps,v::vs,es,bs,ds,xs,τ2,nb,h,hd,hk,hb,ha,hx=>by
  obtain⟨r,es',bs',rfl,rfl,hm,hms⟩:=h;obtain⟨y,ys,rfl,h1,h2⟩:=hx.uncons;obtain⟨s1,s2,s3,s4⟩:=aT7 hm hd;intro i q x hq hxi;cases i with
  |zero=>
   simp only[S6,bJ5,bH9]at hq hxi;subst hq;subst hxi;refine hm.2.2.2.1 y h1 τ2 nb (hd1 ds) hk (ha p (by simp)) s1 fun b hr=>?_
   have:=hb 0 b (by rw[hr];rfl)
   grind
  |succ i=>
   simp only[S6,bJ0]at hq hxi;refine ab0.vals hms s2 hk (fun k b hkb=>?_) (fun p hp=>ha p (by simp[hp])) h2 i q x hq hxi
   rcases s4 with h0|h0
   ·rw[h0,bO5]
    have hr:r.2=none:=hm.2.2.1 h0;rw[hr]at hb;exact hb k b hkb
   ·obtain⟨so,_,b',L,x',hr,_⟩:=hm.2.2.2.2.1 (by omega)
    rw[hr]at hb;have:=hb (k+1) b hkb
    grind
theorem ab0.blks : ∀ {ps : List Pl} {vs : List SV} {es : List E} {bs : List Nat} {ds : List E} {nb : Nat}, ab0 P U τ0 τ F s ps vs es bs → W7 U (sos ps) es ds →
  ∀b' y,lk (ab9 ps ds nb) b'=some y->(∃k b X x',b'=nb+k/\bs[k]? =some b/\y=some X/\s.get b=some x'/\(∀(τ2:Tau) o z,BD P U τ F o x' z->BD P U τ2 F o X z)/\(E8 P U x'->E8 P U X))\/
   (∃X x',b'∈rbs ps/\y=some X/\s.get b'=some x'/\(∀(τ2:Tau) o z,BD P U τ F o x' z->BD P U τ2 F o X z)/\(E8 P U x'->E8 P U X))
 | [],vs,es,bs,ds,nb,h,hd=>fun b' y hy=>by simp[ab9,lk]at hy
 |p::ps,[],es,bs,ds,nb,h,hd=>h.elim
 |p::ps,v::vs,es,bs,ds,nb,h,hd=>by
  obtain⟨r,es',bs',rfl,rfl,hm,hms⟩:=h;obtain⟨s1,s2,s3,s4⟩:=aT7 hm hd;intro b' y hy;have ih:=ab0.blks (nb:=nb+p.g.na) hms s2;have sub:∀b,b∈rbs ps->b∈rbs (p::ps):=fun b hb=>by
   unfold rbs
   grind
  by_cases hna:p.g.na=0
  ·have hr:r.2=none:=hm.2.2.1 hna
   cases hfx:p.g.fix (hd1 ds)with
   |none=>
    unfold ab9 at hy;rw[G.blk_none hna]at hy;simp only[hfx]at hy
    rcases ih b' y hy with⟨k,b,X,x',h1,h2⟩| ⟨X,x',h1,h2⟩
    ·exact Or.inl ⟨k,b,X,x',by rw[h1,hna,bO5],by rw[hr];exact h2⟩
    ·grind
   |some q=>
    unfold ab9 at hy;rw[G.blk_none hna]at hy;simp only[hfx]at hy;rw[t8]at hy;split at hy
    ·rename_i e1
     obtain⟨hso,L,x',k1,k2,k3⟩:=hm.2.2.2.2.2 _ _ hfx;obtain⟨X,k4,k5,k6⟩:=k3 (hd1 ds) (s1 L .l k1 hso);rw[hfx]at k4;simp only[bH9]at k4;simp only[bH9]at hy;have k7:q.2=X:=by rw[k4]
     rw[k7]at hy;subst e1;refine .inr ⟨X,x',?_,hy.symm,k2,k5,k6⟩;obtain⟨X0,hX0⟩:=G.fix_num hfx (.int 0);unfold rbs
     grind
    ·rcases ih b' y hy with⟨k,b,X,x',h1,h2⟩| ⟨X,x',h1,h2⟩
     ·exact Or.inl ⟨k,b,X,x',by rw[h1,hna,bO5],by rw[hr];exact h2⟩
     ·grind
  ·have hn1:p.g.na=1:=s4.resolve_left hna
   obtain⟨so,hso,b0,L,x',hr,hrL,hx,hbd⟩:=hm.2.2.2.2.1 hna;obtain⟨X0,hX,k1,k2⟩:=hbd (hd1 ds) (s1 L so hrL hso);have hy':lk ((nb,some X0)::ab9 ps (pop p.g ds) (nb+p.g.na)) b'=some y:=by
    unfold ab9 at hy
    grind
   rw[t8]at hy';split at hy'
   ·rename_i e1
    simp only[bH9]at hy';exact .inl ⟨0,b0,_,x',e1.symm,by rw[hr];rfl,hy'.symm,hx,k1,k2⟩
   ·rcases ih b' y hy' with⟨k,b,X,x'',h1,h2,h3⟩| ⟨X,x'',h1,h2⟩
    ·exact .inl ⟨k+1,b,X,x'',by rw[h1,hn1];omega,by rw[hr];exact h2,h3⟩
    ·grind
theorem al4 {b:Nat}:∀ {ps:List Pl} {ds:List E} {nb:Nat},b∈rbs ps->b∈(ab9 ps ds nb).map Prod.fst
 | [],ds,nb,h=>by simp[rbs]at h
 |p::ps,ds,nb,h=>by
  unfold rbs at h;cases hfx:p.g.fix (.int 0)with
  |none=>
   rw[hfx]at h;have ih:=al4 (ds:=pop p.g ds) (nb:=nb+p.g.na) h;unfold ab9
   grind
  |some q=>
   rw[hfx]at h;have hb:p.g.blk p.a (hd1 ds)=none:=by
    cases hg:p.g with
    |rwk b e z ph=>rfl
    |_=>rw[hg]at hfx;cases hfx
   obtain⟨X,hX⟩:=G.fix_num hfx (hd1 ds);unfold ab9;rw[hb,hX];simp only[bN0,bL7]at h⊢
   rcases h with h|h
   ·grind
   ·exact .inr (al4 (ds:=pop p.g ds) (nb:=nb+p.g.na) h)
end
end
end Go.Sx
namespace Go.Sx
open Go.Xe
def aD5 :List (At×SV)->Fm
 | []=>[]
 | (p,v)::l=>match p with
  | .tmp t=>(t,v)::aD5 l
  | .cell _ _=>aD5 l
  | .no=>aD5 l
def ba4 (b j:Nat):At->Bool
 | .tmp _=>false
 | .cell b' j'=>Nat.beq b b'&&Nat.beq j j'
 | .no=>false
def ap9 :List (At×SV)->Nat->Nat->SV
 | [],_,_=>.any
 | (p,v)::l,b,j=>bif ba4 b j p then v else ap9 l b j
def B8 (pv:List (At×SV))(b:Nat):Nat->Nat->List SV
 |_,0=>[]
 |j,n+1=>ap9 pv b j::B8 pv b (j+1) n
def ovB (s1:SS)(pv:List (At×SV)):List Nat->List (Nat×Option y4)
 | []=>[]
 |b::l=>match s1.get b with
  |some (.cells c e z)=>(b,some (.cells (B8 pv b 0 c.length) e z))::ovB s1 pv l
  |_=>ovB s1 pv l
def U1 :List Nat->List (Nat×Option y4)
 | []=>[]
 |b::l=>(b,none)::U1 l
def aT8 :List Pl->Nat
 | []=>0
 |p::l=>p.g.na+aT8 l
def ak0 (ps:List Pl)(ds:List E)(s1:SS)(bs0 kill:List Nat):List (Nat×Option y4):=ab9 ps ds s1.nx++(ovB s1 (S6 ps ds s1.nx) bs0++U1 (kill++ [s1.nx]))
def sT (ps:List Pl)(ds:List E)(s1:SS)(bs0 kill:List Nat):SS:= {s1 with h:=ak0 ps ds s1 bs0 kill++s1.h,nx:=s1.nx+aT8 ps}
def fT (ps:List Pl)(ds:List E)(s1:SS)(f0:Fm):Fm:=aD5 (S6 ps ds s1.nx)++f0
theorem C5 {α:Type}(l m:List (Nat×α))(b:Nat):lk (l++m) b=match lk l b with|some x=>some x|none=>lk m b:=by
 induction l with
 |nil=>rfl
 |cons p l ih=>
  obtain⟨k,x⟩:=p;rw[bO1,t8,t8]
  grind
theorem aM5 {α:Type}{b:Nat}:∀ {l:List (Nat×α)},lk l b=none->b∉l.map Prod.fst
 | [],_=>by simp
 | (k,y)::l,h=>by
  rw[t8]at h;split at h
  ·cases h
  ·rename_i e
   simp only[bN0,bL7,not_or];exact⟨fun h=>e h.symm,aM5 h⟩
theorem Q7 {b:Nat}:∀ {l:List Nat},lk (U1 l) b=if b∈l then some none else none
 | []=>by simp[U1,lk]
 |k::l=>by
  rw[U1,t8,Q7]
  grind
theorem ah8 (pv:List (At×SV))(b:Nat):∀(n j:Nat),(B8 pv b j n).length=n
 |0,_=>rfl
 |n+1,j=>by simp[B8,ah8 pv b n]
theorem az6 (pv:List (At×SV))(b:Nat):∀(n j i:Nat) (a:SV),(B8 pv b j n)[i]? =some a->i<n/\a=ap9 pv b (j+i)
 |0,j,i,a,h=>by simp[B8]at h
 |n+1,j,0,a,h=>by simp only[B8,bJ5,bH9]at h;exact⟨by omega,h.symm⟩
 |n+1,j,i+1,a,h=>by
  simp only[B8,bJ0]at h;obtain⟨h1,h2⟩:=az6 pv b n (j+1) i a h
  grind
theorem au1 {b j:Nat}:∀(pv:List (At×SV)),ap9 pv b j= .any\/ ∃(i:Nat) (q:At×SV),pv[i]? =some q/\q.1= .cell b j/\ap9 pv b j=q.2
 | []=>.inl rfl
 | (p,v)::l=>by
  unfold ap9;cases hc:ba4 b j p with
  |true=>
   refine .inr ⟨0,(p,v),rfl,?_,rfl⟩;cases p with
   |tmp t=>cases hc
   |no=>cases hc
   |cell b' j'=>
    simp only[ba4,bI0,bL9]at hc
    grind
  |false=>
   rcases au1 l with h| ⟨i,q,h1,h2,h3⟩
   ·exact .inl h
   ·exact .inr ⟨i+1,q,h1,h2,h3⟩
theorem ao1 {k:Nat}{a:SV}:∀(pv:List (At×SV)),lk (aD5 pv) k=some a-> ∃(i:Nat) (q:At×SV),pv[i]? =some q/\q.1= .tmp k/\q.2=a
 | [],h=>by cases h
 | (p,v)::l,h=>by
  unfold aD5 at h;split at h
  ·rename_i t
   rw[t8]at h;split at h
   ·rename_i e
    simp only[bH9]at h;exact⟨0,(.tmp t,v),rfl,by rw[e],h⟩
   ·obtain⟨i,q,h1,h2⟩:=ao1 l h
    exact⟨i+1,q,h1,h2⟩
  ·obtain⟨i,q,h1,h2⟩:=ao1 l h
   exact⟨i+1,q,h1,h2⟩
  ·obtain⟨i,q,h1,h2⟩:=ao1 l h
   exact⟨i+1,q,h1,h2⟩
theorem ag6 {k:Nat}:∀(pv:List (At×SV)),lk (aD5 pv) k=none-> ∀q∈pv,q.1≠ .tmp k
 | [],_=>fun q hq=>by simp at hq
 | (p,v)::l,h=>by
  unfold aD5 at h;intro q hq hqt;split at h
  ·rename_i t
   rw[t8]at h;split at h
   ·cases h
   ·rename_i e
    rcases bL7.1 hq with rfl|hq
    ·grind
    ·exact ag6 l h q hq hqt
  ·rcases bL7.1 hq with rfl|hq
   ·cases hqt
   ·exact ag6 l h q hq hqt
  ·rcases bL7.1 hq with rfl|hq
   ·cases hqt
   ·exact ag6 l h q hq hqt
theorem aL9 :∀(ps:List Pl) (ds:List E) (nb i:Nat) (q:At×SV),(S6 ps ds nb)[i]? =some q-> ∃p,ps[i]? =some p/\q.1=p.at_
 | [],ds,nb,i,q,h=>by simp[S6]at h
 |p::ps,ds,nb,0,q,h=>by simp only[S6,bJ5,bH9]at h;exact⟨p,rfl,by rw[<-h]⟩
 |p::ps,ds,nb,i+1,q,h=>by
  simp only[S6,bJ0]at h;exact aL9 ps _ _ i q h
theorem aR1 :∀(ps:List Pl) (ds:List E) (nb:Nat) (p:Pl),p∈ps-> ∃q∈S6 ps ds nb,q.1=p.at_
 | [],_,_,p,h=>by simp at h
 |p'::ps,ds,nb,p,h=>by
  rcases bL7.1 h with rfl|h
  ·exact⟨_,by simp[S6];exact .inl rfl,rfl⟩
  ·obtain⟨q,h1,h2⟩:=aR1 ps (pop p'.g ds) (nb+p'.g.na) p h
   exact⟨q,by simp[S6,h1],h2⟩
theorem bb8 {s1 : SS} {pv : List (At × SV)} {b : Nat} : ∀ {l : List Nat}, (∀ b ∈ l, ∃ c e z, s1.get b = some (.cells c e z)) →
  ∀y,lk (ovB s1 pv l) b=y->(b∈l/\ ∃c e z,s1.get b=some (.cells c e z)/\y=some (some (.cells (B8 pv b 0 c.length) e z)))\/(b∉l/\y=none)
 | [],_,y,h=>.inr ⟨by simp,h.symm⟩
 |b'::l,hl,y,h=>by
  obtain⟨c,e,z,hb⟩:=hl b' (by simp)
  unfold ovB at h;rw[hb]at h;simp only at h;rw[t8]at h
  by_cases eb:b'=b
  ·grind
  ·rw[bJ9 eb]at h
   rcases bb8 (fun b hb=>hl b (by simp[hb])) y h with⟨h1,h2⟩| ⟨h1,h2⟩
   ·grind
   ·grind
section
variable {P :Program}{U:Nat->List Dat->Dat}
def PX (τ:Tau)(tm:T Value)(hp:Hp):At->Value->Prop
 | .tmp t,x=>x=(tm.get t).getD undef
 | .cell b j,x=>∃i o cs n e z,τ b=some (some (i,o))/\hp.m.get i=some (.cells cs n e z)/\cs.get (o+j)=some x
 | .no,_=>True
theorem ab0.live {τ0 τ:Tau}{F:Nat->Option Blk}{s:SS}:∀ {ps:List Pl} {vs:List SV} {es:List E} {bs:List Nat},ab0 P U τ0 τ F s ps vs es bs-> ∀ {k b:Nat},bs[k]? =some b-> ∃x,s.get b=some x
 | [],[],es,bs,h,k,b,hb=>by rw[h.2]at hb;simp at hb
 | [],_::_,es,bs,h,k,b,hb=>h.elim
 |p::ps,[],es,bs,h,k,b,hb=>h.elim
 |p::ps,v::vs,es,bs,h,k,b,hb=>by
  obtain⟨r,es',bs',rfl,rfl,hm,hms⟩:=h;cases hr:r.2 with
  |none=>rw[hr]at hb;exact hms.live hb
  |some b0=>
   rw[hr]at hb;cases k with
   |succ k=>exact hms.live (k:=k) hb
   |zero=>
    have hna:p.g.na≠0:=fun h0=>by rw[hm.2.2.1 h0]at hr;cases hr
    obtain⟨so,_,b1,L,x',h1,_,hx,_⟩:=hm.2.2.2.2.1 hna;rw[hr]at h1;simp only[bH9]at h1;have e0:b0=b:=by simpa [L7]using hb
    grind
variable (P U) in
structure aL6 (τ1:Tau)(F1:Nat->Option Blk)(s1:SS)(hp1:Hp)(f0:Fm)(tm1:T Value)(ps:List Pl)(bs0 kill:List Nat)(τ:Tau)(F:Nat->Option Blk)(s:SS)(hp:Hp)(f:Fm)(tm:T Value)(vs:List SV)(es:List E)(bs:List Nat)(xs:List Value):Prop where
 hs1:SD P U τ1 F1 s1 hp1
 ht1:TD P U τ1 F1 f0 tm1
 hs:SD P U τ F s hp
 ht:TD P U τ F f tm
 ex:Ext τ1 F1 s1 hp1 τ F s hp
 mt:ab0 P U τ1 τ F s ps vs es bs
 vx:VDL P U τ F vs xs
 px:∀(i:Nat) p x,ps[i]? =some p->xs[i]? =some x->PX τ tm hp p.at_ x
 lx:xs.length=ps.length
 pa:∀p∈ps,∃F0 x0,VD P U τ1 F0 p.a x0
 fr:∀t,(∀p∈ps,p.at_≠ .tmp t)->lk f t=lk f0 t
 ky:∀l,s.h=l++s1.h-> ∀b∈l.map Prod.fst,b<s1.nx->b∈bs0\/b∈kill\/b∈rbs ps
 rb:∀b∈rbs ps,b∉bs0/\b∉kill/\b<s1.nx
 c0:∀b∈bs0,b∉kill/\ ∃l l' e z,s1.get b=some (.cells l e z)/\s.get b=some (.cells l' e z)/\l'.length=l.length
 bd:∀(k k':Nat) b,bs[k]? =some b->bs[k']? =some b->k=k'
 bf:∀b∈bs,b∉bs0/\(s1.nx<=b\/b∈kill)
 lb:bs.length=aT8 ps
variable {τ1 :Tau}{F1:Nat->Option Blk}{s1:SS}{hp1:Hp}{f0:Fm}{tm1:T Value}{ps:List Pl}{bs0 kill:List Nat}{τ:Tau}{F:Nat->Option Blk}{s:SS}{hp:Hp}{f:Fm}{tm:T Value}{vs:List SV}{es:List E}{bs:List Nat}{xs:List Value}
def K7 (τ1 τ:Tau)(n:Nat)(bs:List Nat):Tau:=fun b=>if b<n then τ1 b else match bs[b-n]? with|some b'=>τ b'|none=>none
theorem ag5 {n b:Nat}(h:b<n):K7 τ1 τ n bs b=τ1 b:=by unfold K7;rw[bK1 h]
theorem ao0 {n k b:Nat}(h:bs[k]? =some b):K7 τ1 τ n bs (n+k)=τ b:=by
 unfold K7;rw[bJ9 (by omega),bP3,h]
theorem aL6.head (h : aL6 P U τ1 F1 s1 hp1 f0 tm1 ps bs0 kill τ F s hp f tm vs es bs xs) {ds : List E} (hd : W7 U (sos ps) es ds) :
  SD P U (K7 τ1 τ s1.nx bs) F (sT ps ds s1 bs0 kill) hp/\TD P U (K7 τ1 τ s1.nx bs) F (fT ps ds s1 f0) tm/\Ext τ1 F1 s1 hp1 (K7 τ1 τ s1.nx bs) F (sT ps ds s1 bs0 kill) hp:=by
 obtain⟨l0,a1,a2,a3,a4,_⟩:=h.ex.hh;have hky:=h.ky l0 a1;have blt1:∀b p,τ1 b=some p->b<s1.nx:=fun b p hb=>Nat.lt_of_not_le fun hle=>by rw[h.hs1.new b hle]at hb;cases hb
 have hk:∀b p,τ1 b=some p->K7 τ1 τ s1.nx bs b=τ b:=fun b p hb=>by rw[ag5 (blt1 b p hb),h.ex.st b (blt1 b p hb)]
 have lo:∀b,b<s1.nx->K7 τ1 τ s1.nx bs b=τ b:=fun b hb=>by rw[ag5 hb,h.ex.st b hb]
 have hvals:=h.mt.vals hd hk (fun k b hb=>ao0 (n:=s1.nx) hb) h.pa h.vx
 have hblks:=h.mt.blks (nb:=s1.nx) hd;have htle:Tle τ1 (K7 τ1 τ s1.nx bs):=fun b p hb=>by rw[ag5 (blt1 b p hb)];exact hb
 have pvx:∀(i:Nat) q,(S6 ps ds s1.nx)[i]? =some q-> ∃x,PX τ tm hp q.1 x/\VD P U (K7 τ1 τ s1.nx bs) F q.2 x:=by
  intro i q hq;obtain⟨p,h1,h2⟩:=aL9 _ _ _ _ _ hq;have hi:i<xs.length:=by rw[h.lx];exact(bI2.1 h1).1
  have hx:=bJ1 hi;exact⟨_,by rw[h2];exact h.px i p _ h1 hx,hvals i q _ hq hx⟩
 have keep:∀b,b<s1.nx->b∉bs0->b∉kill->b∉rbs ps->s.get b=s1.get b:=fun b hb h1 h2 h2'=>by
  unfold SS.get;rw[a1,ax6 _ _ fun hm=>?_]
  grind
 have hc0:∀b∈bs0,∃c e z,s1.get b=some (.cells c e z):=fun b hb=>by
  obtain⟨_,l,_,e,z,h1,_⟩:=h.c0 b hb
  grind
 have cls : ∀ b x, (sT ps ds s1 bs0 kill).get b = some x →
   (∃k b0 x',b=s1.nx+k/\bs[k]? =some b0/\s.get b0=some x'/\(∀(τ2:Tau) o z,BD P U τ F o x' z->BD P U τ2 F o x z)/\(E8 P U x'->E8 P U x))\/
   (b<s1.nx/\b∉kill/\b∈bs0/\ ∃c e z,s1.get b=some (.cells c e z)/\x= .cells (B8 (S6 ps ds s1.nx) b 0 c.length) e z)\/
   (b<s1.nx/\b∉kill/\b∉bs0/\b∉rbs ps/\s1.get b=some x)\/
   (b<s1.nx/\b∉kill/\b∈rbs ps/\ ∃x',s.get b=some x'/\(∀(τ2:Tau) o z,BD P U τ F o x' z->BD P U τ2 F o x z)/\(E8 P U x'->E8 P U x)):=by
  intro b x hb;have hb':(match lk (ak0 ps ds s1 bs0 kill++s1.h) b with|some x=>x|none=>none)=some x:=hb
  rw[C5,ak0,C5,C5]at hb';cases c1:lk (ab9 ps ds s1.nx) b with
  |some y=>
   rw[c1]at hb';simp only at hb'
   rcases hblks b y c1 with⟨k,b0,X,x',h1,h2,h3,h4,h5,h6⟩| ⟨X,x',h1,h3,h4,h5,h6⟩
   ·grind
   ·rw[h3]at hb'
    simp only[bH9]at hb';subst hb';obtain⟨_,g2,g3⟩:=h.rb b h1
    grind
  |none=>
   rw[c1]at hb';simp only at hb'
   rcases bb8 (s1:=s1) (pv:=S6 ps ds s1.nx) (b:=b) hc0 _ rfl with⟨h1,c,e,z,h2,h3⟩| ⟨h1,h3⟩
   ·rw[h3]at hb'
    simp only[bH9]at hb';exact .inr (.inl ⟨h.hs1.bound h2,(h.c0 b h1).1,h1,c,e,z,h2,hb'.symm⟩)
   ·rw[h3,Q7]at hb'
    by_cases hkl:b∈kill++ [s1.nx]
    ·grind
    ·rw[bJ9 hkl]at hb'
     have hb2:s1.get b=some x:=hb';exact .inr (.inr (.inl ⟨h.hs1.bound hb2,fun h=>hkl (bR6 _ h),h1,fun h=>aM5 c1 (al4 h),hb2⟩))
 have aM3:∀b∈bs0,b∈(ak0 ps ds s1 bs0 kill).map Prod.fst:=fun b hb=>by
  rcases bb8 (s1:=s1) (pv:=S6 ps ds s1.nx) (b:=b) hc0 _ rfl with⟨_,c,e,z,_,h3⟩| ⟨h1,_⟩
  ·unfold ak0
   simp only[bM6,bL6];exact .inr (.inl (bQ2.2 ⟨_,Q9 h3,rfl⟩))
  ·grind
 have keyK:∀b∈kill,b∈(ak0 ps ds s1 bs0 kill).map Prod.fst:=fun b hb=>by
  unfold ak0;simp only[bM6,bL6];refine .inr (.inr (bQ2.2 ⟨(b,none),Q9 ?_,rfl⟩));rw[Q7,bK1 (bR6 _ hb)]
 have mark:(s1.nx,none)∈ak0 ps ds s1 bs0 kill:=by
  unfold ak0;refine bQ4 _ (bQ4 _ (Q9 ?_));rw[Q7,bK1 (bQ4 _ (by simp))]
 have key2:∀b∈l0.map Prod.fst,b<s1.nx->b∈(ak0 ps ds s1 bs0 kill).map Prod.fst:=fun b hb hlt=>by
  rcases hky b hb hlt with h1|h1|h1
  ·grind
  ·grind
  ·unfold ak0
   simp only[bM6,bL6];exact .inl (al4 h1)
 have ghi:∀k b0,bs[k]? =some b0->(if s1.nx+k<s1.nx then s1.nx+k else bs.getD (s1.nx+k-s1.nx) 0)=b0:=fun k b0 hb=>by
  rw[bJ9 (by omega),bP3,List.getD,hb];rfl
 refine⟨h.hs.rebase (fun b=>if b<s1.nx then b else bs.getD (b-s1.nx) 0) (fun b x hb=>?_) (fun b c x y hb hc hne=>?_) (fun b i o hb=>?_) (fun b hb=>?_) h.hs1.fc (fun r hr=>(h.hs1.fz r hr).mono htle h.ex.f),fun k a hka=>?_,?_⟩
 ·rcases cls b x hb with⟨k,b0,x',rfl,h2,h3,h4,h5⟩| ⟨hlt,hnk,hb0,c,e,z,h2,rfl⟩| ⟨hlt,hnk,hb0,hnr,h2⟩| ⟨hlt,hnk,_,x',h3,h4,h5⟩
  ·simp only[ghi k b0 h2]
   exact⟨x',h3,ao0 h2,fun i o y _ _ hbd=>h4 _ o y hbd,h5⟩
  ·simp only[bK1 hlt]
   obtain⟨_,l,l',e',z',k1,k2,k3⟩:=h.c0 b hb0;rw[h2]at k1;simp only[bH9,y4.cells.injEq]at k1;obtain⟨rfl,rfl,rfl⟩:=k1;refine⟨_,k2,lo b hlt,fun i o y hτ hy ⟨cs,n,e1,e2,e3⟩=>?_,fun⟨L,e,z,ph,h,_⟩=>by cases h⟩
   refine⟨cs,n,e1,by rw[ah8,<-k3];exact e2,fun j a ha=>?_⟩
   obtain⟨hj,rfl⟩:=az6 _ _ _ _ _ _ ha;rw[bL1];have hj':j<l'.length:=by omega
   obtain⟨x,hx,_⟩:=e3 j _ (bJ1 hj')
   rcases au1 (b:=b) (j:=j) (S6 ps ds s1.nx)with h1| ⟨i',q,q1,q2,q3⟩
   ·exact⟨x,hx,by rw[h1];exact .any x⟩
   ·obtain⟨x2,px,hv⟩:=pvx i' q q1
    rw[q2]at px;obtain⟨i2,o2,cs2,n2,e2',z2,p1,p2,p3⟩:=px;rw[hτ]at p1;cases p1;rw[hy,e1]at p2;simp only[bH9,Blk.cells.injEq]at p2;obtain⟨rfl,_⟩:=p2;exact⟨x2,p3,by rw[q3];exact hv⟩
  ·simp only[bK1 hlt]
   refine⟨x,by rw[keep b hlt hb0 hnk hnr];exact h2,lo b hlt,fun i o y hτ hy hbd=>?_,id⟩
   rcases h.hs1.live b x h2 with⟨i1,o1,y1,g1,_,_,g4⟩| ⟨g1,_⟩
   ·exact g4.re hbd hk
   ·rw[h.ex.st b hlt,g1]at hτ;cases hτ
  ·simp only[bK1 hlt]
   exact⟨x',h3,lo b hlt,fun i o y _ _ hbd=>h4 _ o y hbd,h5⟩
 ·have hi : ∀ (b : Nat) (x : y4) (k b0 : Nat), (sT ps ds s1 bs0 kill).get b = some x → b < s1.nx → bs[k]? = some b0 → b ≠ b0 := by
   intro b x k b0 hb hlt hk0 e;subst e;obtain⟨f1,f2⟩:=h.bf b (bI9 hk0)
   rcases cls b x hb with⟨k',b0,x',rfl,_⟩| ⟨_,hnk,_⟩| ⟨_,hnk,_⟩| ⟨_,hnk,_⟩
   ·omega
   ·rcases f2 with h1|h1
    ·omega
    ·exact hnk h1
   ·rcases f2 with h1|h1
    ·omega
    ·exact hnk h1
   ·rcases f2 with h1|h1
    ·omega
    ·exact hnk h1
  by_cases hb1:b<s1.nx
  ·by_cases hc1:c<s1.nx
   ·simp only[bK1 hb1,bK1 hc1];exact hne
   ·rcases cls c y hc with⟨k,b0,x',rfl,h2,_⟩| ⟨hlt,_⟩| ⟨hlt,_⟩| ⟨hlt,_⟩
    ·simp only[ghi k b0 h2,bK1 hb1]
     exact hi b x k b0 hb hb1 h2
    ·omega
    ·exact absurd hlt hc1
    ·exact absurd hlt hc1
  ·rcases cls b x hb with⟨k,b0,x',rfl,h2,_⟩| ⟨hlt,_⟩| ⟨hlt,_⟩| ⟨hlt,_⟩
   ·by_cases hc1:c<s1.nx
    ·simp only[ghi k b0 h2,bK1 hc1]
     exact(hi c y k b0 hc hc1 h2).symm
    ·rcases cls c y hc with⟨k',b0',x',rfl,h2',_⟩| ⟨hlt,_⟩| ⟨hlt,_⟩| ⟨hlt,_⟩
     ·simp only[ghi k b0 h2,ghi k' b0' h2']
      intro e;subst e;exact hne (by rw[h.bd k k' b0 h2 h2'])
     ·exact absurd hlt hc1
     ·exact absurd hlt hc1
     ·exact absurd hlt hc1
   ·exact absurd hlt hb1
   ·exact absurd hlt hb1
   ·exact absurd hlt hb1
 ·by_cases hlt:b<s1.nx
  ·rw[lo b hlt]at hb;exact h.hs.lt b i o hb
  ·unfold K7 at hb
   rw[bJ9 hlt]at hb;split at hb
   ·exact h.hs.lt _ i o hb
   ·cases hb
 ·have hle:s1.nx+aT8 ps<=b:=hb
  unfold K7;rw[bJ9 (by omega),bS8 (by rw[h.lb];omega)]
 ·unfold fT at hka
  rw[C5]at hka;cases c1:lk (aD5 (S6 ps ds s1.nx)) k with
  |some y=>
   rw[c1]at hka;simp only[bH9]at hka;subst hka;obtain⟨i,q,h1,h2,h3⟩:=ao1 _ c1;obtain⟨x,px,hv⟩:=pvx i q h1;rw[h2]at px;rw[<-h3,<-show x=(tm.get k).getD undef from px];exact hv
  |none=>
   rw[c1]at hka;have hno:=ag6 _ c1;have:lk f k=lk f0 k:=h.fr k fun p hp e=>by
    obtain⟨q,q1,q2⟩:=aR1 ps ds s1.nx p hp;exact hno q q1 (by rw[q2,e])
   exact(h.ht1 k a hka).re (h.ht k a (by rw[this];exact hka)) hk
 ·refine ⟨htle, h.ex.f, h.ex.nx, Nat.le_add_right _ _, fun b hb => ag5 hb, fun b x hb hlt => ?_, ⟨ak0 ps ds s1 bs0 kill, rfl, fun i hi hno => ?_, fun b i o hb hτ => ?_, fun i y hi hy => ?_, fun hp => absurd rfl (hp (s1.nx, none) mark)⟩, ⟨[], rfl⟩⟩
  ·rcases cls b x hb with⟨k,b0,x',rfl,_⟩| ⟨_,_,_,c,e,z,h2,_⟩| ⟨_,_,_,_,h2⟩| ⟨_,_,_,x',h2,_⟩
   ·omega
   ·exact⟨_,h2⟩
   ·exact⟨_,h2⟩
   ·exact h.ex.low b x' h2 hlt
  ·exact a2 i hi fun b x o hb hτ hm=>hno b x o hb hτ (key2 b hm (h.hs1.bound hb))
  ·unfold K7 at hτ
   rw[bJ9 (by omega)]at hτ
   split at hτ
   ·rename_i b' hb'
    rcases(h.bf b' (bI9 hb')).2 with h1|h1
    ·rcases a3 b' i o h1 hτ with h2| ⟨b0,x,o0,h2,h3,h4⟩
     ·exact .inl h2
     ·exact .inr ⟨b0,x,o0,h2,h3,key2 b0 h4 (h.hs1.bound h2)⟩
    ·by_cases hlt : b' < s1.nx
     ·have hg : ∃ x, s.get b' = some x := by
       exact h.mt.live hb'
      obtain⟨x,hx⟩:=hg;obtain⟨y,hy⟩:=h.ex.low b' x hx hlt;rw[h.ex.st b' hlt]at hτ;exact .inr ⟨b',y,o,hy,hτ,keyK b' h1⟩
     ·rcases a3 b' i o (bP7 hlt) hτ with h2| ⟨b0,x,o0,h2,h3,h4⟩
      ·exact .inl h2
      ·exact .inr ⟨b0,x,o0,h2,h3,key2 b0 h4 (h.hs1.bound h2)⟩
   ·cases hτ
  ·rcases a4 i y hi hy with h1| ⟨b,o,h1,h2⟩
   ·exact .inl h1
   ·by_cases hlt:b<s1.nx
    ·exact .inr ⟨b,o,by rw[lo b hlt];exact h1,key2 b h2 hlt⟩
    ·rcases a3 b i o (bP7 hlt) h1 with h3| ⟨b0,x,o0,h3,h4,h5⟩
     ·omega
     ·have hb0:=h.hs1.bound h3
      exact .inr ⟨b0,o0,by rw[ag5 hb0];exact h4,key2 b0 h5 hb0⟩
end
end Go.Sx
namespace Go.Sx
open Go.Xe
structure R9 where
 name:String
 places:Code->Fm->SS->Option (List (At×G)×List Nat)
 inv:List Dat->Prop
 mu:List Dat->Nat
 gh:List (So×E):=[]
def bg3 (U:Nat->List Dat->Dat)(k:So)(e:E):Dat:=match k with
 | .i=>.int (e.toI U)
 | .b=>.bool (e.den U).toBool
 | .s=>.str (e.den U).toStr
 | .l=>.lst (e.toR U)
def u6 (U:Nat->List Dat->Dat):List So->List E->List Dat
 |k::ks,e::es=>bg3 U k e::u6 U ks es
 |_,_=>[]
def bk7 {α:Type}:List So->Nat->(List E->Tr α)->Tr α
 | [],_,k=>k []
 |so::l,n,k=>.all so n fun e=>bk7 l (n+1) fun es=>k (e::es)
def E4 (U:Nat->List Dat->Dat):List So->Nat->List E->List E
 |k::ks,n,e::es=>.dat n (bg3 U k e)::E4 U ks (n+1) es
 |_,_,_=>[]
def atv (f:Fm)(s:SS):At->Option SV
 | .tmp t=>match lk f t with
  |some v=>some v
  |none=>some .any
 | .cell b j=>match s.get b with
  |some (.cells l _ _)=>l[j]?
  |_=>none
 | .no=>some .any
def T7 (f:Fm)(s:SS):List (At×G)->Option (List SV)
 | []=>some []
 |p::l=>match atv f s p.1 with
  |some v=>match T7 f s l with
   |some vs=>some (v::vs)
   |none=>none
  |none=>none
def pls :List (At×G)->List SV->List Pl
 |p::l,v::vs=>⟨p.1,p.2,v⟩::pls l vs
 |_,_=>[]
def bt5 (t:Nat):At->Bool
 | .tmp t'=>Nat.beq t t'
 | .cell _ _=>false
 | .no=>false
def ah1 :List Nat->Bool
 | []=>true
 |b::l=> !M6 b l&&ah1 l
def Q0 (s1 s:SS)(b:Nat):Bool:=match s1.get b with
 |some (.cells l e z)=>match s.get b with
  |some (.cells l' e' z')=>Nat.beq e e'&&Nat.beq z z'&&Nat.beq l.length l'.length
  |_=>false
 |_=>false
def aS0 (n:Nat)(f:Fm):List Nat:=match n,f with
 |n+1,(k,_)::f=>k::aS0 n f
 |_,_=>[]
section
variable (P :Program)(U:Nat->List Dat->Dat)
def mdone {α:Type}(l1 l2:Lab)(p q:Prop):M α:=fun _=>.need l1 p (.need l2 q .done)
def by2 (an : R9) (pg : List (At × G)) (ps : List Pl) (bs0 kill : List Nat) (s1 : SS) (f0 : Fm) (ds : List E) (r : Exit × Fm) : M (Exit × Fm) := match r.1 with
 | .normal =>
  bif (aS0 (r.2.length - (fT ps ds s1 f0).length) r.2).all (fun t => pg.any (fun p => bt5 t p.1)) then
   m9 fun s=>match T7 r.2 s pg with
   |none=>a7 "loop: a place is gone"
   | some vs0 => a8 (norm P U ps vs0) fun vs => a8 (mtP U ps vs) fun t => m9 fun s2 =>
    bif (L5 (s2.h.length - (sT ps ds s1 bs0 kill).h.length) s2.h).all (fun b => Nat.ble s1.nx b || M6 b bs0 || M6 b kill || M6 b (rbs ps)) && bs0.all (Q0 s1 s2) && ah1 t.2 &&
      t.2.all (fun b=> !M6 b bs0&&(Nat.ble s1.nx b||M6 b kill))&&Nat.beq t.2.length (aT8 ps)then
     mdone (.pt (an.name++ "Inv") [an.gh,(sos ps).zip t.1]) (.mu (an.name++ "Mu") an.gh ((sos ps).zip t.1) ((sos ps).zip ds)) (an.inv (u6 U (sos ps) t.1)) (an.mu (u6 U (sos ps) t.1)<an.mu (u6 U (sos ps) ds))
    else a7 "loop: the head"
  else a7 "loop: a temporary"
 |e=>c8 (e,r.2)
def fvb (s:SS)(n:Nat):SS:= {s with fv:=s.fv+n}
def shead (an:R9)(pg:List (At×G))(ps:List Pl)(bs0:List Nat)(es:List E)(kill:List Nat)(body:Fm->M (Exit×Fm))(f0:Fm):M (Exit×Fm):=fun s=>
 .need (.pt (an.name++ "Inv") [an.gh,(sos ps).zip es]) (an.inv (u6 U (sos ps) es)) (bk7 (sos ps) s.fv fun ds=>.asm (.pt (an.name++ "Inv") [an.gh,(sos ps).zip ds]) (an.inv (u6 U (sos ps) ds))
  (a8 (body (fT ps ds (fvb s (sos ps).length) f0)) (by2 P U an pg ps bs0 kill (fvb s (sos ps).length) f0 ds) (sT ps ds (fvb s (sos ps).length) bs0 kill)))
def by5 (an:R9)(b:Code)(body:Fm->M (Exit×Fm))(f0:Fm):M (Exit×Fm):=m9 fun s0=>match an.places b f0 s0 with
 |none=>a7 "loop: places"
 |some (pg,bs0)=>match T7 f0 s0 pg with
  |none=>a7 "loop: no such place"
  |some vs0=>a8 (norm P U (pls pg vs0) vs0) fun vs=>a8 (mtP U (pls pg vs0) vs) fun t=>m9 fun s1=>
   bif bs0.all (Q0 s1 s1)&&ah1 t.2&&t.2.all (fun b=> !M6 b bs0)&&Nat.beq t.2.length (aT8 (pls pg vs0))&&(rbs (pls pg vs0)).all (fun b=> !M6 b bs0&& !M6 b t.2&&Nat.ble (b+1) s1.nx)then
    shead P U an pg (pls pg vs0) bs0 t.1 t.2 body f0
   else a7 "loop: the start"
end
section
variable {P :Program}{U:Nat->List Dat->Dat}{ov:FuncId->Option TypeId}{nt:Nat}
theorem al3 {α:Type}{Q:α->Prop}:∀(l:List So) (n:Nat) (k:List E->Tr α),(bk7 l n k).vc U Q-> ∀es:List E,es.length=l.length->(k (E4 U l n es)).vc U Q
 | [],n,k,h,es,hl=>by
  cases es with
  |nil=>exact h
  |cons e es=>simp at hl
 |so::l,n,k,h,es,hl=>by
  cases es with
  |nil=>simp at hl
  |cons e es=>
   have hl':es.length=l.length:=by grind
   have key:(bk7 l (n+1) fun es=>k (.dat n (bg3 U so e)::es)).vc U Q:=by
    cases so
    ·exact h (e.toI U)
    ·exact h (e.den U).toBool
    ·exact h (e.den U).toStr
    ·exact h (e.toR U)
   exact al3 l (n+1) _ key es hl'
theorem E6 :∀(l:List So) (n:Nat) (es:List E),es.length=l.length->W7 U l es (E4 U l n es)
 | [],n,[],h=>trivial
 | [],n,e::es,h=>by simp at h
 |k::l,n,[],h=>by simp at h
 |k::l,n,e::es,h=>⟨by cases k<;>rfl,E6 l (n+1) es (by simpa using h)⟩
theorem J3 :∀(l:List So) (n:Nat) (es:List E),es.length=l.length->u6 U l (E4 U l n es)=u6 U l es
 | [],n,[],h=>rfl
 | [],n,e::es,h=>by simp at h
 |k::l,n,[],h=>by simp at h
 |k::l,n,e::es,h=>by
  unfold E4 u6;rw[J3 l (n+1) es (by simpa using h)]
  cases k<;>rfl
theorem aM9 {τ0 τ:Tau}{F:Nat->Option Blk}{s:SS}:∀ {ps:List Pl} {vs:List SV} {es:List E} {bs:List Nat},ab0 P U τ0 τ F s ps vs es bs->es.length=(sos ps).length
 | [],[],es,bs,h=>by rw[h.1];rfl
 | [],_::_,es,bs,h=>h.elim
 |p::ps,[],es,bs,h=>h.elim
 |p::ps,v::vs,es,bs,h=>by
  obtain⟨r,es',bs',rfl,rfl,hm,hms⟩:=h;have ih:=aM9 hms;unfold sos;cases hso:p.g.so with
  |none=>rw[hm.2.1 hso];exact ih
  |some so=>
   obtain⟨e,he⟩:=hm.1 so hso;rw[he];simp only[L7,bM2,ih]
theorem W4 {b:Nat}:∀ {l:List Nat},M6 b l=true->b∈l
 | [],h=>by cases h
 |k::l,h=>by
  unfold M6 at h
  by_cases e:b=k
  ·grind
  ·rw[u9 e,bJ7]at h
   exact bN8 _ (W4 h)
theorem ad0 :∀ {l:List Nat},ah1 l=true-> ∀(k k':Nat) b,l[k]? =some b->l[k']? =some b->k=k'
 | [],_,k,k',b,h,_=>by simp at h
 |c::l,hd,k,k',b,h,h'=>by
  unfold ah1 at hd;rw[bI0,bM5]at hd;have hn:=I7 hd.1;cases k with
  |zero=>grind
  |succ k=>
   cases k' with
   |zero=>grind
   |succ k'=>
    simp only[bJ0]at h h';rw[ad0 hd.2 k k' b h h']
theorem an3 {s1 s:SS}{b:Nat}(h:Q0 s1 s b=true):∃l l' e z,s1.get b=some (.cells l e z)/\s.get b=some (.cells l' e z)/\l'.length=l.length:=by
 unfold Q0 at h;split at h
 ·rename_i l e z h1
  split at h
  ·rename_i l' e' z' h2
   simp only[bI0,bL9]at h
   grind
  ·cases h
 ·cases h
theorem aH4 {b:Nat}:∀(ps:List Pl) (ds:List E) (nb:Nat),b∈(ab9 ps ds nb).map Prod.fst->nb<=b\/b∈rbs ps
 | [],ds,nb,h=>by simp[ab9]at h
 |p::ps,ds,nb,h=>by
  have sub:∀b,b∈rbs ps->b∈rbs (p::ps):=fun b hb=>by
   unfold rbs
   grind
  have ih:b∈(ab9 ps (pop p.g ds) (nb+p.g.na)).map Prod.fst->nb<=b\/b∈rbs (p::ps):=fun h=>by
   rcases aH4 ps _ _ h with h|h
   ·grind
   ·grind
  unfold ab9 at h;split at h
  ·grind
  ·split at h
   ·rename_i q hq
    simp only[bN0,bL7]at h
    rcases h with rfl|h
    ·obtain⟨X,hX⟩:=G.fix_num hq (.int 0)
     right
     unfold rbs
     grind
    ·exact ih h
   ·exact ih h
theorem aB7 {s1:SS}{pv:List (At×SV)}{b:Nat}:∀(l:List Nat),b∈(ovB s1 pv l).map Prod.fst->b∈l
 | [],h=>by simp[ovB]at h
 |c::l,h=>by
  unfold ovB at h;split at h
  ·simp only[bN0,bL7]at h
   rcases h with rfl|h
   ·simp
   ·exact bN8 _ (aB7 l h)
  ·exact bN8 _ (aB7 l h)
theorem aA5 {b:Nat}:∀(l:List Nat),b∈(U1 l).map Prod.fst->b∈l
 | [],h=>by simp[U1]at h
 |c::l,h=>by
  simp only[U1,bN0,bL7]at h
  rcases h with rfl|h
  ·simp
  ·exact bN8 _ (aA5 l h)
theorem bh8 :∀ {pg:List (At×G)} {vs:List SV} {i:Nat} {p:Pl},(pls pg vs)[i]? =some p-> ∃q v,pg[i]? =some q/\vs[i]? =some v/\p.at_=q.1/\p.a=v
 | [],vs,i,p,h=>by simp[pls]at h
 |q::l,[],i,p,h=>by simp[pls]at h
 |q::l,v::vs,0,p,h=>by simp only[pls,bJ5,bH9]at h;exact⟨q,v,rfl,rfl,by rw[<-h],by rw[<-h]⟩
 |q::l,v::vs,i+1,p,h=>by
  simp only[pls,bJ0]at h;obtain⟨q',v',h1,h2,h3⟩:=bh8 (pg:=l) (vs:=vs) (i:=i) h
  grind
theorem bw6 :∀ {pg:List (At×G)} {vs:List SV},pg.length=vs.length->(pls pg vs).map Pl.at_=pg.map Prod.fst
 | [],[],_=>rfl
 | [],_::_,h=>by simp at h
 |_::_,[],h=>by simp at h
 |q::l,v::vs,h=>by
  simp only[pls,bN0];rw[bw6 (by simpa using h)]
theorem bG0 {τ:Tau}{F:Nat->Option Blk}{s:SS}{hp:Hp}{f:Fm}{tm:T Value}(ht:TD P U τ F f tm)(hs:SD P U τ F s hp){p:At}{v:SV}(h:atv f s p=some v):∃x,VD P U τ F v x/\PX τ tm hp p x:=by
 cases p with
 |tmp t=>
  simp only[atv]at h;split at h
  ·rename_i v' hv
   simp only[bH9]at h;subst h;exact⟨_,ht t v' hv,rfl⟩
  ·simp only[bH9]at h
   subst h;exact⟨_,.any _,rfl⟩
 |cell b j=>
  simp only[atv]at h;split at h
  ·rename_i l e z hb
   rcases hs.live b _ hb with⟨i,o,y,h1,h2,h3,cs,n,rfl,h4,h5⟩| ⟨_,L,e',z',ph,h2,_⟩
   ·obtain⟨x,hx,hv⟩:=h5 j v h
    exact⟨x,hv,i,o,cs,n,e,z,h1,h2,hx⟩
   ·cases h2
  ·cases h
 |no=>
  simp only[atv,bH9]at h;subst h;exact⟨undef,.any _,trivial⟩
theorem ai9 {τ : Tau} {F : Nat → Option Blk} {s : SS} {hp : Hp} {f : Fm} {tm : T Value} (ht : TD P U τ F f tm) (hs : SD P U τ F s hp) : ∀ {pg : List (At × G)} {vs : List SV}, T7 f s pg = some vs →
  pg.length=vs.length/\ ∃xs,VDL P U τ F vs xs/\ ∀(i:Nat) q x,pg[i]? =some q->xs[i]? =some x->PX τ tm hp q.1 x
 | [],vs,h=>by
  simp only[T7,bH9]at h;subst h;exact⟨rfl,[],.nil,fun i q x h=>by simp at h⟩
 |p::l,vs,h=>by
  unfold T7 at h;split at h
  ·rename_i v hv
   split at h
   ·rename_i vs' hvs
    cases h;obtain⟨x,h1,h2⟩:=bG0 ht hs hv;obtain⟨h3,xs,h4,h5⟩:=ai9 ht hs hvs;refine⟨by simp[h3],x::xs,.cons h1 h4,fun i q y hq hy=>?_⟩
    grind
   ·cases h
  ·cases h
theorem PX.mono {τ τ':Tau}{tm:T Value}{hp:Hp}{p:At}{x:Value}(ht:Tle τ τ')(h:PX τ tm hp p x):PX τ' tm hp p x:=by
 cases p with
 |tmp t=>exact h
 |cell b j=>obtain⟨i,o,cs,n,e,z,h1,h2⟩:=h;exact⟨i,o,cs,n,e,z,ht _ _ h1,h2⟩
 |no=>trivial
theorem bl3 (l f:Fm):aS0 l.length (l++f)=l.map Prod.fst:=by
 induction l with
 |nil=>cases f<;>rfl
 |cons a l ih=>obtain⟨k,x⟩:=a;simp only[bM2,bO1,aS0,bN0,ih]
variable {ar :Option Nat}
theorem XC.loop_next {b : Code} {tm tm1 tm' : T Value} {hp hp1 hp' : Hp} {e : Exit} (h1 : XC P ov ar nt b tm hp .normal tm1 hp1) (h2 : XC P ov ar nt (.loop b) tm1 hp1 e tm' hp') (hn1 : hp.nx ≤ hp1.nx) (hn2 : hp1.nx ≤ hp'.nx)
  (hk:∀r,r<hp1.nx->hp1.m.get r=some .dfr->hp'.m.get r=some .dfr):XC P ov ar nt (.loop b) tm hp e tm' hp':=
 h1.comp h2 hn1 hn2 hk fun n m ds ds1 ds2 q1 q2=>by
  simp only[i9,q1];exact q2
theorem XC.loop_end {b:Code}{tm tm':T Value}{hp hp':Hp}{e:Exit}(h1:XC P ov ar nt b tm hp e tm' hp')(hne:e≠ .normal):XC P ov ar nt (.loop b) tm hp e tm' hp':=
 h1.map fun n m ds ds' hk=>by
  simp only[i9,hk]
  grind
end
end Go.Sx
namespace Go.Sx
open Go.Xe
section
variable {P :Program}{U:Nat->List Dat->Dat}{ov:FuncId->Option TypeId}{nt:Nat}{ar:Option Nat}
variable {b :Code}{body:Fm->M (Exit×Fm)}{an:R9}{pg:List (At×G)}{ps:List Pl}{bs0 kill:List Nat}{s1:SS}{f0:Fm}{tm1:T Value}{τ1:Tau}{F1:Nat->Option Blk}{hp1:Hp}{n0:Nat}{Q:(Exit×Fm)×SS->Prop}
variable (P U ov) in
def br6 (ar:Option Nat)(nt:Nat)(b:Code)(τ1:Tau)(F1:Nat->Option Blk)(s1:SS)(hp1:Hp)(f0:Fm)(Q:(Exit×Fm)×SS->Prop)(tm:T Value)(hp:Hp):Prop:=
 ∃ex f' s',Q ((ex,f'),s')/\ ∃τ' F' hp',Ext τ1 F1 s1 hp1 τ' F' s' hp'/\SD P U τ' F' s' hp'/\ ∃tm',XC P ov ar nt (.loop b) tm hp ex tm' hp'/\TD P U τ' F' f' tm'/\(∃pre,f'=pre++f0)/\hp.nx<=hp'.nx/\ ∀r,r<hp.nx->hp.m.get r=some .dfr->hp'.m.get r=some .dfr
theorem aS5 (hbody : ∀ f', ac4 P U ov ar nt (body f') b f') (hs1 : SD P U τ1 F1 s1 hp1) (ht1 : TD P U τ1 F1 f0 tm1) (hat : ps.map Pl.at_ = pg.map Prod.fst) (pa : ∀ p ∈ ps, ∃ F0 x0, VD P U τ1 F0 p.a x0)
  (hbk:∀c∈bs0,c∉kill) (hrb:∀c∈rbs ps,c∉bs0/\c∉kill/\c<s1.nx) (hB:∀es:List E,es.length=(sos ps).length->an.inv (u6 U (sos ps) es)->
   (a8 (body (fT ps (E4 U (sos ps) n0 es) s1 f0)) (by2 P U an pg ps bs0 kill s1 f0 (E4 U (sos ps) n0 es)) (sT ps (E4 U (sos ps) n0 es) s1 bs0 kill)).vc U Q):
  ∀(N:Nat) (es:List E),an.mu (u6 U (sos ps) es)<N->es.length=(sos ps).length->an.inv (u6 U (sos ps) es)-> ∀(τ:Tau) (F:Nat->Option Blk) (hp:Hp) (tm:T Value),
   SD P U τ F (sT ps (E4 U (sos ps) n0 es) s1 bs0 kill) hp->TD P U τ F (fT ps (E4 U (sos ps) n0 es) s1 f0) tm->Ext τ1 F1 s1 hp1 τ F (sT ps (E4 U (sos ps) n0 es) s1 bs0 kill) hp->
   br6 P U ov ar nt b τ1 F1 s1 hp1 f0 Q tm hp
 |0,es,h,_,_=>absurd h (Nat.not_lt_zero _)
 | N + 1, es, hmu, hlen, hinv => by
  intro τ F hp tm hsd htd hex;have hq:=hB es hlen hinv;rw[y5]at hq;generalize hds:E4 U (sos ps) n0 es=ds at hq hsd htd hex;obtain⟨⟨e,f'⟩,s',hq,τ',F',hp',ex',hs',tm',hx,ht',pre,hpre⟩:=hbody (fT ps ds s1 f0) τ F _ hp tm htd hsd _ hq hsd;have hpf:f'=pre++fT ps ds s1 f0:=hpre;have hfin:e≠ .normal->Q ((e,f'),s')->br6 P U ov ar nt b τ1 F1 s1 hp1 f0 Q tm hp:=fun hne hQ=>
   ⟨e,f',s',hQ,τ',F',hp',hex.trans ex',hs',tm',hx.loop_end hne,ht',⟨pre++aD5 (S6 ps ds s1.nx),by rw[hpf,fT,bJ3]⟩,ex'.nx,fun r hr hg=>ex'.dfr hsd hr hg (.inl rfl)⟩
  cases e with
  |exit j=>exact hfin (by simp) hq
  |ret=>exact hfin (by simp) hq
  | normal =>
   simp only[by2]at hq;cases c1:(aS0 (f'.length-(fT ps ds s1 f0).length) f').all (fun t=>pg.any (fun p=>bt5 t p.1))with
   |false=>rw[c1]at hq;exact hq.elim
   | true =>
    rw[c1,bJ6]at hq;simp only[m9]at hq;cases c2:T7 f' s' pg with
    |none=>rw[c2]at hq;exact hq.elim
    | some vs0 =>
     rw[c2]at hq;simp only at hq;obtain⟨hl1,xs,hvx,hpx⟩:=ai9 ht' hs' c2;rw[y5]at hq;obtain⟨vs,s2,hq,τ2,F2,hp2,ex2,hs2,rfl,hvx2⟩:=aN1 ps vs0 xs τ' F' s' hp' hvx hs' _ hq hs';rw[y5]at hq;obtain⟨⟨es',bs⟩,s3,hq,o3,hf3,hmt⟩:=bb4 (P:=P) (τ:=τ2) (F:=F2) τ1 ps vs s2 _ hq hs2.fc;have hs3:=hs2.only o3 hf3;have hex3:Ext τ1 F1 s1 hp1 τ2 F2 s3 hp2:=((hex.trans ex').trans ex2).trans (Ext.only hs2 o3);simp only[m9]at hq;cases c3:(L5 (s3.h.length-(sT ps ds s1 bs0 kill).h.length) s3.h).all (fun b=>Nat.ble s1.nx b||M6 b bs0||M6 b kill||M6 b (rbs ps))&&bs0.all (Q0 s1 s3)&&ah1 bs&&
      bs.all (fun b=> !M6 b bs0&&(Nat.ble s1.nx b||M6 b kill))&&Nat.beq bs.length (aT8 ps)with
     |false=>rw[c3]at hq;exact hq.elim
     | true =>
      rw [c3,bJ6] at hq;simp only [bI0] at c3;obtain ⟨⟨⟨⟨k1,k2⟩,k3⟩,k4⟩,k5⟩:=c3;rw [bK9] at k1 k2 k4;have hinv' : an.inv (u6 U (sos ps) es'):=hq.1;have hmu' : an.mu (u6 U (sos ps) es') < an.mu (u6 U (sos ps) ds):=(hq.2 hq.1).1;have hmt3:=hmt s3 o3.h;have hlen' := aM9 hmt3;have head : aL6 P U τ1 F1 s1 hp1 f0 tm1 ps bs0 kill τ2 F2 s3 hp2 f' tm' vs es' bs xs := by
       refine⟨hs1,ht1,hs3,ht'.mono ex2.t ex2.f,hex3,hmt3,hvx2,fun i p x hp hxi=>?_,?_,pa,fun t ht=>?_,fun l hl c hc hlt=>?_,hrb,fun c hc=>⟨hbk c hc,an3 (k2 c hc)⟩,ad0 k3,fun c hc=>?_,bI4 k5⟩
       ·have h1:=congrArg (fun l=>l[i]?) hat
        simp only[bM9,hp,bM4]at h1;cases hpg:pg[i]? with
        |none=>rw[hpg]at h1;cases h1
        |some q=>
         rw[hpg]at h1;simp only[bM4,bH9]at h1;rw[h1];exact(hpx i q x hpg hxi).mono ex2.t
       ·have h1:=congrArg List.length hat
        simp only[bJ8]at h1;rw[h1,hl1];exact hvx.1.symm
       ·have hnp : t ∉ pre.map Prod.fst := by
         intro hm;rw[bK9,hpf,bK6,Nat.add_sub_cancel,bl3]at c1;have:=c1 t hm;rw[List.any_eq_true]at this;obtain⟨q,hq1,hq2⟩:=this;have hmem:q.1∈ps.map Pl.at_:=by rw[hat];exact bQ2.2 ⟨q,hq1,rfl⟩
         obtain⟨p,hp1,hp2⟩:=bQ2.1 hmem;refine ht p hp1 ?_;rw[hp2];cases hqq:q.1 with
         |tmp t'=>rw[hqq]at hq2;simp only[bt5]at hq2;rw[bI4 hq2]
         |cell b j=>rw[hqq]at hq2;cases hq2
         |no=>rw[hqq]at hq2;cases hq2
        rw[hpf,ax6 _ _ hnp,fT,C5];cases hlk:lk (aD5 (S6 ps ds s1.nx)) t with
        |none=>rfl
        |some a=>
         obtain⟨i,q,q1,q2,_⟩:=ao1 _ hlk;obtain⟨p,p1,p2⟩:=aL9 _ _ _ _ _ q1;exact absurd (by rw[<-p2,q2]) (ht p (bI9 p1))
       ·obtain⟨l2,e2,_⟩:=(ex'.trans (ex2.trans (Ext.only hs2 o3))).hh
        have hsT:(sT ps ds s1 bs0 kill).h=ak0 ps ds s1 bs0 kill++s1.h:=rfl;have hll:l=l2++ak0 ps ds s1 bs0 kill:=by
         rw[e2,hsT,<-bJ3]at hl;exact(List.append_cancel_right hl).symm
        rw[hll,bM6,bL6]at hc
        rcases hc with hc|hc
        ·rw[e2,bK6,Nat.add_sub_cancel,au7]at k1
         have:=k1 c hc;simp only[bP6,bN3]at this
         rcases this with((h1|h1)|h1)|h1
         ·omega
         ·exact .inl (W4 h1)
         ·exact .inr (.inl (W4 h1))
         ·exact .inr (.inr (W4 h1))
        ·unfold ak0 at hc
         simp only[bM6,bL6]at hc
         rcases hc with h1|h1|h1
         ·rcases aH4 _ _ _ h1 with h2|h2
          ·omega
          ·exact .inr (.inr h2)
         ·exact .inl (aB7 _ h1)
         ·have:=aA5 _ h1
          rcases bL6.1 this with h2|h2
          ·exact .inr (.inl h2)
          ·simp at h2;omega
       ·have:=k4 c hc
        simp only[bI0,bM5,bP6,bN3]at this;refine⟨I7 this.1,?_⟩
        rcases this.2 with h1|h1
        ·exact .inl h1
        ·exact .inr (W4 h1)
      obtain⟨g1,g2,g3⟩:=head.head (E6 (sos ps) n0 es' hlen');have hmu2:an.mu (u6 U (sos ps) es')<N:=by
       have:u6 U (sos ps) ds=u6 U (sos ps) es:=by rw[<-hds];exact J3 _ _ _ hlen
       rw[this]at hmu';omega
      obtain⟨ex4,f4,s4,w1,τ4,F4,hp4,w2,w3,tm4,w4,w5,w6,w7,w8⟩:=aS5 hbody hs1 ht1 hat pa hbk hrb hB N es' hmu2 hlen' hinv' _ _ _ _ g1 g2 g3;exact⟨ex4,f4,s4,w1,τ4,F4,hp4,w2,w3,tm4,hx.loop_next w4 ex'.nx w7 w8,w5,w6,bN7 ex'.nx w7,fun r hr hg=>w8 r (bN2 hr ex'.nx) (ex'.dfr hsd hr hg (.inl rfl))⟩
  |_=>exact hfin (by simp) hq
end
end Go.Sx
namespace Go.Sx
open Go.Xe
def annOf (l:List (Nat×(Fm->SS->R9)))(id:Nat):Option (Fm->SS->R9):=lk l id
def slp (P:Program)(U:Nat->List Dat->Dat)(l:List (Nat×(Fm->SS->R9))):ah7:=fun id b body f=>match annOf l id with
 |some an=>some (m9 fun s=>by5 P U (an f s) b body f)
 |none=>none
def ba1 (U:Nat->List Dat->Dat):List (So×E)->List Dat
 | []=>[]
 | (k,e)::l=>bg3 U k e::ba1 U l
def D3 (U:Nat->List Dat->Dat)(name:String)(places:Code->Fm->SS->Option (List (At×G)×List Nat))(gh:Fm->SS->List (So×E))(inv:List Dat->List Dat->Prop)(mu:List Dat->List Dat->Nat):Fm->SS->R9:=
 fun f s=>⟨name,places,inv (ba1 U (gh f s)),mu (ba1 U (gh f s)),gh f s⟩
section
variable {P :Program}{U:Nat->List Dat->Dat}{ov:FuncId->Option TypeId}{nt:Nat}{ar:Option Nat}
theorem SD.fvb {τ:Tau}{F:Nat->Option Blk}{s:SS}{hp:Hp}(h:SD P U τ F s hp)(n:Nat):SD P U τ F (fvb s n) hp:=⟨h.live,h.inj,h.frz,h.lt,h.flt,h.new,h.fc,h.fz⟩
theorem Ext.fvb {τ τ':Tau}{F F':Nat->Option Blk}{s s':SS}{hp hp':Hp}(h:Ext τ F s hp τ' F' s' hp')(n:Nat):Ext τ F s hp τ' F' (fvb s' n) hp':=⟨h.t,h.f,h.nx,h.snx,h.st,h.low,h.hh,h.hf⟩
theorem by6 {b : Code} {body : Fm → M (Exit × Fm)} (hbody : ∀ f', ac4 P U ov ar nt (body f') b f') (an : R9) (f0 : Fm) : ac4 P U ov ar nt (by5 P U an b body f0) (.loop b) f0 := by
 intro τ F s hp tm ht hs Q hq _;unfold by5 at hq;simp only[m9]at hq;cases c1:an.places b f0 s with
 |none=>rw[c1]at hq;exact hq.elim
 | some pp =>
  obtain⟨pg,bs0⟩:=pp;rw[c1]at hq;simp only at hq;cases c2:T7 f0 s pg with
  |none=>rw[c2]at hq;exact hq.elim
  | some vs0 =>
   rw[c2]at hq;simp only at hq;obtain⟨hl1,xs,hvx,hpx⟩:=ai9 ht hs c2;generalize hps:pls pg vs0=ps at hq;have hat:ps.map Pl.at_=pg.map Prod.fst:=by rw[<-hps];exact bw6 hl1
   rw[y5]at hq;obtain⟨vs,s2,hq,τ2,F2,hp2,ex2,hs2,rfl,hvx2⟩:=aN1 ps vs0 xs τ F s hp hvx hs _ hq hs;rw[y5]at hq;obtain⟨⟨es,bs⟩,s3,hq,o3,hf3,hmt⟩:=bb4 (P:=P) (τ:=τ2) (F:=F2) τ2 ps vs s2 _ hq hs2.fc;have hs3:=hs2.only o3 hf3;have hex3:=ex2.trans (Ext.only hs2 o3);simp only[m9]at hq;cases c3:bs0.all (Q0 s3 s3)&&ah1 bs&&bs.all (fun b=> !M6 b bs0)&&Nat.beq bs.length (aT8 ps)&&(rbs ps).all (fun b=> !M6 b bs0&& !M6 b bs&&Nat.ble (b+1) s3.nx)with
   |false=>rw[c3]at hq;exact hq.elim
   | true =>
    rw[c3,bJ6]at hq;simp only[bI0]at c3;obtain⟨⟨⟨⟨k2,k3⟩,k4⟩,k5⟩,k6⟩:=c3;rw[bK9]at k2 k4 k6;have hrb:∀c∈rbs ps,c∉bs0/\c∉bs/\c<s3.nx:=fun c hc=>by
     have:=k6 c hc;simp only[bI0,bM5,bN3]at this;exact⟨I7 this.1.1,I7 this.1.2,this.2⟩
    have hs4:=hs3.fvb (sos ps).length;have hex4:=hex3.fvb (sos ps).length;have ht4:=ht.mono ex2.t ex2.f;have hmt3:=hmt (fvb s3 (sos ps).length) o3.h;have hlen:=aM9 hmt3;have hinv:an.inv (u6 U (sos ps) es):=hq.1;have hB:=al3 (U:=U) _ _ _ (hq.2 hq.1);have hbk:∀c∈bs0,c∉bs:=fun c hc hb=>by
     have:=k4 c hb;rw[bM5]at this;exact I7 this hc
    have pa:∀p∈ps,∃F0 x0,VD P U τ2 F0 p.a x0:=by
     intro p hp;obtain⟨i,hi⟩:=bN4.1 hp;rw[<-hps]at hi;obtain⟨q,v,g1,g2,g3,g4⟩:=bh8 hi;obtain⟨x,hx1,hx2⟩:=hvx.get g2;exact⟨F2,x,by rw[g4];exact hx2.mono ex2.t ex2.f⟩
    have head : aL6 P U τ2 F2 (fvb s3 (sos ps).length) hp2 f0 tm ps bs0 bs τ2 F2 (fvb s3 (sos ps).length) hp2 f0 tm vs es bs xs := by
     refine⟨hs4,ht4,hs4,ht4,Ext.refl hs4,hmt3,hvx2,fun i p x hp hxi=>?_,?_,pa,fun t _=>rfl,fun l hl c hc hlt=>?_,hrb,fun c hc=>⟨hbk c hc,an3 (k2 c hc)⟩,ad0 k3,fun c hc=>⟨fun h=>hbk c h hc,.inr hc⟩,bI4 k5⟩
     ·have h1:=congrArg (fun l=>l[i]?) hat
      simp only[bM9,hp,bM4]at h1;cases hpg:pg[i]? with
      |none=>rw[hpg]at h1;cases h1
      |some q=>
       rw[hpg]at h1;simp only[bM4,bH9]at h1;rw[h1];exact(hpx i q x hpg hxi).mono ex2.t
     ·have h1:=congrArg List.length hat
      simp only[bJ8]at h1;rw[h1,hl1];exact hvx.1.symm
     ·have : l = [] := by
       have:=congrArg List.length hl;rw[bK6]at this;cases l with
       |nil=>rfl
       |cons a l=>simp at this
      subst this;simp at hc
    obtain⟨g1,g2,g3⟩:=head.head (E6 (sos ps) s3.fv es hlen);obtain⟨ex4,f4,s4,w1,τ4,F4,hp4,w2,w3,tm4,w4,w5,⟨pre,w6⟩,_⟩:=aS5 (U:=U) (an:=an) (pg:=pg) (kill:=bs) (n0:=s3.fv) hbody hs4 ht4 hat pa hbk hrb (fun es' hl' hi'=>hB es' hl' (by rw[J3 _ _ _ hl'];exact hi'))
     (an.mu (u6 U (sos ps) es)+1) es (bO0 _) hlen hinv _ _ _ _ g1 g2 g3
    exact⟨(ex4,f4),s4,w1,τ4,F4,hp4,hex4.trans w2,w3,tm4,w4,w5,pre,w6⟩
theorem by7 (l:List (Nat×(Fm->SS->R9))):V8 P U ov ar nt (slp P U l):=by
 intro id b body f r hbody hr;unfold slp at hr;split at hr
 ·rename_i an _
  simp only[bH9]at hr;subst hr;exact fun τ F s hp tm ht hs=>by6 hbody (an f s) f τ F s hp tm ht hs
 ·cases hr
end
def bs6 :List Oper->List Nat
 | []=>[]
 |o::os=>match o.dst with
  |some d=>d::bs6 os
  |none=>bs6 os
def au2 :Code->List Nat
 | .region _ ops _=>bs6 ops.toList
 | .seq x y=>au2 x++au2 y
 | .cond _ x y=>au2 x++au2 y
 | .block _ b=>au2 b
 | .loop b=>au2 b
 | .scope b=>au2 b
 |_=>[]
def anys (own:List (Nat×G)):List Nat->List Nat->List (At×G)
 |_,[]=>[]
 |seen,t::l=>bif M6 t seen then anys own seen l else match lk own t with
  |some _=>anys own (t::seen) l
  |none=>(.tmp t,.any)::anys own (t::seen) l
def ownT :List (Nat×G)->List (At×G)
 | []=>[]
 | (t,g)::l=>(.tmp t,g)::ownT l
def bs5 (b:Nat):Nat->List G->List (At×G)
 |_,[]=>[]
 |j,g::l=>(.cell b j,g)::bs5 b (j+1) l
def D4 (own:List (Nat×G))(blks:Fm->SS->Option (List (Nat×List G))):Code->Fm->SS->Option (List (At×G)×List Nat):=fun c f s=>match blks f s with
 |some bl=>some (ownT own++(bl.map fun p=>bs5 p.1 0 p.2).flatten++anys own [] (au2 c),bl.map Prod.fst)
 |none=>none
def mkPr (rs:Fm->SS->List (At×G))(own:List (Nat×G))(blks:Fm->SS->Option (List (Nat×List G))):Code->Fm->SS->Option (List (At×G)×List Nat):=fun c f s=>match D4 own blks c f s with
 |some r=>some (rs f s++r.1,r.2)
 |none=>none
end Go.Sx
namespace Go.Sx
open Go.Xe
def sx (P:Program)(U:Nat->List Dat->Dat)(anns:FuncId->List (Nat×(Fm->SS->R9)))(con:FuncId->Option (List SV->M SV))(n:Nat):D9:=
 P6 P U (fun call nt=>bi8 P U call nt) (fun _ g _=>slp P U (anns g)) con n
def sxF (P:Program)(U:Nat->List Dat->Dat)(anns:FuncId->List (Nat×(Fm->SS->R9)))(con:FuncId->Option (List SV->M SV))(n:Nat)(g:FuncId):List SV->M SV:=
 sfun P U (sx P U anns con n) (fun nt=>bi8 P U (sx P U anns con n) nt) (fun g _=>slp P U (anns g)) n g
section
variable {P :Program}{U:Nat->List Dat->Dat}{ov:FuncId->Option TypeId}
theorem bF7 (anns:FuncId->List (Nat×(Fm->SS->R9))){con:FuncId->Option (List SV->M SV)}(hcon:∀g k,con g=some k->B7 P U ov k g)(hT:∀g,isT (ov g)=true->con g≠none)(n:Nat):B5 P U ov (sx P U anns con n):=
 aC5 (fun _ hcall _=>aV7 hcall) (fun _ _ _ g _=>by7 (anns g)) hcon hT n
theorem bH4 (anns:FuncId->List (Nat×(Fm->SS->R9))){con:FuncId->Option (List SV->M SV)}(hcon:∀g k,con g=some k->B7 P U ov k g)(hT:∀g,isT (ov g)=true->con g≠none)(n:Nat)(g:FuncId)(hg:isT (ov g)=false):B7 P U ov (sxF P U anns con n g) g:=
 bj1 (bF7 anns hcon hT n) (fun _=>aV7 (bF7 anns hcon hT n)) (fun _ g _=>by7 (anns g)) n g hg
end
end Go.Sx
noncomputable section PartSm31
namespace Go.Sx
open Go.Xe Go.RowKit
def aL8 (w:World)(v:Value):Option Value:=match v with
 | .bool _| .int _ _| .string _=>some v
 | .slice none _ _=>some v
 | .slice (some ⟨i,_,none⟩) (l+1) c=>match w.heap[i]? with
  |some (.cells _ _ _)=>if l+1<=c/\c<unk then some v else none
  |_=>none
 | .slice (some _) 0 _=>some (.slice (some ⟨0,0,some 0⟩) 0 unk)
 |_=>none
def roT (w:World):Nat->List Value->T Value
 |_,[]=>.e
 |k,v::vs=>(roT w (k+1) vs).set k (aL8 w v)
theorem aN4 (w:World):∀(vs:List Value) (k j:Nat),(roT w k vs).get j=if k<=j then(vs[j-k]?).bind (aL8 w)else none
 | [],k,j=>by simp[roT,T.get_e]
 |v::vs,k,j=>by
  have ih:=aN4 w vs (k+1) j;unfold roT;rw[T.get_set]
  by_cases hjk:j=k
  ·subst hjk;rw[bK1 rfl,bK1 (bK2 _)];simp
  ·rw[bJ9 hjk,ih]
   by_cases hle:k+1<=j
   ·rw[bK1 hle,bK1 (by omega),show j-k=(j-(k+1))+1 by omega,bJ0]
   ·rw[bJ9 hle,bJ9 (by omega)]
def roB (w:World):Obj->Option Blk
 | .cells C e _=>some (.ro (roT w 0 C.toList) C.size e 0)
 |_=>none
def roM (w:World):Nat->List Obj->T Blk
 |_,[]=>.e
 |k,o::os=>(roM w (k+1) os).set k (roB w o)
theorem bi1 (w:World):∀(os:List Obj) (k j:Nat),(roM w k os).get j=if k<=j then(os[j-k]?).bind (roB w)else none
 | [],k,j=>by simp[roM,T.get_e]
 |o::os,k,j=>by
  have ih:=bi1 w os (k+1) j;unfold roM;rw[T.get_set]
  by_cases hjk:j=k
  ·subst hjk;rw[bK1 rfl,bK1 (bK2 _)];simp
  ·rw[bJ9 hjk,ih]
   by_cases hle:k+1<=j
   ·rw[bK1 hle,bK1 (by omega),show j-k=(j-(k+1))+1 by omega,bJ0]
   ·rw[bJ9 hle,bJ9 (by omega)]
def aV4 (w:World):Hp:=⟨roM w 0 w.heap.toList,w.heap.size⟩
def ar2 (w:World):Sg:=fun i=>match w.heap[i]? with
 |some (.cells C _ _)=>some ⟨i,0,C.size,0⟩
 |_=>none
def BS.ro (w:World):BS:=⟨(· <w.heap.size),(· <w.heap.size),fun _ h=>h⟩
theorem aC1 (w:World)(i:Nat):(aV4 w).m.get i=(w.heap[i]?).bind (roB w):=by
 show(roM w 0 w.heap.toList).get i=_;rw[bi1,bK1 (bR4 _)];simp
theorem bc3 {w:World}{i:Nat}{C:Array Value}{e:TypeId}{f:Nat×Nat}(h:w.heap[i]? =some (.cells C e f)):(aV4 w).m.get i=some (.ro (roT w 0 C.toList) C.size e 0):=by
 rw[aC1,h];rfl
theorem T4 {w:World}{v a:Value}(h:aL8 w v=some a):VR (ar2 w) a v:=by
 unfold aL8 at h;split at h
 ·cases h;exact .bool _
 ·cases h;exact .int _ _
 ·cases h;exact .string _
 ·cases h;exact .nils _ _
 ·rename_i i o l c
  split at h
  ·rename_i C e f hh
   split at h
   ·rename_i hc
    cases h;have hs:ar2 w i=some ⟨i,0,C.size,0⟩:=by unfold ar2;rw[hh]
    have:=VR.slice (σ:=ar2 w) i o _ (l+1) c c hs (.inl ⟨rfl,hc.2⟩) hc.1
    simpa using this
   ·cases h
  ·cases h
 ·cases h;exact .vague _ _
 ·cases h
theorem HR.ro (w : World) : HR (BS.ro w) w (ar2 w) (aV4 w) w := by
 refine⟨rfl,rfl,rfl,bK2 _,fun _ h=>h,fun _ _=>rfl,fun i hi=>?_,fun i b hg=>?_,fun i j b b' p q hi hj hne hp hq=>?_⟩
 ·have hi:w.heap.size<=i:=hi
  unfold ar2;rw[Array.getElem?_eq_none hi]
 ·rw[aC1,Option.bind_eq_some_iff]at hg
  obtain⟨o,ho,hb⟩:=hg;cases o with
  |cells C e f=>
   simp only[roB,bH9]at hb;subst hb;refine⟨⟨i,0,C.size,0⟩,_,by unfold ar2;rw[ho],(bJ4.1 ho).1,ho,C,f,rfl,rfl,rfl,by simp,fun j v hj hv=>?_⟩
   rw[aN4,bK1 (bR4 _),bQ1,Option.bind_eq_some_iff]at hv;obtain⟨u,h1,h2⟩:=hv;exact⟨u,by simpa using h1,T4 h2⟩
  |_=>cases hb
 ·have key : ∀ {i : Nat} {p : Xe.Pl}, ar2 w i = some p → p.blk = i := by
   intro i p h;unfold ar2 at h;split at h
   ·simp only[bH9]at h;rw[<-h]
   ·cases h
  rw[key hp,key hq];exact hne
def roF (w:World):Nat->Option Blk:=fun i=>(aV4 w).m.get i
theorem bx4 (w:World):∀i b,roF w i=some b->(aV4 w).m.get i=some b/\i<(aV4 w).nx:=by
 intro i b h;refine⟨h,?_⟩;rw[roF,aC1,Option.bind_eq_some_iff]at h;obtain⟨o,ho,_⟩:=h;exact(bJ4.1 ho).1
def aS9 (f:TypeId->Nat->List (Nat×TypeId))(o:Nat):List Field->List (Nat×TypeId)
 | []=>[]
 |x::xs=>f x.type (o+x.offset)++aS9 f o xs
def W1 (P:Program):Nat->TypeId->Nat->List (Nat×TypeId)
 |0,_,_=>[]
 |d+1,t,o=>match P.underlying t with
  |some (.struct fs)=>aS9 (W1 P d) o fs.toList
  |some (.array n e)=>((List.range n).map fun i=>W1 P d e (o+i*P.cellsOf e)).flatten
  |_=>[(o,t)]
def isAgg (P:Program)(t:TypeId):Bool:=match P.underlying t with
 |some (.struct _)=>true
 |some (.array _ _)=>true
 |_=>false
section
variable {H :Type}{enc:TypeId×Value->H}{P:Program}{w:World}{spare:Nat->Bool}{held:Bool}
theorem ab3 {α:Type}{cs:List α}{a n j:Nat}{v:α}(h:((cs.drop a).take n)[j]? =some v):cs[a+j]? =some v:=by
 rw[bL2]at h;split at h
 ·rw[bL8]at h;exact h
 ·cases h
theorem aI4 {f:TypeId->Nat->List (Nat×TypeId)}{o:Nat}{p:Nat×TypeId}:∀ {l:List Field},p∈aS9 f o l-> ∃x∈l,p∈f x.type (o+x.offset)
 | [],h=>by simp[aS9]at h
 |x::xs,h=>by
  unfold aS9 at h
  rcases bL6.1 h with h|h
  ·exact⟨x,by simp,h⟩
  ·obtain⟨y,h1,h2⟩:=aI4 h
   exact⟨y,by simp[h1],h2⟩
theorem ag7 : ∀ (d : Nat) {fuel : Nat} {t : TypeId} {cs : List Value} {x : DataW H × List MemPlace}, DataW.trod enc P w 0 spare held fuel t cs = some x → ∀ (a o : Nat) (u : TypeId), (o, u) ∈ W1 P d t a →
  ∃(j:Nat) (cs':List Value) (fuel':Nat) (x':DataW H×List MemPlace),o=a+j/\fuel'<=fuel/\isAgg P u=false/\DataW.trod enc P w 0 spare held fuel' u cs'=some x'/\ ∀(k:Nat) v,cs'[k]? =some v->cs[j+k]? =some v
 |0,fuel,t,cs,x,h,a,o,u,hm=>by simp[W1]at hm
 |d+1,fuel,t,cs,x,h,a,o,u,hm=>by
  unfold W1 at hm;split at hm
  ·rename_i fs ht
   obtain⟨xs,n,rfl,_,_,_,hf⟩:=DataW.trod_struct ht h;obtain⟨f,hf1,hf2⟩:=aI4 hm;obtain⟨i,hi⟩:=bN4.1 hf1;have hi':fs[i]? =some f:=by simpa using hi
   have:=hf i f hi';have hlt:i<xs.length:=by
    have:=(bI2.1 hi).1
    simp_all
   rw[bJ1 hlt]at this;obtain⟨j,cs',fuel',x',h1,h2,h3,h4,h5⟩:=ag7 d this (a+f.offset) o u hf2;exact⟨f.offset+j,cs',fuel',x',by omega,by omega,h3,h4,fun k v hv=>by rw[bN9];exact ab3 (h5 k v hv)⟩
  ·rename_i n e ht
   obtain⟨i,hi,hm⟩:∃i,i<n/\(o,u)∈W1 P d e (a+i*P.cellsOf e):=by
    simp only[List.mem_flatten,bQ2,List.mem_range]at hm;obtain⟨l,⟨i,hi,rfl⟩,hm⟩:=hm;exact⟨i,hi,hm⟩
   obtain⟨m,x',h1,h2⟩:∃m x',fuel=m+1/\DataW.trod enc P w 0 spare held m e ((cs.drop (i*P.cellsOf e)).take (P.cellsOf e))=some x':=by
    cases fuel with
    |zero=>simp[DataW.trod]at h
    |succ m=>
     unfold DataW.trod at h;rw[ht]at h;simp only at h;split at h
     ·rw[bQ3]at h
      obtain⟨xs,hx,_⟩:=h;have:=mapM_some_get hx i i (by simp[hi])
      have hl:=mapM_some_length hx;have hlt:i<xs.length:=by simp at hl;omega
      rw[bJ1 hlt]at this;exact⟨m,_,rfl,this⟩
     ·cases h
   subst h1;obtain⟨j,cs',fuel',x'',h1,h2,h3,h4,h5⟩:=ag7 d h2 _ o u hm;exact⟨i*P.cellsOf e+j,cs',fuel',x'',by omega,by omega,h3,h4,fun k v hv=>by rw[bN9];exact ab3 (h5 k v hv)⟩
  ·rename_i h1 h2
   simp only[bO4,bI1]at hm;obtain⟨rfl,rfl⟩:=hm;refine⟨0,cs,fuel,x,by omega,bK2 _,?_,h,fun k v hv=>by simpa using hv⟩
   unfold isAgg;split
   ·rename_i fs hh;exact absurd hh (h1 fs)
   ·rename_i n e hh;exact absurd hh (h2 n e)
   ·rfl
end
end Go.Sx
end PartSm31
noncomputable section PartSm32
namespace Go.Sx
open Go.Xe Go.RowKit
inductive DW (P : Program) : Kd → Dat → Prop
 |int (k:IntKind) (n:Int) (h:k.min<=n/\n<=k.max):DW P (.int k) (.int n)
 |bool (b:Bool):DW P .bool (.bool b)
 |str (s:List UInt8) (h:s.length<=maxLen):DW P .str (.str s)
 | sl (e : TypeId) (rows : Rows) (hl : rows.length ≤ maxLen) (hz : ∀ r ∈ rows, r.length = (kf P e).length)
   (h:∀(r k:Nat) (row:List Dat) (kd:Kd) (d:Dat),rows[r]? =some row->row[k]? =some d->(kf P e)[k]? =some kd->DW P kd d):DW P (.sl e) (.lst rows)
def ba6 (P:Program)(e:TypeId):Bool:=
 Nat.beq (W1 P 20 e 0).length (kf P e).length&&Nat.beq (P.cellsOf e) (kf P e).length&&Nat.ble 1 (kf P e).length&&
  ((W1 P 20 e 0).zipIdx.all fun p=>Nat.beq p.1.1 p.2)&&((W1 P 20 e 0).zip (kf P e)).all fun p=>decide (kd1 P p.1.2=p.2)
def aS4 (P:Program):Nat->Kd->Bool
 |_,.int _=>true
 |_,.bool=>true
 |_,.str=>true
 |n+1,.sl e=>ba6 P e&&(kf P e).all (aS4 P n)
 |_,_=>false
def aQ8 (P:Program)(S:Kd->Prop):Prop:=∀kd,S kd->match kd with
 | .int _=>True
 | .bool=>True
 | .str=>True
 | .sl e=>ba6 P e=true/\ ∀k∈kf P e,S k
 |_=>False
def inL (es:List TypeId):Kd->Bool
 | .int _=>true
 | .bool=>true
 | .str=>true
 | .sl e=>M6 e es
 |_=>false
theorem bB9 (P:Program):aQ8 P fun kd=>∃m,aS4 P m kd=true:=by
 rintro kd ⟨m,h⟩
 cases kd with
 |sl e=>
  cases m with
  |zero=>cases h
  |succ m=>
   simp only[aS4,bI0,bK9]at h;exact⟨h.1,fun k hk=>⟨m,h.2 k hk⟩⟩
 |_=>first|trivial| (cases m<;>cases h)
theorem bC0 {P:Program}{es:List TypeId}(h:(es.all fun e=>ba6 P e&&(kf P e).all (inL es))=true):aQ8 P fun kd=>inL es kd=true:=by
 intro kd hk;cases kd with
 |sl e=>
  have:=bK9.1 h e (W4 hk);simp only[bI0,bK9]at this;exact this
 |_=>first|trivial|cases hk
section
variable {H :Type}{enc:TypeId×Value->H}{P:Program}{w:World}{spare:Nat->Bool}{held:Bool}
theorem aA7 {e:TypeId}(h:ba6 P e=true):P.cellsOf e=(kf P e).length/\1<=(kf P e).length/\ ∀k kd,(kf P e)[k]? =some kd-> ∃u,(k,u)∈W1 P 20 e 0/\kd1 P u=kd:=by
 simp only[ba6,bI0,bL9,bN3]at h;obtain⟨⟨⟨⟨h1,h2⟩,h3⟩,h4⟩,h5⟩:=h;refine⟨h2,h3,fun k kd hk=>?_⟩
 have hlt:k<(kf P e).length:=(bI2.1 hk).1;have hl:k<(W1 P 20 e 0).length:=by omega
 have hg:=bJ1 hl;rw[bK9]at h4 h5;have a1:=h4 ((W1 P 20 e 0)[k],k) (by rw[List.mem_zipIdx_iff_getElem?];exact hg)
 have a2:=h5 ((W1 P 20 e 0)[k],kd) (bI9 (i:=k) (by rw[List.getElem?_zip_eq_some];exact⟨hg,hk⟩))
 simp only[bL9,bK0]at a1 a2
 grind
theorem br7 (a:Addr)(i j:Nat):(a.add i).add j=a.add (i+j):=by
 unfold Addr.add
 by_cases hi:i=0
 ·subst hi;simp
 ·by_cases hj:j=0
  ·subst hj;simp
  ·rw[bJ9 hi,bJ9 hj,bJ9 (by omega)];simp[bN9]
variable (P w) in
def ay6 (kd:Kd)(v:Value)(d:Dat):Prop:=∃a,aL8 w v=some a/\PV P (roF w) kd a d/\DW P kd d
theorem az0 {S:Kd->Prop}(hS:aQ8 P S):∀(N fuel:Nat),fuel<N-> ∀(u:TypeId) (cs:List Value) (x:DataW H×List MemPlace),DataW.trod enc P w 0 spare held fuel u cs=some x->S (kd1 P u)-> ∃v d,cs=[v]/\ay6 P w (kd1 P u) v d
 |0,_,h,_,_,_,_,_=>absurd h (Nat.not_lt_zero _)
 |N+1,fuel,hN,u,cs,x,ht,hg=>by
  unfold kd1 at hg⊢;split at hg
  ·rename_i k hu
   clear hg;obtain⟨n,rfl,_,hw⟩:=DataW.trod_int hu ht;refine⟨.int k n,.int n,rfl,.int k n,rfl,.int k n,.int k n ?_⟩;unfold Lit.wf at hw
   grind
  ·rename_i hu
   obtain⟨b,rfl,_⟩:=DataW.trod_bool hu ht;exact⟨.bool b,.bool b,rfl,.bool b,rfl,.bool b,.bool b⟩
  ·rename_i hu
   obtain⟨s,rfl,_,hs⟩:=DataW.trod_string hu ht;refine⟨.string s,.str s.data.toList,rfl,.string s,rfl,?_,.str _ ?_⟩
   ·exact .str s.data.toList
   ·simp_all
  ·rename_i e hu
   obtain⟨hlay,hkg⟩:=hS _ hg;obtain⟨l1,l2,l3⟩:=aA7 hlay
   rcases DataW.trod_slice hu ht with⟨rfl,_⟩| ⟨a,len,cap,elems,rest,n,rfl,rfl,_,_,hlc,hcm,hel,hes,_,_⟩
   ·exact⟨.slice none 0 0,.lst [],rfl,.slice none 0 0,rfl,.nils e,.sl e [] (bR4 _) (fun r h=>by simp at h) (fun r k row kd d h=>by simp at h)⟩
   ·cases len with
    |zero=>
     refine⟨.slice (some a) 0 cap,.lst [],rfl,.slice (some ⟨0,0,some 0⟩) 0 unk,?_,.vague e,.sl e [] (bR4 _) (fun r h=>by simp at h) (fun r k row kd d h=>by simp at h)⟩
     obtain⟨i,o,sp⟩:=a;cases sp<;>rfl
    |succ len=>
    have cell:∀r k,r<len+1->k<(kf P e).length-> ∀kd,(kf P e)[k]? =some kd-> ∃v d,w.cell? (a.add (r*P.cellsOf e+k))=some v/\ay6 P w kd v d:=by
     intro r k hr hk kd hkd;have h1:=hes r hr;have hlt:r<elems.length:=by omega
     rw[bJ1 hlt,Option.bind_eq_some_iff]at h1;obtain⟨cs,hc1,hc2⟩:=h1;obtain⟨_,hc3,hc4⟩:=World.cells?_some hc1;obtain⟨u',hu1,hu2⟩:=l3 k kd hkd;obtain⟨j,cs',fuel',x',q1,q2,q3,q4,q5⟩:=ag7 20 hc2 0 k u' hu1;obtain⟨v,d,rfl,hv⟩:=az0 hS N fuel' (by omega) u' cs' x' q4 (by rw[hu2];exact hkg kd (bI9 hkd))
     refine⟨v,d,?_,by rw[hu2]at hv;exact hv⟩
     have:=q5 0 v rfl;have hj:j=k:=by omega
     subst hj;rw[bO5]at this;rw[<-this,<-hc4 j (by omega)]
     congr 1
     exact(br7 a _ _).symm
    have first:∃kd,(kf P e)[0]? =some kd:=⟨_,bJ1 (by omega)⟩
    obtain⟨kd0,hkd0⟩:=first
    obtain⟨v0,_,hc0,_⟩:=cell 0 0 (by omega) (by omega) kd0 hkd0
    obtain⟨i,o,sp⟩:=a;have hsp:sp=none:=by
     cases sp with
     |none=>rfl
     |some q=>
      have hb:((⟨i,o,some q⟩:Addr).add (0*P.cellsOf e+0)).block=i:=by unfold Addr.add;split<;>rfl
      unfold World.cell? at hc0;rw[hb]at hc0;split at hc0
      ·rename_i hh
       have:((⟨i,o,some q⟩:Addr).add (0*P.cellsOf e+0)).spot.isSome=true:=by unfold Addr.add;simp
       grind
      ·cases hc0
    subst hsp;have hadd:∀j,(⟨i,o,none⟩:Addr).add j=⟨i,o+j,none⟩:=fun j=>bR2 _ _ _
    obtain⟨C,e',f,hh⟩:∃C e' f,w.heap[i]? =some (.cells C e' f):=by
     rw[hadd]at hc0;unfold World.cell? at hc0
     grind
    have cellC:∀r k,r<len+1->k<(kf P e).length-> ∀kd,(kf P e)[k]? =some kd-> ∃v d,C[o+r*(kf P e).length+k]? =some v/\ay6 P w kd v d:=by
     intro r k hr hk kd hkd;obtain⟨v,d,h1,h2⟩:=cell r k hr hk kd hkd;refine⟨v,d,?_,h2⟩;rw[hadd,cell_of_row w i _ C e' f hh,l1]at h1
     grind
    clear cell;have cellD:∀p:Nat×Nat,∃q:Value×Dat,p.1<len+1-> ∀kd,(kf P e)[p.2]? =some kd->C[o+p.1*(kf P e).length+p.2]? =some q.1/\ay6 P w kd q.1 q.2:=by
     intro⟨r,k⟩;simp only
     by_cases hr:r<len+1
     ·cases hk:(kf P e)[k]? with
      |none=>exact⟨(undef,.int 0),fun _ kd h=>by cases h⟩
      |some kd=>
       obtain⟨v,d,h1,h2⟩:=cellC r k hr (bI2.1 hk).1 kd hk;exact⟨(v,d),fun _ kd' h=>by cases h;exact⟨h1,h2⟩⟩
     ·exact⟨(undef,.int 0),fun h=>absurd h hr⟩
    obtain⟨ch,hch⟩:=Classical.axiomOfChoice cellD;obtain⟨vv,hvv⟩:∃vv:Nat->Nat->Value,∀r k,vv r k=(ch (r,k)).1:=⟨fun r k=>(ch (r,k)).1,fun _ _=>rfl⟩
    obtain⟨dd,hdd⟩:∃dd:Nat->Nat->Dat,∀r k,dd r k=(ch (r,k)).2:=⟨fun r k=>(ch (r,k)).2,fun _ _=>rfl⟩
    have hvd:∀r k,r<len+1-> ∀kd,(kf P e)[k]? =some kd->C[o+r*(kf P e).length+k]? =some (vv r k)/\ay6 P w kd (vv r k) (dd r k):=by simp_all
    have z1:=l2;generalize hz:(kf P e).length=z at*;have hfit:o+(len+1)*z<=C.size:=by
     have hk:(kf P e)[z-1]? =some ((kf P e)[z-1]'(by omega)):=bJ1 (by omega)
     have:=(hvd len (z-1) (by omega) _ hk).1
     grind
    let rows:Rows:=(List.range (len+1)).map fun r=>(List.range z).map fun k=>dd r k
    have rget:∀(r k:Nat) (row:List Dat) (d:Dat),rows[r]? =some row->row[k]? =some d->r<len+1/\k<z/\d=dd r k:=by grind
    have rlen:rows.length=len+1:=by simp[rows]
    have rz:∀r∈rows,r.length=z:=by
     intro r hr;simp only[rows,bQ2]at hr;obtain⟨i,_,rfl⟩:=hr;simp
    have hcu:cap<unk:=by have:=hcm;unfold maxLen at this;unfold unk;omega
    have habs:aL8 w (.slice (some ⟨i,o,none⟩) (len+1) cap)=some (.slice (some ⟨i,o,none⟩) (len+1) cap):=by
     unfold aL8;simp only[hh];rw[bK1 ⟨hlc,hcu⟩]
    have kdget:∀k,k<z-> ∃kd,(kf P e)[k]? =some kd:=fun k hk=>⟨_,bJ1 (by omega)⟩
    have cab:∀p:Nat×Nat,∃a,p.1<len+1->p.2<z->aL8 w (vv p.1 p.2)=some a:=by
     intro⟨r,k⟩;simp only
     by_cases h:r<len+1/\k<z
     ·obtain⟨kd,hkd⟩:=kdget k h.2
      obtain⟨_,a,ha,_⟩:=hvd r k h.1 kd hkd;exact⟨a,fun _ _=>ha⟩
     ·exact⟨undef,fun h1 h2=>absurd ⟨h1,h2⟩ h⟩
    obtain⟨ca,hca⟩:=Classical.axiomOfChoice cab;obtain⟨aa,haa'⟩:∃aa:Nat->Nat->Value,∀r k,aa r k=ca (r,k):=⟨fun r k=>ca (r,k),fun _ _=>rfl⟩
    have haa:∀r k,r<len+1->k<z->aL8 w (vv r k)=some (aa r k):=by
     intro r k h1 h2;rw[haa'];exact hca (r,k) h1 h2
    refine⟨_,.lst rows,rfl,_,habs,?_,?_⟩
    ·rw[<-rlen]
     refine .sl e i o cap (.ro (roT w 0 C.toList) C.size e' 0) (roT w 0 C.toList) C.size z (zb:=0) rows aa (bc3 hh) rfl ⟨.inl ⟨hcu,by omega⟩,fun _=>hcu,fun h=>by cases h⟩ (by rw[rlen];exact hfit) hz.symm rz ?_ ?_
     ·intro r k row d h1 h2
      obtain⟨g1,g2,rfl⟩:=rget r k row d h1 h2;obtain⟨kd,hkd⟩:=kdget k g2;have:=(hvd r k g1 kd hkd).1;rw[aN4,bK1 (bR4 _),bQ1];have e1:C.toList[o+r*z+k]? =some (vv r k):=by rw[<-this];simp
      rw[e1];exact haa r k g1 g2
     ·intro r k row kd d h1 h2 hkd
      obtain⟨g1,g2,rfl⟩:=rget r k row d h1 h2;obtain⟨_,a,ha,hp,_⟩:=hvd r k g1 kd hkd;have:=haa r k g1 g2;rw[ha]at this;cases this;exact hp
    ·refine .sl e rows (by rw[rlen];omega) (fun r hr=>by rw[hz];exact rz r hr) ?_
     intro r k row kd d h1 h2 hkd;obtain⟨g1,g2,rfl⟩:=rget r k row d h1 h2;exact(hvd r k g1 kd hkd).2.choose_spec.2.2
  ·exact(hS _ hg).elim
theorem bB6 {u:TypeId}{v:Value}{d:DataW H}{ps:List MemPlace}(h:DataW.Trod enc P w 0 spare held u v d ps){m:Nat}(hg:aS4 P m (kd1 P u)=true)(hv:v.cells.toList=[v]):∃d,ay6 P w (kd1 P u) v d:=by
 obtain⟨fuel,h⟩:=h;obtain⟨v',d,h1,h2⟩:=az0 (bB9 P) (fuel+1) fuel (bO0 _) u _ _ h ⟨m,hg⟩
 grind
theorem bs1 {S : Kd → Prop} (hS : aQ8 P S) {u : TypeId} {xs : Array Value} {d : DataW H} {ps : List MemPlace} (h : DataW.Trod enc P w 0 spare held u (.agg xs) d ps) (hl : ba6 P u = true) (hg : ∀ kd ∈ kf P u, S kd) :
  ∀(k:Nat) (kd:Kd),(kf P u)[k]? =some kd-> ∃(v:Value) (d:Dat),xs[k]? =some v/\ay6 P w kd v d:=by
 intro k kd hkd;obtain⟨fuel,h⟩:=h;obtain⟨l1,l2,l3⟩:=aA7 hl;obtain⟨u',hu1,hu2⟩:=l3 k kd hkd;obtain⟨j,cs',fuel',x',q1,q2,q3,q4,q5⟩:=ag7 20 h 0 k u' hu1;obtain⟨v,d,rfl,hv⟩:=az0 hS (fuel'+1) fuel' (bO0 _) u' cs' x' q4 (by rw[hu2];exact hg kd (bI9 hkd))
 have:=q5 0 v rfl;have hj:j=k:=by omega
 subst hj;refine⟨v,d,by simpa [Value.cells]using this,by rw[hu2]at hv;exact hv⟩
end
section
variable {P :Program}{U:Nat->List Dat->Dat}{ov:FuncId->Option TypeId}
theorem HR.roBelow {σ:Sg}{hp:Hp}{w w':World}(h:HR (BS.ro w) w σ hp w'):Below w.heap.size w w':=
 ⟨h.os,h.tape,h.output,h.size,h.kept⟩
end
end Go.Sx
end PartSm32
noncomputable section PartSm33
namespace Go.Sx
open Go.Xe
inductive Lf where
 |g (k:G)
 |ptr (i z:Nat)
 |nilp
 |clo (g:FuncId) (is:List (Nat×Nat))
def Lf.so :Lf->Option So
 | .g k=>k.so
 |_=>none
def Lf.na :Lf->Nat
 | .g k=>k.na
 |_=>0
def Lf.blk (x:Lf)(d:E):Option y4:=match x with
 | .g k=>k.blk .any d
 |_=>none
def lvv (num:Nat->Nat)(x:Lf)(e:E)(nb:Nat):SV:=match x with
 | .g k=>tv k .any e nb
 | .ptr i z=>.ptr (num i) z (.int 0) 0
 | .nilp=>.nilp
 | .clo g is=>.fn (.func g) [] (is.map fun p=>.ptr (num p.1) p.2 (.int 0) 0)
def aU6 (x:Lf)(es:List E):List E:=match x.so with
 |some _=>tl1 es
 |none=>es
def bs2 (num:Nat->Nat):List Lf->List E->Nat->List SV
 | [],_,_=>[]
 |x::l,es,nb=>lvv num x (hd1 es) nb::bs2 num l (aU6 x es) (nb+x.na)
def ab8 :List Lf->List E->Nat->List (Nat×Option y4)
 | [],_,_=>[]
 |x::l,es,nb=>match x.blk (hd1 es)with
  |some X=>(nb,some X)::ab8 l (aU6 x es) (nb+x.na)
  |none=>ab8 l (aU6 x es) (nb+x.na)
def v8 :List Lf->List So
 | []=>[]
 |x::l=>L7 x.so (v8 l)
def C4 :List Lf->Nat
 | []=>0
 |x::l=>x.na+C4 l
section
variable (P :Program)(U:Nat->List Dat->Dat)
def bw0 (x:Lf)(v:SV):M SV:=match x with
 | .g k=>aB4 P U k v
 |_=>c8 v
def aU1 :List Lf->List SV->M (List SV)
 |x::l,v::vs=>a8 (bw0 P U x v) fun v'=>a8 (aU1 l vs) fun vs'=>c8 (v'::vs')
 | [],[]=>c8 []
 |_,_=>a7 "contract: places"
def bt3 (bl:List Nat)(i b:Nat):Bool:=match bl[i]? with
 |some b'=>Nat.beq b b'
 |none=>false
def mtC (bl:List Nat):List (Nat×Nat)->List SV->Bool
 | [],[]=>true
 |p::is,.ptr b z (.int m) f::l=>bt3 bl p.1 b&&Nat.beq p.2 z&&decide (m=0)&&Nat.beq f 0&&mtC bl is l
 |_,_=>false
def bv7 (bl:List Nat)(x:Lf)(v:SV):M (Option E×Option Nat):=match x with
 | .g k=>mt1 U k .any v
 | .ptr i z=>match v with
  | .ptr b z' (.int m) f=>bif bt3 bl i b&&Nat.beq z z'&&decide (m=0)&&Nat.beq f 0 then c8 (none,none)else a7 "contract: another pointer"
  |_=>a7 "contract: no pointer"
 | .nilp=>match v with
  | .nilp=>c8 (none,none)
  |_=>a7 "contract: not nil"
 | .clo g is=>match v with
  | .fn (.func g') [] l=>bif Nat.beq g g'&&mtC bl is l then c8 (none,none)else a7 "contract: another function"
  |_=>a7 "contract: no function"
def mtL (bl:List Nat):List Lf->List SV->M (List E×List Nat)
 |x::l,v::vs=>a8 (bv7 U bl x v) fun r=>a8 (mtL bl l vs) fun t=>c8 (L7 r.1 t.1,L7 r.2 t.2)
 | [],[]=>c8 ([],[])
 |_,_=>a7 "contract: places"
end
section
variable {P :Program}{U:Nat->List Dat->Dat}
theorem bm9 {τ : Tau} {F : Nat → Option Blk} {s : SS} {hp : Hp} (x : Lf) {v : SV} {u : Value} (hv : VD P U τ F v u) (hs : SD P U τ F s hp) :
  OKh P U (bw0 P U x v) τ F s hp fun v' τ' F' hp'=>hp'=hp/\VD P U τ' F' v' u:=by
 cases x with
 |g k=>exact aU0 k hv hs
 |_=>exact OKh.ret ⟨rfl,hv⟩
theorem am9 : ∀ (ps : List Lf) (vs : List SV) (xs : List Value) (τ : Tau) (F : Nat → Option Blk) (s : SS) (hp : Hp), VDL P U τ F vs xs → SD P U τ F s hp →
  OKh P U (aU1 P U ps vs) τ F s hp fun vs' τ' F' hp'=>hp'=hp/\VDL P U τ' F' vs' xs
 | [],[],xs,τ,F,s,hp,hv,hs=>OKh.ret ⟨rfl,hv⟩
 | [],v::vs,xs,τ,F,s,hp,hv,hs=>OKh.fail
 |p::ps,[],xs,τ,F,s,hp,hv,hs=>OKh.fail
 |p::ps,v::vs,xs,τ,F,s,hp,hv,hs=>by
  obtain⟨y,ys,rfl,h1,h2⟩:=hv.uncons;unfold aU1;refine(bm9 p h1 hs).bind fun v' τ1 F1 s1 hp1 ex hs1 ⟨e1,e2⟩=>(am9 ps vs ys τ1 F1 s1 hp1 (h2.mono ex.t ex.f) hs1).bind fun vs' τ2 F2 s2 hp2 ex2 hs2 ⟨k1,k2⟩=>OKh.ret ⟨by rw[k1,e1],.cons (e2.mono ex2.t ex2.f) k2⟩
variable (P U) in
def LOK (bl:List Nat)(τ:Tau)(F:Nat->Option Blk)(s:SS)(x:Lf)(v:SV)(r:Option E×Option Nat):Prop:=
 (∀so,x.so=some so-> ∃e,r.1=some e)/\(x.so=none->r.1=none)/\(x.na=0->r.2=none)/\
 (∀u,VD P U τ F v u-> ∀(τ2:Tau) (num:Nat->Nat) (nb:Nat) (d:E),(∀i b,bl[i]? =some b->τ2 (num i)=τ b)->(∀e so,r.1=some e->x.so=some so->av0 U so e d)->(∀b,r.2=some b->τ2 nb=τ b)->VD P U τ2 F (lvv num x d nb) u)/\
 (x.na≠0-> ∃so,x.so=some so/\br2 P U τ F s so x.blk r)
theorem bh4 {bl:List Nat}:∀ {is:List (Nat×Nat)} {l:List SV} {num:Nat->Nat},mtC bl is l=true->(is.map fun p=>SV.ptr (num p.1) p.2 (.int 0) 0).length=l.length
 | [],[],num,_=>rfl
 | [],_::_,num,h=>by simp[mtC]at h
 |p::is,[],num,h=>by simp[mtC]at h
 |p::is,a::l,num,h=>by
  unfold mtC at h;split at h
  ·grind
  ·rename_i e1 e2
   cases e1;cases e2;simp only[bI0]at h;have:=bh4 (num:=num) h.2
   grind
  ·cases h
theorem bh3 {bl : List Nat} {τ τ2 : Tau} {F : Nat → Option Blk} {num : Nat → Nat} : ∀ {is : List (Nat × Nat)} {l : List SV} {ys : List Value}, mtC bl is l = true → (∀ i b, bl[i]? = some b → τ2 (num i) = τ b) → VDL P U τ F l ys →
  ∀ {i:Nat} {a:SV} {x:Value},(is.map fun p=>SV.ptr (num p.1) p.2 (.int 0) 0)[i]? =some a->ys[i]? =some x->VD P U τ2 F a x
 | [],l,ys,h,hb,hv,i,a,x,ha,hx=>by simp at ha
 |p::is,[],ys,h,hb,hv,i,a,x,ha,hx=>by simp[mtC]at h
 |p::is,b0::l,ys,h,hb,hv,i,a,x,ha,hx=>by
  unfold mtC at h;split at h
  ·grind
  ·rename_i e1 e2
   cases e1;cases e2;simp only[bI0,bL9,bK0]at h;obtain⟨⟨⟨⟨h1,h2⟩,h3⟩,h4⟩,h5⟩:=h;subst h3;subst h4;obtain⟨y,ys',rfl,k1,k2⟩:=hv.uncons;cases i with
   |zero=>
    simp only[bN0,bJ5,bH9]at ha hx;subst ha;subst hx;unfold bt3 at h1;split at h1
    ·rename_i b' hb'
     have:=bI4 h1;subst this;cases k1 with
     |ptr _ _ _ _ i' o' h h0=>rw[h2];exact .ptr _ _ (.int 0) 0 i' o' (by rw[hb _ _ hb'];exact h) h0
    ·cases h1
   |succ i=>
    simp only[bN0,bJ0]at ha hx;exact bh3 h5 hb k2 ha hx
  ·cases h
theorem bC7 {τ:Tau}{F:Nat->Option Blk}{s:SS}(bl:List Nat)(x:Lf)(v:SV):OKp U (bv7 U bl x v) s fun r=>∀s',s'.h=s.h->LOK P U bl τ F s' x v r:=by
 cases x with
 |g k=>
  refine(bv6 (P:=P) (τ:=τ) (F:=F) (fun _=>none) k .any v).mono fun r h s' hs'=>?_
  obtain⟨h1,h2,h3,h4,h5⟩:=h s' hs';refine⟨h1,h2,h3,fun u hu τ2 num nb d _ hd hb=>h4 u hu τ2 nb d (fun b p e=>by cases e) ⟨fun _=>none,undef,.any _⟩ hd hb,fun hna=>h5.1 hna⟩
 |ptr i z=>
  simp only[bv7];split
  ·rename_i b z' m f
   cases hc:bt3 bl i b&&Nat.beq z z'&&decide (m=0)&&Nat.beq f 0 with
   |false=>exact OKp.fail
   |true=>
    simp only[bI0,bL9,bK0]at hc;obtain⟨⟨⟨hi,rfl⟩,rfl⟩,rfl⟩:=hc;refine OKp.ret fun s' _=>⟨fun so h=>(by cases h),fun _=>rfl,fun _=>rfl,fun u hu τ2 num nb d hb _ _=>?_,fun h=>absurd rfl h⟩
    unfold bt3 at hi;split at hi
    ·rename_i b' hb'
     have:=bI4 hi;subst this;cases hu with
     |ptr _ _ _ _ i' o' h h0=>exact .ptr (num i) z (.int 0) 0 i' o' (by rw[hb i b hb'];exact h) h0
    ·cases hi
  ·exact OKp.fail
 |clo g is=>
  simp only[bv7];split
  ·rename_i g' l
   cases hc:Nat.beq g g'&&mtC bl is l with
   |false=>exact OKp.fail
   |true=>
    rw[bI0]at hc;have:=bI4 hc.1;subst this;refine OKp.ret fun s' _=>⟨fun so h=>(by cases h),fun _=>rfl,fun _=>rfl,fun u hu τ2 num nb d hb _ _=>?_,fun h=>absurd rfl h⟩
    cases hu with
    |fn _ _ _ xs ys h1 h2 h3 h4=>
     refine .fn _ _ _ xs ys h1 (fun i a x ha hx=>by simp at ha) (by rw[<-h3];exact bh4 hc.2) fun i a x ha hx=>?_
     exact bh3 hc.2 hb ⟨h3,h4⟩ ha hx
  ·exact OKp.fail
 |nilp=>
  simp only[bv7];split
  ·refine OKp.ret fun s' _=>⟨fun so h=>(by cases h),fun _=>rfl,fun _=>rfl,fun u hu τ2 num nb d _ _ _=>?_,fun h=>absurd rfl h⟩
   cases hu;exact .nilp
  ·exact OKp.fail
variable (P U) in
def ai6 (bl:List Nat)(τ:Tau)(F:Nat->Option Blk)(s:SS):List Lf->List SV->List E->List Nat->Prop
 | [],[],es,bs=>es=[]/\bs=[]
 |x::l,v::vs,es,bs=>∃r es' bs',es=L7 r.1 es'/\bs=L7 r.2 bs'/\LOK P U bl τ F s x v r/\ai6 bl τ F s l vs es' bs'
 |_,_,_,_=>False
theorem aM8 {τ:Tau}{F:Nat->Option Blk}(bl:List Nat):∀(ps:List Lf) (vs:List SV) (s:SS),OKp U (mtL U bl ps vs) s fun r=>∀s',s'.h=s.h->ai6 P U bl τ F s' ps vs r.1 r.2
 | [],[],s=>OKp.ret fun _ _=>⟨rfl,rfl⟩
 | [],_::_,s=>OKp.fail
 |_::_,[],s=>OKp.fail
 |p::ps,v::vs,s=>by
  unfold mtL;refine(bC7 (P:=P) (τ:=τ) (F:=F) bl p v).bind fun r s1 o1 _ h1=>(aM8 (τ:=τ) (F:=F) bl ps vs s1).bind fun t s2 o2 _ h2=>OKp.ret fun s' hs'=>?_
  exact⟨r,t.1,t.2,rfl,rfl,h1 s' hs',h2 s' (by rw[hs',o1.h])⟩
section
variable {bl :List Nat}{τ:Tau}{F:Nat->Option Blk}{s:SS}
theorem Lf.blk_none {x:Lf}(h:x.na=0)(d:E):x.blk d=none:=by
 cases x with
 |g k=>exact G.blk_none h .any d
 |_=>rfl
theorem aT0 {x : Lf} {ps : List Lf} {v : SV} {r : Option E × Option Nat} {es' ds : List E} (h : LOK P U bl τ F s x v r) (hd : W7 U (v8 (x :: ps)) (L7 r.1 es') ds) :
  (∀e so,r.1=some e->x.so=some so->av0 U so e (hd1 ds))/\W7 U (v8 ps) es' (aU6 x ds)/\(∀b,r.2=some b->x.na=1)/\(x.na=0\/x.na=1):=by
 obtain⟨m1,m2,m3,m4,m5⟩:=h;have hna:x.na=0\/x.na=1:=by
  cases x with
  |g k=>exact k.na_le
  |_=>exact .inl rfl
 refine⟨?_,?_,fun b hb=>?_,hna⟩
 ·intro e so he hso
  unfold v8 at hd;rw[hso,he]at hd;cases ds with
  |nil=>exact hd.elim
  |cons d ds=>exact hd.1
 ·unfold v8 at hd
  cases hso:x.so with
  |none=>
   rw[hso,m2 hso]at hd;unfold aU6;rw[hso];exact hd
  |some so=>
   obtain⟨e,he⟩:=m1 so hso;rw[hso,he]at hd;cases ds with
   |nil=>exact hd.elim
   |cons d ds=>unfold aU6;rw[hso];exact hd.2
 ·grind
theorem ai6.vals : ∀ {ps : List Lf} {vs : List SV} {es : List E} {bs : List Nat} {ds : List E} {xs : List Value} {τ2 : Tau} {num : Nat → Nat} {nb : Nat}, ai6 P U bl τ F s ps vs es bs → W7 U (v8 ps) es ds →
  (∀i b,bl[i]? =some b->τ2 (num i)=τ b)->(∀k b,bs[k]? =some b->τ2 (nb+k)=τ b)->VDL P U τ F vs xs->VDL P U τ2 F (bs2 num ps ds nb) xs
 | [], [], es, bs, ds, xs, τ2, num, nb, h, hd, hk, hb, hx => by
   have:xs=[]:=bI5 hx.1.symm;subst this;exact VDL.nil
 | [],_::_,es,bs,ds,xs,τ2,num,nb,h,hd,hk,hb,hx=>h.elim
 |x::ps,[],es,bs,ds,xs,τ2,num,nb,h,hd,hk,hb,hx=>h.elim
 |x::ps,v::vs,es,bs,ds,xs,τ2,num,nb,h,hd,hk,hb,hx=>by
  obtain⟨r,es',bs',rfl,rfl,hm,hms⟩:=h;obtain⟨y,ys,rfl,h1,h2⟩:=hx.uncons;obtain⟨s1,s2,s3,s4⟩:=aT0 hm hd;unfold bs2;refine .cons (hm.2.2.2.1 y h1 τ2 num nb (hd1 ds) hk s1 fun b hr=>?_) (ai6.vals hms s2 hk (fun k b hkb=>?_) h2)
  ·have:=hb 0 b (by rw[hr];rfl)
   grind
  ·rcases s4 with h0|h0
   ·rw[h0,bO5]
    have hr:r.2=none:=hm.2.2.1 h0;rw[hr]at hb;exact hb k b hkb
   ·obtain⟨so,_,b',L,x',hr,_⟩:=hm.2.2.2.2 (by omega)
    rw[hr]at hb;have:=hb (k+1) b hkb
    grind
theorem ai6.blks : ∀ {ps : List Lf} {vs : List SV} {es : List E} {bs : List Nat} {ds : List E} {nb : Nat}, ai6 P U bl τ F s ps vs es bs → W7 U (v8 ps) es ds →
  ∀b' y,lk (ab8 ps ds nb) b'=some y-> ∃k b X x',b'=nb+k/\bs[k]? =some b/\y=some X/\s.get b=some x'/\(∀(τ2:Tau) o z,BD P U τ F o x' z->BD P U τ2 F o X z)/\(E8 P U x'->E8 P U X)
 | [],vs,es,bs,ds,nb,h,hd=>fun b' y hy=>by simp[ab8,lk]at hy
 |x::ps,[],es,bs,ds,nb,h,hd=>h.elim
 |x::ps,v::vs,es,bs,ds,nb,h,hd=>by
  obtain⟨r,es',bs',rfl,rfl,hm,hms⟩:=h;obtain⟨s1,s2,s3,s4⟩:=aT0 hm hd;intro b' y hy;have ih:=ai6.blks (nb:=nb+x.na) hms s2
  by_cases hna:x.na=0
  ·have hr:r.2=none:=hm.2.2.1 hna
   have hy':lk (ab8 ps (aU6 x ds) (nb+x.na)) b'=some y:=by
    unfold ab8 at hy;rw[Lf.blk_none hna]at hy;exact hy
   obtain⟨k,b,X,x',h1,h2⟩:=ih b' y hy';exact⟨k,b,X,x',by rw[h1,hna,bO5],by rw[hr];exact h2⟩
  ·have hn1:x.na=1:=s4.resolve_left hna
   obtain⟨so,hso,b0,L,x',hr,hrL,hx,hbd⟩:=hm.2.2.2.2 hna;obtain⟨X0,hX,k1,k2⟩:=hbd (hd1 ds) (s1 L so hrL hso);have hy':lk ((nb,some X0)::ab8 ps (aU6 x ds) (nb+x.na)) b'=some y:=by
    unfold ab8 at hy
    grind
   rw[t8]at hy';split at hy'
   ·rename_i e1
    simp only[bH9]at hy';exact⟨0,b0,_,x',e1.symm,by rw[hr];rfl,hy'.symm,hx,k1,k2⟩
   ·obtain⟨k,b,X,x'',h1,h2,h3⟩:=ih b' y hy'
    exact⟨k+1,b,X,x'',by rw[h1,hn1];omega,by rw[hr];exact h2,h3⟩
theorem ai6.live :∀ {ps:List Lf} {vs:List SV} {es:List E} {bs:List Nat},ai6 P U bl τ F s ps vs es bs-> ∀ {k b:Nat},bs[k]? =some b-> ∃x,s.get b=some x
 | [],[],es,bs,h,k,b,hb=>by rw[h.2]at hb;simp at hb
 | [],_::_,es,bs,h,k,b,hb=>h.elim
 |p::ps,[],es,bs,h,k,b,hb=>h.elim
 |p::ps,v::vs,es,bs,h,k,b,hb=>by
  obtain⟨r,es',bs',rfl,rfl,hm,hms⟩:=h;cases hr:r.2 with
  |none=>rw[hr]at hb;exact hms.live hb
  |some b0=>
   rw[hr]at hb;cases k with
   |succ k=>exact hms.live (k:=k) hb
   |zero=>
    have hna:p.na≠0:=fun h0=>by rw[hm.2.2.1 h0]at hr;cases hr
    obtain⟨so,_,b1,L,x',h1,_,hx,_⟩:=hm.2.2.2.2 hna;rw[hr]at h1;simp only[bH9]at h1;have e0:b0=b:=by simpa [L7]using hb
    grind
theorem ai6.len :∀ {ps:List Lf} {vs:List SV} {es:List E} {bs:List Nat},ai6 P U bl τ F s ps vs es bs->es.length=(v8 ps).length
 | [],[],es,bs,h=>by rw[h.1];rfl
 | [],_::_,es,bs,h=>h.elim
 |p::ps,[],es,bs,h=>h.elim
 |p::ps,v::vs,es,bs,h=>by
  obtain⟨r,es',bs',rfl,rfl,hm,hms⟩:=h;have ih:=hms.len;unfold v8;cases hso:p.so with
  |none=>rw[hm.2.1 hso];exact ih
  |some so=>
   obtain⟨e,he⟩:=hm.1 so hso;rw[he];simp only[L7,bM2,ih]
end
inductive Vs where
 |one (l:Lf)
 |agg (ls:List Lf)
def Vs.lfs :Vs->List Lf
 | .one l=>[l]
 | .agg ls=>ls
def Vs.fl :Vs->SV->Option (List SV)
 | .one _,v=>some [v]
 | .agg ls,.agg l=>bif Nat.beq l.length ls.length then some l else none
 |_,_=>none
def hdV :List SV->SV
 | []=>.any
 |v::_=>v
def Vs.mk :Vs->List SV->SV
 | .one _,l=>hdV l
 | .agg _,l=>.agg l
def aA0 :List Vs->List SV->Option (List SV)
 | [],[]=>some []
 |a::r,v::vs=>match a.fl v with
  |some l=>match aA0 r vs with
   |some m=>some (l++m)
   |none=>none
  |none=>none
 |_,_=>none
def Q8 :List Vs->List Lf
 | []=>[]
 |a::r=>a.lfs++Q8 r
def bm7 :List Vs->List SV->List SV
 | [],_=>[]
 |a::r,fl=>a.mk (fl.take a.lfs.length)::bm7 r (fl.drop a.lfs.length)
theorem VDL.split {τ:Tau}{F:Nat->Option Blk}{gl:List SV}{xs ys:List Value}(h:VDL P U τ F gl (xs++ys)):VDL P U τ F (gl.take xs.length) xs/\VDL P U τ F (gl.drop xs.length) ys:=by
 induction xs generalizing gl with
 |nil=>exact⟨by simpa using VDL.nil,by simpa using h⟩
 |cons x xs ih=>
  cases gl with
  |nil=>have:=h.1;simp at this
  |cons a gl=>
   obtain⟨y,ys',e,h1,h2⟩:=h.uncons;cases e;obtain⟨k1,k2⟩:=ih h2;exact⟨.cons h1 k1,k2⟩
theorem Vs.fl_ok {τ : Tau} {F : Nat → Option Blk} {a : Vs} {v : SV} {l : List SV} {x : Value} (h : a.fl v = some l) (hv : VD P U τ F v x) :
  ∃xs,VDL P U τ F l xs/\xs.length=a.lfs.length/\ ∀(τ2:Tau) F2 gl,VDL P U τ2 F2 gl xs->VD P U τ2 F2 (a.mk gl) x:=by
 cases a with
 |one lf=>
  simp only[Vs.fl,bH9]at h;subst h;refine⟨[x],.cons hv .nil,rfl,fun τ2 F2 gl hg=>?_⟩
  cases gl with
  |nil=>have:=hg.1;simp at this
  |cons b gl=>obtain⟨y,ys,e,h1,_⟩:=hg.uncons;cases e;exact h1
 |agg ls=>
  unfold Vs.fl at h;split at h
  ·grind
  ·rename_i ls' m hh
   cases hh;cases hc:Nat.beq m.length ls.length with
   |false=>grind
   |true=>
    rw[hc,bJ6,bH9]at h;subst h;cases hv with
    |agg _ xs h1 h2=>exact⟨xs,⟨h1,h2⟩,by rw[<-h1];exact bI4 hc,fun τ2 F2 gl hg=>.agg gl xs hg.1 hg.2⟩
  ·cases h
theorem ax4 {τ : Tau} {F : Nat → Option Blk} : ∀ {as : List Vs} {vs fl : List SV} {args : List Value}, aA0 as vs = some fl → VDL P U τ F vs args →
  ∃fx,VDL P U τ F fl fx/\fx.length=(Q8 as).length/\ ∀(τ2:Tau) F2 gl rest,VDL P U τ2 F2 gl fx->VDL P U τ2 F2 (bm7 as (gl++rest)) args
 | [],[],fl,args,h,hv=>by
  simp only[aA0,bH9]at h;subst h;have:args=[]:=bI5 hv.1.symm;subst this;exact⟨[],.nil,rfl,fun _ _ _ _ _=>.nil⟩
 | [],_::_,fl,args,h,hv=>by simp[aA0]at h
 |_::_,[],fl,args,h,hv=>by simp[aA0]at h
 |a::r,v::vs,fl,args,h,hv=>by
  unfold aA0 at h;split at h
  ·rename_i l hl
   split at h
   ·rename_i m hm
    cases h;obtain⟨y,ys,rfl,h1,h2⟩:=hv.uncons;obtain⟨xs,k1,k2,k3⟩:=Vs.fl_ok hl h1;obtain⟨fx,q1,q2,q3⟩:=ax4 hm h2;refine⟨xs++fx,k1.append q1,by simp[Q8,k2,q2],fun τ2 F2 gl rest hg=>?_⟩
    obtain⟨g1,g2⟩:=hg.split;have hlen:xs.length<=gl.length:=by rw[hg.1];simp
    unfold bm7;rw[<-k2,List.take_append_of_le_length hlen,List.drop_append_of_le_length hlen];exact .cons (k3 τ2 F2 _ g1) (q3 τ2 F2 _ rest g2)
   ·cases h
  ·cases h
def resL :List Vs->SV->Option (List SV)
 | [_],a=>some [a]
 |_,.tup l=>some l
 |_,_=>none
def bh7 :List Vs->List SV->SV
 | [_],l=>hdV l
 |_,l=>.tup l
theorem bD5 {τ : Tau} {F : Nat → Option Blk} {res : List Vs} {a : SV} {l : List SV} {v : Value} (h : resL res a = some l) (hv : VD P U τ F a v) :
  ∃xs,VDL P U τ F l xs/\ ∀(τ2:Tau) F2 l2,VDL P U τ2 F2 l2 xs->VD P U τ2 F2 (bh7 res l2) v:=by
 unfold resL at h;split at h
 ·simp only[bH9]at h
  subst h;refine⟨[v],.cons hv .nil,fun τ2 F2 gl hg=>?_⟩
  cases gl with
  |nil=>have:=hg.1;simp at this
  |cons b gl=>obtain⟨y,ys,e,h1,_⟩:=hg.uncons;cases e;exact h1
 ·rename_i r m hne
  cases h;cases hv with
  |tup _ xs h1 h2=>
   refine⟨xs,⟨h1,h2⟩,fun τ2 F2 gl hg=>?_⟩
   unfold bh7;split
   ·grind
   ·exact .tup gl xs hg.1 hg.2
 ·cases h
abbrev al1:=TypeId ×Nat×List Lf
def bu2 :List al1->List Lf
 | []=>[]
 |a::r=>a.2.2++bu2 r
def az7 (s : SS) : List al1 → List Nat → Option (List SV)
 | [],[]=>some []
 | a :: r, b :: bs => match s.get b with
  | some (.cells l e' z') => bif Nat.beq a.1 e' && Nat.beq a.2.1 z' && Nat.beq l.length a.2.2.length then
    match az7 s r bs with
    |some m=>some (l++m)
    |none=>none
   else none
  |_=>none
 |_,_=>none
def ac1 (num:Nat->Nat):Nat->List al1->List SV->List (Nat×Option y4)
 |_,[],_=>[]
 |i,a::r,fl=>(num i,some (.cells (fl.take a.2.2.length) a.1 a.2.1))::ac1 num (i+1) r (fl.drop a.2.2.length)
def BX (τ:Tau)(hp:Hp):List al1->List Nat->List Value->Prop
 | [],[],fx=>fx=[]
 |a::r,b::bs,fx=>∃xs ys,fx=xs++ys/\xs.length=a.2.2.length/\(∃i o cs n,τ b=some (some (i,o))/\hp.m.get i=some (.cells cs n a.1 a.2.1)/\o+xs.length<=n/\ ∀(j:Nat) x,xs[j]? =some x->cs.get (o+j)=some x)/\BX τ hp r bs ys
 |_,_,_=>False
theorem BX.mono {τ τ':Tau}{hp:Hp}(ht:Tle τ τ'):∀ {r:List al1} {bs:List Nat} {fx:List Value},BX τ hp r bs fx->BX τ' hp r bs fx
 | [],[],fx,h=>h
 | [],_::_,fx,h=>h.elim
 |_::_,[],fx,h=>h.elim
 |a::r,b::bs,fx,h=>by
  obtain⟨xs,ys,h1,h2,⟨i,o,cs,n,h3,h4⟩,h5⟩:=h;exact⟨xs,ys,h1,h2,⟨i,o,cs,n,ht _ _ h3,h4⟩,h5.mono ht⟩
theorem BX.len {τ:Tau}{hp:Hp}:∀ {r:List al1} {bs:List Nat} {fx:List Value},BX τ hp r bs fx->bs.length=r.length/\fx.length=(bu2 r).length
 | [],[],fx,h=>by have h:fx=[]:=h;subst h;exact⟨rfl,rfl⟩
 | [],_::_,fx,h=>h.elim
 |_::_,[],fx,h=>h.elim
 |a::r,b::bs,fx,h=>by
  obtain⟨xs,ys,rfl,h2,_,h5⟩:=h;obtain⟨k1,k2⟩:=h5.len;exact⟨by simp[k1],by simp[bu2,h2,k2]⟩
theorem ax3 {τ : Tau} {F : Nat → Option Blk} {s : SS} {hp : Hp} (hs : SD P U τ F s hp) : ∀ {r : List al1} {bs : List Nat} {fl : List SV}, az7 s r bs = some fl → ∃ fx, VDL P U τ F fl fx ∧ BX τ hp r bs fx
 | [],[],fl,h=>by
  simp only[az7,bH9]at h;subst h;exact⟨[],.nil,rfl⟩
 | [],_::_,fl,h=>by simp[az7]at h
 |_::_,[],fl,h=>by simp[az7]at h
 | a :: r, b :: bs, fl, h => by
  unfold az7 at h;split at h
  ·rename_i l e' z' hb
   cases hc:Nat.beq a.1 e'&&Nat.beq a.2.1 z'&&Nat.beq l.length a.2.2.length with
   |false=>rw[hc]at h;cases h
   | true =>
    rw[hc,bJ6]at h;simp only[bI0,bL9]at hc;obtain⟨⟨rfl,rfl⟩,hlen⟩:=hc;split at h
    ·rename_i m hm
     cases h;obtain⟨fx,q1,q2⟩:=ax3 hs hm
     rcases hs.live b _ hb with⟨i,o,y,h1,h2,h3,cs,n,rfl,h4,h5⟩| ⟨_,L,e',z',ph,h2,_⟩
     ·have hcell : ∀ j, ∃ x, ∀ a', l[j]? = some a' → cs.get (o + j) = some x ∧ VD P U τ F a' x := by
       intro j;cases hj:l[j]? with
       |none=>exact⟨undef,fun a' e=>by cases e⟩
       |some a'=>simp_all
      obtain⟨ch,hch⟩:=Classical.axiomOfChoice hcell
      let xs:=(List.range l.length).map ch
      have hxs:xs.length=l.length:=by simp[xs]
      have hxg:∀(j:Nat) x,xs[j]? =some x-> ∃a',l[j]? =some a'/\x=ch j:=by
       intro j x hx;have hj:j<l.length:=by grind
       refine⟨l[j],bJ1 hj,?_⟩
       grind
      have hv:VDL P U τ F l xs:=⟨hxs.symm,fun j a' x ha hx=>by
       obtain⟨_,_,rfl⟩:=hxg j x hx;exact(hch j a' ha).2⟩
      refine⟨xs++fx,hv.append q1,xs,fx,rfl,by rw[hxs];exact hlen,⟨i,o,cs,n,h1,h2,by rw[hxs];exact h4,fun j x hx=>?_⟩,q2⟩
      obtain⟨a',ha',rfl⟩:=hxg j x hx;exact(hch j a' ha').1
     ·cases h2
    ·cases h
  ·cases h
theorem aM7 {τ τ2 : Tau} {F : Nat → Option Blk} {hp : Hp} {num : Nat → Nat} {rest : List SV} : ∀ {r : List al1} {bs : List Nat} {fx : List Value} {gl : List SV} {i0 : Nat}, BX τ hp r bs fx → VDL P U τ2 F gl fx → ∀ {b : Nat} {y : Option y4}, lk (ac1 num i0 r (gl ++ rest)) b = some y →
  ∃j bj X i o Y,b=num (i0+j)/\bs[j]? =some bj/\y=some X/\(∃l e z,X= .cells l e z)/\τ bj=some (some (i,o))/\hp.m.get i=some Y/\BD P U τ2 F o X Y
 | [],[],fx,gl,i0,h,hv,b,y,hy=>by simp[ac1,lk]at hy
 | [],_::_,fx,gl,i0,h,hv,b,y,hy=>h.elim
 |_::_,[],fx,gl,i0,h,hv,b,y,hy=>h.elim
 |a::r,b0::bs,fx,gl,i0,h,hv,b,y,hy=>by
  obtain⟨xs,ys,rfl,h2,⟨i,o,cs,n,h3,h4,h5,h6⟩,h7⟩:=h;obtain⟨g1,g2⟩:=hv.split;have hlen:xs.length<=gl.length:=by rw[hv.1];simp
  unfold ac1 at hy;rw[<-h2,List.take_append_of_le_length hlen,List.drop_append_of_le_length hlen,t8]at hy;split at hy
  ·rename_i e
   simp only[bH9]at hy;subst hy;refine⟨0,b0,_,i,o,_,e.symm,rfl,rfl,⟨_,_,_,rfl⟩,h3,h4,cs,n,rfl,by rw[g1.1];exact h5,fun j a' ha=>?_⟩
   obtain⟨x,hx,hvx⟩:=g1.get ha;exact⟨x,h6 j x hx,hvx⟩
  ·obtain⟨j,bj,X,i',o',Y,e1,e2,e3⟩:=aM7 h7 g2 hy
   exact⟨j+1,bj,X,i',o',Y,by rw[e1];congr 1;omega,e2,e3⟩
theorem aB1 {num:Nat->Nat}:∀ {r:List al1} {fl:List SV} {i0 j:Nat},j<r.length->num (i0+j)∈(ac1 num i0 r fl).map Prod.fst
 | [],fl,i0,j,h=>by simp at h
 |a::r,fl,i0,0,h=>by simp[ac1]
 |a::r,fl,i0,j+1,h=>by
  simp only[ac1,bN0,bL7]
  right
  have:=aB1 (num:=num) (r:=r) (fl:=fl.drop a.2.2.length) (i0:=i0+1) (j:=j) (by simpa using h)
  grind
end
end Go.Sx
end PartSm33
noncomputable section PartSm34
namespace Go.Sx
open Go.Xe
structure Con where
 name:String
 args:List Vs
 blks:List al1
 find:List SV->SS->Option (List Nat)
 pre:List Dat->Prop
 res:List Vs
 post:List al1
 find':SV->SS->Option (List Nat)
 rel:List Dat->List Dat->Prop
def Con.inL (c:Con):List Lf:=Q8 c.args++bu2 c.blks
def Con.outL (c:Con):List Lf:=Q8 c.res++bu2 c.post
def t6 :Nat->Nat->List Nat
 |_,0=>[]
 |i,n+1=>i::t6 (i+1) n
theorem A8 :∀(n i:Nat),(t6 i n).length=n
 |0,_=>rfl
 |n+1,i=>by simp[t6,A8 n]
theorem ad9 :∀(n i k:Nat),(t6 i n)[k]? =if k<n then some (i+k)else none
 |0,i,k=>by simp[t6]
 |n+1,i,0=>by simp[t6]
 |n+1,i,k+1=>by
  simp only[t6,bJ0,ad9 n (i+1) k]
  grind
def idN :Nat->Nat:=fun i=>i
def am4 (c:Con)(es:List E):List SV:=bs2 idN c.inL es c.blks.length
def aS2 (c:Con)(es:List E):List SV:=bm7 c.args (am4 c es)
def gst (c:Con)(es:List E)(fv:Nat):SS:=⟨ac1 idN 0 c.blks ((am4 c es).drop (Q8 c.args).length)++ab8 c.inL es c.blks.length,c.blks.length+C4 c.inL,[],fv,[]⟩
def aw9 (τ:Tau)(ns:List Nat):Tau:=fun b=>match ns[b]? with
 |some b'=>τ b'
 |none=>none
def S8 (c:Con)(bl:List Nat)(n:Nat)(i:Nat):Nat:=bif Nat.ble (i+1) c.blks.length then bl.getD i 0 else n+(i-c.blks.length)
def O8 (c:Con)(es:List E)(s:SS)(bl:List Nat):List SV:=bs2 (S8 c bl s.nx) c.outL es (s.nx+(c.post.length-c.blks.length))
def fst_ (c:Con)(es:List E)(s:SS)(bl kill:List Nat):SS:=
 ⟨ac1 (S8 c bl s.nx) 0 c.post ((O8 c es s bl).drop (Q8 c.res).length)++(ab8 c.outL es (s.nx+(c.post.length-c.blks.length))++(U1 (kill++ [s.nx])++s.h)),s.nx+(c.post.length-c.blks.length)+C4 c.outL,s.fc,s.fv+(v8 c.outL).length,s.fz⟩
def aI5 (s:SS)(b:Nat):Bool:=(s.get b).isSome
section
variable (P :Program)(U:Nat->List Dat->Dat)
def cfin (c:Con)(es:List E)(a:SV):M Unit:=m9 fun s=>match resL c.res a with
 |none=>a7 "contract: result"
 |some l=>match aA0 c.res l with
  |none=>a7 "contract: results"
  |some fl1=>match c.find' a s with
   |none=>a7 "contract: new blocks"
   |some nw=>match az7 s c.post (t6 0 c.blks.length++nw)with
    |none=>a7 "contract: blocks behind"
    |some fl2=>a8 (aU1 P U c.outL (fl1++fl2)) fun vs=>a8 (mtL U (t6 0 c.blks.length++nw) c.outL vs) fun t=>m9 fun s2=>
     bif (t6 0 c.blks.length++nw).all (aI5 s2)&&ah1 (nw++t.2)&&nw.all (Nat.ble (c.blks.length+C4 c.inL))&&t.2.all (Nat.ble c.blks.length)&&Nat.beq t.2.length (C4 c.outL)&&Nat.beq (nw.length+c.blks.length) c.post.length then
      fun _=>.need (.pt (c.name++ "Rel") [(v8 c.inL).zip es,(v8 c.outL).zip t.1]) (c.rel (u6 U (v8 c.inL) es) (u6 U (v8 c.outL) t.1)) .done
     else a7 "contract: the end"
def cvc (c:Con)(run:List SV->M SV):Tr (Unit×SS):=
 bk7 (v8 c.inL) 0 fun es=>.asm (.pt (c.name++ "Pre") [(v8 c.inL).zip es]) (c.pre (u6 U (v8 c.inL) es)) ((a8 (run (aS2 c es)) (cfin P U c es)) (gst c es (v8 c.inL).length))
def bt6 (c:Con)(args:List SV):M SV:=m9 fun s0=>match aA0 c.args args with
 |none=>a7 "contract: arguments"
 |some fl1=>match c.find args s0 with
  |none=>a7 "contract: no blocks"
  |some bl=>match az7 s0 c.blks bl with
   |none=>a7 "contract: blocks"
   |some fl2=>a8 (aU1 P U c.inL (fl1++fl2)) fun vs=>a8 (mtL U bl c.inL vs) fun t=>m9 fun s1=>
    bif bl.all (aI5 s1)&&ah1 (bl++t.2)&&Nat.beq t.2.length (C4 c.inL)&&Nat.ble c.blks.length c.post.length then
     fun _=>.need (.pt (c.name++ "Pre") [(v8 c.inL).zip t.1]) (c.pre (u6 U (v8 c.inL) t.1)) (bk7 (v8 c.outL) s1.fv fun ds=>.asm (.pt (c.name++ "Rel") [(v8 c.inL).zip t.1,(v8 c.outL).zip ds]) (c.rel (u6 U (v8 c.inL) t.1) (u6 U (v8 c.outL) ds))
      (.ret (bh7 c.res (bm7 c.res (O8 c ds s1 bl)),fst_ c ds s1 bl t.2)))
    else a7 "contract: the start"
end
section
variable {P :Program}{U:Nat->List Dat->Dat}{ov:FuncId->Option TypeId}
theorem aq3 {s:SS}{b:Nat}(h:aI5 s b=true):∃x,s.get b=some x:=Option.isSome_iff_exists.1 h
theorem M1 {τ:Tau}{ns:List Nat}{b b':Nat}(h:ns[b]? =some b'):aw9 τ ns b=τ b':=by unfold aw9;rw[h]
theorem bt0 {c : Con} {τ : Tau} {F : Nat → Option Blk} {s : SS} {hp : Hp} {vs : List SV} {fx1 fx2 : List Value} {bl accs : List Nat} {es ds : List E} {fv : Nat} (hs : SD P U τ F s hp) (hv : VDL P U τ F vs (fx1 ++ fx2)) (h1 : fx1.length = (Q8 c.args).length)
  (hb:BX τ hp c.blks bl fx2) (hm:ai6 P U bl τ F s c.inL vs es accs) (hd:ah1 (bl++accs)=true) (hlive:∀b∈bl,∃x,s.get b=some x) (hn:accs.length=C4 c.inL) (hsm:W7 U (v8 c.inL) es ds):
  SD P U (aw9 τ (bl++accs)) F (gst c ds fv) hp/\VDL P U (aw9 τ (bl++accs)) F (am4 c ds) (fx1++fx2)/\ ∀b x,(gst c ds fv).get b=some x-> ∃b' x',(bl++accs)[b]? =some b'/\s.get b'=some x':=by
 have hbl:bl.length=c.blks.length:=hb.len.1;have n1:∀i b,bl[i]? =some b->(bl++accs)[i]? =some b:=fun i b h=>by rw[bI8 (bI2.1 h).1];exact h
 have n2:∀k b,accs[k]? =some b->(bl++accs)[c.blks.length+k]? =some b:=fun k b h=>by
  grind
 have hvals:VDL P U (aw9 τ (bl++accs)) F (am4 c ds) (fx1++fx2):=hm.vals hsm (fun i b h=>M1 (n1 i b h)) (fun k b h=>M1 (n2 k b h)) hv
 obtain ⟨_,v2⟩:=hvals.split;rw [h1] at v2;have hblk:=hm.blks (nb:=c.blks.length) hsm;have cls : ∀ b x, (gst c ds fv).get b = some x →
   (∃b' i o Y,bl[b]? =some b'/\(∃l e z,x= .cells l e z)/\τ b'=some (some (i,o))/\hp.m.get i=some Y/\BD P U (aw9 τ (bl++accs)) F o x Y)\/
   (∃k b' x',b=c.blks.length+k/\accs[k]? =some b'/\s.get b'=some x'/\(∀(τ2:Tau) o z,BD P U τ F o x' z->BD P U τ2 F o x z)/\(E8 P U x'->E8 P U x)):=by
  intro b x hbx;have hbx':(match lk (ac1 idN 0 c.blks ((am4 c ds).drop (Q8 c.args).length)++ab8 c.inL ds c.blks.length) b with|some x=>x|none=>none)=some x:=hbx
  rw[C5]at hbx';cases c1:lk (ac1 idN 0 c.blks ((am4 c ds).drop (Q8 c.args).length)) b with
  |some y=>
   rw[c1]at hbx';simp only at hbx';subst hbx';rw[<-bQ9 ((am4 c ds).drop (Q8 c.args).length)]at c1;obtain⟨j,bj,X,i,o,Y,e1,e2,e3,e4,e5,e6,e7⟩:=aM7 hb v2 c1;cases e3;have:b=j:=by rw[e1];show 0+j=j;omega
   grind
  |none=>grind
 have src:∀b x,(gst c ds fv).get b=some x-> ∃b' x',(bl++accs)[b]? =some b'/\s.get b'=some x':=by
  intro b x hbx
  rcases cls b x hbx with⟨b',i,o,Y,e1,_⟩| ⟨k,b',x',rfl,e2,e3,_⟩
  ·obtain⟨x',hx'⟩:=hlive b' (bI9 e1)
   grind
  ·grind
 refine⟨⟨fun b x hbx=>?_,fun b b2 x y i o j q hbx hby hne e1 e2=>?_,hs.frz,fun b i o h=>?_,hs.flt,fun b hle=>?_,(fun _ _ h=>by cases h),fun _ h=>by cases h⟩,hvals,src⟩
 ·rcases cls b x hbx with⟨b',i,o,Y,e1,e2,e3,e4,e5⟩| ⟨k,b',x',rfl,e2,e3,e4,e5⟩
  ·obtain⟨x',hx'⟩:=hlive b' (bI9 e1)
   rcases hs.live b' x' hx' with⟨i',o',y',k1,_,k3,_⟩| ⟨k1,_⟩
   ·rw[e3]at k1
    cases k1;exact .inl ⟨i,o,Y,by rw[M1 (n1 b b' e1)];exact e3,e4,k3,e5⟩
   ·grind
  ·rcases hs.live b' x' e3 with⟨i,o,y,k1,k2,k3,k4⟩| ⟨k1,k2⟩
   ·exact .inl ⟨i,o,y,by rw[M1 (n2 k b' e2)];exact k1,k2,k3,e4 _ o y k4⟩
   ·exact .inr ⟨by rw[M1 (n2 k b' e2)];exact k1,e5 k2⟩
 ·obtain⟨b',x',k1,k2⟩:=src b x hbx
  obtain⟨c',y',k3,k4⟩:=src b2 y hby;rw[M1 k1]at e1;rw[M1 k3]at e2;refine hs.inj b' c' x' y' i o j q k2 k4 (fun e=>?_) e1 e2
  subst e;exact hne (ad0 hd b b2 b' k1 k3)
 ·unfold aw9 at h
  split at h
  ·exact hs.lt _ i o h
  ·cases h
 ·have hle:c.blks.length+C4 c.inL<=b:=hle
  unfold aw9
  grind
variable (P U ov) in
def m8 (c:Con)(g:FuncId):Prop:=∀(es:List E),es.length=(v8 c.inL).length->c.pre (u6 U (v8 c.inL) es)-> ∀τ F hp xs,SD P U τ F (gst c (E4 U (v8 c.inL) 0 es) (v8 c.inL).length) hp->VDL P U τ F (aS2 c (E4 U (v8 c.inL) 0 es)) xs->
 ∃v τ' F' s' hp' vs fx1 fx2 es' nw accs,aL7 P ov g xs hp v hp'/\Ext τ F (gst c (E4 U (v8 c.inL) 0 es) (v8 c.inL).length) hp τ' F' s' hp'/\SD P U τ' F' s' hp'/\VDL P U τ' F' vs (fx1++fx2)/\fx1.length=(Q8 c.res).length/\
  (∀(τ2:Tau) F2 gl rest,VDL P U τ2 F2 gl fx1->VD P U τ2 F2 (bh7 c.res (bm7 c.res (gl++rest))) v)/\BX τ' hp' c.post (t6 0 c.blks.length++nw) fx2/\ai6 P U (t6 0 c.blks.length++nw) τ' F' s' c.outL vs es' accs/\
  (∀b∈t6 0 c.blks.length++nw,∃x,s'.get b=some x)/\ah1 (nw++accs)=true/\(∀b∈nw,c.blks.length+C4 c.inL<=b)/\(∀b∈accs,c.blks.length<=b)/\accs.length=C4 c.outL/\nw.length+c.blks.length=c.post.length/\
  c.rel (u6 U (v8 c.inL) es) (u6 U (v8 c.outL) es')
theorem aK0 {c:Con}{run:List SV->M SV}{g:FuncId}(hrun:B7 P U ov run g)(hvc:(cvc P U c run).vc U fun _=>True):m8 P U ov c g:=by
 intro es hlen hpre τ F hp xs hs hx;have hq:=al3 (U:=U) _ _ _ hvc es hlen;have hq:=hq (by rw[J3 _ _ _ hlen];exact hpre)
 generalize hds:E4 U (v8 c.inL) 0 es=ds at*;rw[y5]at hq;obtain⟨a,s1,hq,τ1,F1,hp1,ex1,hs1,v,hrunv,hva⟩:=hrun _ xs τ F _ hp hx hs _ hq hs;unfold cfin at hq;simp only[m9]at hq;cases c1:resL c.res a with
 |none=>rw[c1]at hq;exact hq.elim
 |some l=>
 rw[c1]at hq;simp only at hq;cases c2:aA0 c.res l with
 |none=>rw[c2]at hq;exact hq.elim
 |some fl1=>
 rw[c2]at hq;simp only at hq;cases c3:c.find' a s1 with
 |none=>rw[c3]at hq;exact hq.elim
 |some nw=>
 rw[c3]at hq;simp only at hq;cases c4:az7 s1 c.post (t6 0 c.blks.length++nw)with
 |none=>rw[c4]at hq;exact hq.elim
 |some fl2=>
 rw[c4]at hq;simp only at hq;obtain⟨us,hl1,hl2⟩:=bD5 c1 hva;obtain⟨fx1,hf1,hf2,hf3⟩:=ax4 c2 hl1;obtain⟨fx2,hb1,hb2⟩:=ax3 hs1 c4;rw[y5]at hq;obtain⟨vs,s2,hq,τ2,F2,hp2,ex2,hs2,rfl,hvs⟩:=am9 c.outL (fl1++fl2) (fx1++fx2) τ1 F1 s1 hp1 (hf1.append hb1) hs1 _ hq hs1;rw[y5]at hq;obtain⟨⟨es',accs⟩,s3,hq,o3,hf3',hmt⟩:=aM8 (P:=P) (τ:=τ2) (F:=F2) (t6 0 c.blks.length++nw) c.outL vs s2 _ hq hs2.fc;simp only[m9]at hq;cases c5:(t6 0 c.blks.length++nw).all (aI5 s3)&&ah1 (nw++accs)&&nw.all (Nat.ble (c.blks.length+C4 c.inL))&&accs.all (Nat.ble c.blks.length)&&Nat.beq accs.length (C4 c.outL)&&Nat.beq (nw.length+c.blks.length) c.post.length with
 |false=>rw[c5]at hq;exact hq.elim
 |true=>
 rw[c5]at hq;simp only[bI0,bK9,bN3,bL9]at c5;obtain⟨⟨⟨⟨⟨k1,k2⟩,k3⟩,k4⟩,k5⟩,k6⟩:=c5;have hrel:c.rel (u6 U (v8 c.inL) ds) (u6 U (v8 c.outL) es'):=hq.1;have hd:u6 U (v8 c.inL) ds=u6 U (v8 c.inL) es:=by rw[<-hds];exact J3 _ _ _ hlen
 rw[hd]at hrel;have hs3:=hs2.only o3 hf3';exact⟨v,τ2,F2,s3,hp2,vs,fx1,fx2,es',nw,accs,hrunv,ex1.trans (ex2.trans (Ext.only hs2 o3)),hs3,hvs,hf2,fun τ3 F3 gl rest hg=>hl2 τ3 F3 _ (hf3 τ3 F3 gl rest hg),hb2.mono ex2.t,hmt s3 o3.h,
  fun b hb=>aq3 (k1 b hb),k2,k3,k4,k5,k6,hrel⟩
end
end Go.Sx
end PartSm34
noncomputable section PartSm35
namespace Go.Sx
open Go.Xe
section
variable {P :Program}{U:Nat->List Dat->Dat}{ov:FuncId->Option TypeId}
theorem ax9 {c:Con}{bl:List Nat}{n i b:Nat}(hi:i<c.blks.length)(h:bl[i]? =some b):S8 c bl n i=b:=by
 unfold S8;rw[bI6 hi,bJ6,List.getD,h];rfl
theorem ax8 {c:Con}{bl:List Nat}{n k:Nat}:S8 c bl n (c.blks.length+k)=n+k:=by
 unfold S8;have:Nat.ble (c.blks.length+k+1) c.blks.length=false:=by
  cases h:Nat.ble (c.blks.length+k+1) c.blks.length with
  |false=>rfl
  |true=>simp_all;omega
 grind
theorem bs9 {c : Con} {τ1 : Tau} {F1 : Nat → Option Blk} {s1 : SS} {hp1 : Hp} {bl kill : List Nat} {ds0 : List E} {fv : Nat} {τ' : Tau} {F' : Nat → Option Blk} {s' : SS} {hp' : Hp} {vs : List SV} {fx1 fx2 : List Value} {es ds : List E} {nw accs : List Nat}
  (hs1:SD P U τ1 F1 s1 hp1) (hbl:bl.length=c.blks.length) (hkl:kill.length=C4 c.inL) (hlv:∀b∈bl++kill,∃x,s1.get b=some x) (_:ah1 (bl++kill)=true)
  (hsrc:∀b x,(gst c ds0 fv).get b=some x-> ∃b' x',(bl++kill)[b]? =some b'/\s1.get b'=some x')
  (ex:Ext (aw9 τ1 (bl++kill)) F1 (gst c ds0 fv) hp1 τ' F' s' hp') (hs:SD P U τ' F' s' hp') (hv:VDL P U τ' F' vs (fx1++fx2)) (hf1:fx1.length=(Q8 c.res).length) (hb:BX τ' hp' c.post (t6 0 c.blks.length++nw) fx2)
  (hm:ai6 P U (t6 0 c.blks.length++nw) τ' F' s' c.outL vs es accs) (hl:∀b∈t6 0 c.blks.length++nw,∃x,s'.get b=some x) (hd:ah1 (nw++accs)=true) (hnw:∀b∈nw,c.blks.length+C4 c.inL<=b)
  (hac:∀b∈accs,c.blks.length<=b) (hna:accs.length=C4 c.outL) (hnl:nw.length+c.blks.length=c.post.length) (hsm:W7 U (v8 c.outL) es ds):
  SD P U (K7 τ1 τ' s1.nx (nw++accs)) F' (fst_ c ds s1 bl kill) hp'/\Ext τ1 F1 s1 hp1 (K7 τ1 τ' s1.nx (nw++accs)) F' (fst_ c ds s1 bl kill) hp'/\VDL P U (K7 τ1 τ' s1.nx (nw++accs)) F' (O8 c ds s1 bl) (fx1++fx2):=by
 have hm0:c.post.length-c.blks.length=nw.length:=by omega
 have gnx:(gst c ds0 fv).nx=(bl++kill).length:=by show c.blks.length+C4 c.inL=_;rw[bK6,hbl,hkl]
 have blt:∀b x,s1.get b=some x->b<s1.nx:=fun b x h=>hs1.bound h
 have blt1:∀b p,τ1 b=some p->b<s1.nx:=fun b p hb=>Nat.lt_of_not_le fun hle=>by rw[hs1.new b hle]at hb;cases hb
 have lo:∀b,b<s1.nx->K7 τ1 τ' s1.nx (nw++accs) b=τ1 b:=fun b hb=>ag5 hb
 have nsb:∀k b,(bl++kill)[k]? =some b->b<s1.nx/\τ' k=τ1 b:=by
  intro k b h;obtain⟨x,hx⟩:=hlv b (bI9 h);exact⟨blt b x hx,by rw[ex.st k (by rw[gnx];exact(bI2.1 h).1),M1 h]⟩
 have hnum:∀i b,(t6 0 c.blks.length++nw)[i]? =some b->K7 τ1 τ' s1.nx (nw++accs) (S8 c bl s1.nx i)=τ' b:=by
  intro i b h
  by_cases hi:i<c.blks.length
  ·rw[bI8 (by rw[A8];exact hi),ad9,bK1 hi,bL1]at h
   cases h;have hbi:bl[i]? =some (bl[i]'(by omega)):=bJ1 (by omega)
   have hns:(bl++kill)[i]? =some (bl[i]'(by omega)):=by grind
   obtain⟨k1,k2⟩:=nsb i _ hns;rw[ax9 hi hbi,lo _ k1,k2]
  ·rw[bI7 (by rw[A8];omega),A8]at h
   obtain⟨k,rfl⟩:∃k,i=c.blks.length+k:=⟨i-c.blks.length,by omega⟩
   rw[bP3]at h;rw[ax8];exact ao0 (by rw[bI8 (bI2.1 h).1];exact h)
 have hacn:∀k b,accs[k]? =some b->K7 τ1 τ' s1.nx (nw++accs) (s1.nx+(c.post.length-c.blks.length)+k)=τ' b:=by
  intro k b h;rw[hm0,bN9];exact ao0 (by rw[bI7 (by omega),bP3];exact h)
 have hvals:VDL P U (K7 τ1 τ' s1.nx (nw++accs)) F' (O8 c ds s1 bl) (fx1++fx2):=hm.vals hsm hnum hacn hv;obtain⟨_,v2⟩:=hvals.split;rw[hf1]at v2;have hblk:=hm.blks (nb:=s1.nx+(c.post.length-c.blks.length)) hsm;have htle:Tle τ1 (K7 τ1 τ' s1.nx (nw++accs)):=fun b p hb=>by rw[lo b (blt1 b p hb)];exact hb
 have srcs:∀k b,(t6 0 c.blks.length++(nw++accs))[k]? =some b->K7 τ1 τ' s1.nx (nw++accs) (S8 c bl s1.nx k)=τ' b:=by
  intro k b h
  by_cases hi:k<c.blks.length
  ·refine hnum k b ?_
   rw[bI8 (by rw[A8];exact hi)]at h⊢
   exact h
  ·rw[bI7 (by rw[A8];omega),A8]at h
   obtain⟨j,rfl⟩:∃j,k=c.blks.length+j:=⟨k-c.blks.length,by omega⟩
   rw[bP3]at h;rw[ax8];exact ao0 h
 have dsrc:∀(k k':Nat) b,(t6 0 c.blks.length++(nw++accs))[k]? =some b->(t6 0 c.blks.length++(nw++accs))[k']? =some b->k=k':=by
  have hge:∀b∈nw++accs,c.blks.length<=b:=fun b hb=>by
   grind
  intro k k' b h h'
  by_cases hk:k<c.blks.length
  ·rw[bI8 (by rw[A8];exact hk),ad9,bK1 hk,bL1]at h
   cases h
   by_cases hk':k'<c.blks.length
   ·rw[bI8 (by rw[A8];exact hk'),ad9,bK1 hk',bL1]at h'
    grind
   ·rw[bI7 (by rw[A8];omega)]at h'
    have:=hge k (bI9 h');omega
  ·rw[bI7 (by rw[A8];omega)]at h
   by_cases hk':k'<c.blks.length
   ·rw[bI8 (by rw[A8];exact hk'),ad9,bK1 hk',bL1]at h'
    cases h';have:=hge k' (bI9 h);omega
   ·rw[bI7 (by rw[A8];omega)]at h'
    have:=ad0 hd _ _ b h h';rw[A8]at this;omega
 have cls : ∀ b x, (fst_ c ds s1 bl kill).get b = some x →
   (∃k b',b=S8 c bl s1.nx k/\(t6 0 c.blks.length++(nw++accs))[k]? =some b'/\(∃x',s'.get b'=some x')/\
    ((∃i o Y,τ' b'=some (some (i,o))/\hp'.m.get i=some Y/\F' i=none/\BD P U (K7 τ1 τ' s1.nx (nw++accs)) F' o x Y)\/(τ' b'=some none/\E8 P U x)))\/
   (b<s1.nx/\b∉bl/\b∉kill/\s1.get b=some x):=by
  intro b x hbx;have hbx':(match lk (ac1 (S8 c bl s1.nx) 0 c.post ((O8 c ds s1 bl).drop (Q8 c.res).length)++(ab8 c.outL ds (s1.nx+(c.post.length-c.blks.length))++(U1 (kill++ [s1.nx])++s1.h))) b with|some x=>x|none=>none)=some x:=hbx
  rw[C5,C5,C5]at hbx';cases c1:lk (ac1 (S8 c bl s1.nx) 0 c.post ((O8 c ds s1 bl).drop (Q8 c.res).length)) b with
  |some y=>
   rw[c1]at hbx';simp only at hbx';subst hbx';rw[<-bQ9 ((O8 c ds s1 bl).drop (Q8 c.res).length)]at c1;obtain⟨j,bj,X,i,o,Y,e1,e2,e3,_,e5,e6,e7⟩:=aM7 hb v2 c1;cases e3
   left
   obtain⟨x',hx'⟩:=hl bj (bI9 e2);have hF:F' i=none:=by
    rcases hs.live bj x' hx' with⟨i',o',y',k1,_,k3,_⟩| ⟨k1,_⟩
    ·grind
    ·grind
   refine⟨j,bj,by rw[e1,bL1],?_,⟨x',hx'⟩,.inl ⟨i,o,Y,e5,e6,hF,e7⟩⟩
   rw[<-bJ3,bI8 (bI2.1 e2).1];exact e2
  |none=>
   rw[c1]at hbx';simp only at hbx';cases c2:lk (ab8 c.outL ds (s1.nx+(c.post.length-c.blks.length))) b with
   |some y=>
    rw[c2]at hbx';simp only at hbx';subst hbx';obtain⟨k,b',X,x',e1,e2,e3,e4,e5,e6⟩:=hblk b _ c2;cases e3
    left
    refine⟨c.blks.length+(nw.length+k),b',by rw[ax8,e1,hm0,bN9],?_,⟨x',e4⟩,?_⟩
    ·rw[bI7 (by rw[A8];omega),A8,bP3,bI7 (by omega),bP3];exact e2
    ·rcases hs.live b' x' e4 with⟨i,o,y,k1,k2,k3,k4⟩| ⟨k1,k2⟩
     ·exact .inl ⟨i,o,y,k1,k2,k3,e5 _ o y k4⟩
     ·exact .inr ⟨k1,e6 k2⟩
   |none=>
    rw[c2,Q7]at hbx';simp only at hbx'
    by_cases hk:b∈kill++ [s1.nx]
    ·rw[bK1 hk]at hbx';cases hbx'
    ·rw[bJ9 hk]at hbx'
     have hb1:s1.get b=some x:=hbx';refine .inr ⟨blt b x hb1,fun hbb=>?_,fun h=>hk (bR6 _ h),hb1⟩
     obtain⟨i,hi⟩:=bN4.1 hbb;have hlt:i<c.blks.length:=by have:=(bI2.1 hi).1;omega
     have:=aB1 (num:=S8 c bl s1.nx) (r:=c.post) (fl:=(O8 c ds s1 bl).drop (Q8 c.res).length) (i0:=0) (j:=i) (by omega)
     rw[bL1,ax9 hlt hi]at this;exact absurd this (aM5 c1)
 obtain⟨lg,a1,a2,a3,a4,_⟩:=ex.hh;have genloc:∀b0 x i o,(gst c ds0 fv).get b0=some x->aw9 τ1 (bl++kill) b0=some (some (i,o))-> ∃b' x',b'∈bl++kill/\s1.get b'=some x'/\τ1 b'=some (some (i,o)):=by
  intro b0 x i o h0 ht;obtain⟨b',x',k1,k2⟩:=hsrc b0 x h0;rw[M1 k1]at ht;exact⟨b',x',bI9 k1,k2,ht⟩
 have locT:∀b i o,b<(gst c ds0 fv).nx->τ' b=some (some (i,o))-> ∃b' x',b'∈bl++kill/\s1.get b'=some x'/\τ1 b'=some (some (i,o)):=by
  intro b i o hb ht;rw[gnx]at hb;have hg:=bJ1 hb;obtain⟨_,k2⟩:=nsb b _ hg;obtain⟨x,hx⟩:=hlv _ (bI9 hg);rw[k2]at ht;exact⟨_,x,bI9 hg,hx,ht⟩
 have loc:∀b i o,τ' b=some (some (i,o))->hp1.nx<=i\/ ∃b' x' o',b'∈bl++kill/\s1.get b'=some x'/\τ1 b'=some (some (i,o')):=by
  intro b i o ht
  by_cases hb:b<(gst c ds0 fv).nx
  ·obtain⟨b',x',h1,h2,h3⟩:=locT b i o hb ht
   exact .inr ⟨b',x',o,h1,h2,h3⟩
  ·rcases a3 b i o (bP7 hb) ht with h| ⟨b0,x,o0,h1,h2,_⟩
   ·omega
   ·obtain⟨b',x',k1,k2,k3⟩:=genloc b0 x i o0 h1 h2
    exact .inr ⟨b',x',o0,k1,k2,k3⟩
 have apart:∀b x i o c' y o',s1.get b=some x->b∉bl->b∉kill->τ1 b=some (some (i,o))->c'∈bl++kill->s1.get c'=some y->τ1 c'=some (some (i,o'))->False:=by
  intro b x i o c' y o' h1 h2 h3 h4 h5 h6 h7;have hne:b≠c':=fun e=>by
   subst e
   rcases bL6.1 h5 with h|h
   ·exact h2 h
   ·exact h3 h
  exact hs1.inj b c' x y i o i o' h1 h6 hne h4 h7 rfl
 have keysB:∀b∈bl,b∈(ac1 (S8 c bl s1.nx) 0 c.post ((O8 c ds s1 bl).drop (Q8 c.res).length)).map Prod.fst:=by
  intro b hbb;obtain⟨i,hi⟩:=bN4.1 hbb;have hlt:i<c.blks.length:=by have:=(bI2.1 hi).1;omega
  have:=aB1 (num:=S8 c bl s1.nx) (r:=c.post) (fl:=(O8 c ds s1 bl).drop (Q8 c.res).length) (i0:=0) (j:=i) (by omega)
  rw[bL1,ax9 hlt hi]at this;exact this
 have keys:∀b∈bl++kill,b∈(ac1 (S8 c bl s1.nx) 0 c.post ((O8 c ds s1 bl).drop (Q8 c.res).length)++(ab8 c.outL ds (s1.nx+(c.post.length-c.blks.length))++U1 (kill++ [s1.nx]))).map Prod.fst:=by
  intro b hbb;simp only[bM6,bL6]
  rcases bL6.1 hbb with h|h
  ·exact .inl (keysB b h)
  ·exact .inr (.inr (bQ2.2 ⟨(b,none),Q9 (by rw[Q7,bK1 (bR6 _ h)]),rfl⟩))
 have untouched:∀b x i o,s1.get b=some x->b∉bl->b∉kill->τ1 b=some (some (i,o))->hp'.m.get i=hp1.m.get i:=by
  intro b x i o h1 h2 h3 h4;refine a2 i (hs1.lt b i o h4) fun b0 x0 o0 k1 k2 _=>?_
  obtain⟨b',x',q1,q2,q3⟩:=genloc b0 x0 i o0 k1 k2;exact apart b x i o b' x' o0 h1 h2 h3 h4 q1 q2 q3
 refine⟨⟨fun b x hbx=>?_,fun b b2 x y i o j q hbx hby hne e1 e2=>?_,hs.frz,fun b i o h=>?_,hs.flt,fun b hle=>?_,hs1.fc,fun r hr=>(hs1.fz r hr).mono htle ex.f⟩,⟨htle,ex.f,ex.nx,?_,fun b hb=>lo b hb,fun b x hbx hlt=>?_,⟨ac1 (S8 c bl s1.nx) 0 c.post ((O8 c ds s1 bl).drop (Q8 c.res).length)++(ab8 c.outL ds (s1.nx+(c.post.length-c.blks.length))++U1 (kill++ [s1.nx])),?_,fun i hi hno=>?_,fun b i o hb' ht=>?_,fun i y hi hy=>?_,fun hp=>absurd rfl (hp (s1.nx,none) (bQ4 _ (bQ4 _ (Q9 (by rw[Q7,bK1 (bQ4 _ (by simp))])))))⟩,⟨[],rfl⟩⟩,hvals⟩
 ·rcases cls b x hbx with⟨k,b',rfl,e2,_,h⟩| ⟨hlt,hnb,hnk,hb1⟩
  ·rcases h with⟨i,o,Y,h1,h2,h3,h4⟩| ⟨h1,h2⟩
   ·exact .inl ⟨i,o,Y,by rw[srcs k b' e2];exact h1,h2,h3,h4⟩
   ·exact .inr ⟨by rw[srcs k b' e2];exact h1,h2⟩
  ·rcases hs1.live b x hb1 with⟨i,o,y,h1,h2,h3,h4⟩| ⟨h1,h2⟩
   ·refine .inl ⟨i,o,y,by rw[lo b hlt];exact h1,by rw[untouched b x i o hb1 hnb hnk h1];exact h2,?_,h4.mono htle ex.f⟩
    cases hF:F' i with
    |none=>rfl
    |some y'=>
     exfalso
     rcases a4 i y' (hs1.lt b i o h1) hF with h5| ⟨b0,o0,h5,_⟩
     ·rw[h3]at h5;cases h5
     ·rcases loc b0 i o0 h5 with h6| ⟨b',x',o',h6,h7,h8⟩
      ·have:=hs1.lt b i o h1;omega
      ·exact apart b x i o b' x' o' hb1 hnb hnk h1 h6 h7 h8
   ·exact .inr ⟨by rw[lo b hlt];exact h1,h2⟩
 ·have mixed : ∀ {b b2 x y i o j q} {k b' : Nat}, (t6 0 c.blks.length ++ (nw ++ accs))[k]? = some b' → K7 τ1 τ' s1.nx (nw ++ accs) (S8 c bl s1.nx k) = some (some (i, o)) → b = S8 c bl s1.nx k → s1.get b2 = some y → b2 < s1.nx → b2 ∉ bl → b2 ∉ kill →
    K7 τ1 τ' s1.nx (nw++accs) b2=some (some (j,q))->i≠j/\(x:y4)=x:=by
   intro b b2 x y i o j q k b' k1 k2 _ k3 k4 k5 k6 k7;refine⟨fun e=>?_,rfl⟩
   subst e;rw[srcs k b' k1]at k2;rw[lo b2 k4]at k7
   rcases loc b' i o k2 with h| ⟨b'',x'',o'',h1,h2,h3⟩
   ·have:=hs1.lt b2 i q k7;omega
   ·exact apart b2 y i q b'' x'' o'' k3 k5 k6 k7 h1 h2 h3
  rcases cls b x hbx with⟨k,b',rfl,k1,⟨x',hx'⟩,_⟩| ⟨hlt,hnb,hnk,hb1⟩
  ·rcases cls b2 y hby with⟨k',b2',rfl,k2,⟨y',hy'⟩,_⟩| ⟨hlt2,hnb2,hnk2,hb2⟩
   ·rw[srcs k b' k1]at e1
    rw[srcs k' b2' k2]at e2;refine hs.inj b' b2' x' y' i o j q hx' hy' (fun e=>?_) e1 e2
    subst e;exact hne (by rw[dsrc k k' b' k1 k2])
   ·exact(mixed (b:=S8 c bl s1.nx k) (x:=x) k1 e1 rfl hb2 hlt2 hnb2 hnk2 e2).1
  ·rcases cls b2 y hby with⟨k',b2',rfl,k2,⟨y',hy'⟩,_⟩| ⟨hlt2,hnb2,hnk2,hb2⟩
   ·exact Ne.symm (mixed (b:=S8 c bl s1.nx k') (x:=x) k2 e2 rfl hb1 hlt hnb hnk e1).1
   ·rw[lo b hlt]at e1
    rw[lo b2 hlt2]at e2;exact hs1.inj b b2 x y i o j q hb1 hb2 hne e1 e2
 ·by_cases hlt:b<s1.nx
  ·rw[lo b hlt]at h
   exact bN2 (hs1.lt b i o h) ex.nx
  ·unfold K7 at h
   rw[bJ9 hlt]at h;split at h
   ·exact hs.lt _ i o h
   ·cases h
 ·have hle:s1.nx+(c.post.length-c.blks.length)+C4 c.outL<=b:=hle
  unfold K7;rw[bJ9 (by omega),bS8 (by rw[bK6,hna];omega)]
 ·show s1.nx<=s1.nx+(c.post.length-c.blks.length)+C4 c.outL
  omega
 ·rcases cls b x hbx with⟨k,b',rfl,k1,_⟩| ⟨_,_,_,hb1⟩
  ·by_cases hk:k<c.blks.length
   ·have hbi:bl[k]? =some (bl[k]'(by omega)):=bJ1 (by omega)
    rw[ax9 hk hbi]at hlt⊢;exact hlv _ (bR6 _ (bI9 hbi))
   ·obtain⟨j,rfl⟩:∃j,k=c.blks.length+j:=⟨k-c.blks.length,by omega⟩
    rw[ax8]at hlt;omega
  ·exact⟨x,hb1⟩
 ·show ac1 (S8 c bl s1.nx) 0 c.post ((O8 c ds s1 bl).drop (Q8 c.res).length) ++ (ab8 c.outL ds (s1.nx + (c.post.length - c.blks.length)) ++ (U1 (kill ++ [s1.nx]) ++ s1.h)) =
   (ac1 (S8 c bl s1.nx) 0 c.post ((O8 c ds s1 bl).drop (Q8 c.res).length)++(ab8 c.outL ds (s1.nx+(c.post.length-c.blks.length))++U1 (kill++ [s1.nx])))++s1.h
  rw[bJ3,bJ3]
 ·refine a2 i hi fun b0 x0 o0 k1 k2 _=>?_
  obtain⟨b',x',q1,q2,q3⟩:=genloc b0 x0 i o0 k1 k2;exact hno b' x' o0 q2 q3 (keys b' q1)
 ·unfold K7 at ht
  rw[bJ9 (by omega)]at ht
  split at ht
  ·rcases loc _ i o ht with h| ⟨b',x',o',h1,h2,h3⟩
   ·exact .inl h
   ·exact .inr ⟨b',x',o',h2,h3,keys b' h1⟩
  ·cases ht
 ·rcases a4 i y hi hy with h| ⟨b0,o0,h5,_⟩
  ·exact .inl h
  ·rcases loc b0 i o0 h5 with h6| ⟨b',x',o',h6,h7,h8⟩
   ·omega
   ·exact .inr ⟨b',o',by rw[lo b' (blt b' x' h7)];exact h8,keys b' h6⟩
theorem bC6 {c:Con}{g:FuncId}(hg:m8 P U ov c g):B7 P U ov (bt6 P U c) g:=by
 intro l args τ F s hp hl hs Q hq _;unfold bt6 at hq;simp only[m9]at hq;cases c1:aA0 c.args l with
 |none=>rw[c1]at hq;exact hq.elim
 |some fl1=>
 rw[c1]at hq;simp only at hq;cases c2:c.find l s with
 |none=>rw[c2]at hq;exact hq.elim
 |some bl=>
 rw[c2]at hq;simp only at hq;cases c3:az7 s c.blks bl with
 |none=>rw[c3]at hq;exact hq.elim
 |some fl2=>
 rw[c3]at hq;simp only at hq;obtain⟨fx1,hf1,hf2,hf3⟩:=ax4 c1 hl;obtain⟨fx2,hb1,hb2⟩:=ax3 hs c3;rw[y5]at hq;obtain⟨vs,s2,hq,τ2,F2,hp2,ex2,hs2,rfl,hvs⟩:=am9 c.inL (fl1++fl2) (fx1++fx2) τ F s hp (hf1.append hb1) hs _ hq hs;rw[y5]at hq;obtain⟨⟨es,accs⟩,s3,hq,o3,hf3',hmt⟩:=aM8 (P:=P) (τ:=τ2) (F:=F2) bl c.inL vs s2 _ hq hs2.fc;simp only[m9]at hq;cases c5:bl.all (aI5 s3)&&ah1 (bl++accs)&&Nat.beq accs.length (C4 c.inL)&&Nat.ble c.blks.length c.post.length with
 |false=>rw[c5]at hq;exact hq.elim
 |true=>
 rw[c5]at hq;simp only[bI0,bK9,bN3,bL9]at c5;obtain⟨⟨⟨k1,k2⟩,k3⟩,k4⟩:=c5;have hs3:=hs2.only o3 hf3';have hm:=hmt s3 o3.h;have hlen:=hm.len;have hpre:c.pre (u6 U (v8 c.inL) es):=hq.1;have hlive:∀b∈bl,∃x,s3.get b=some x:=fun b hb=>aq3 (k1 b hb)
 have hb3:=hb2.mono ex2.t;obtain⟨g1,g2,g3⟩:=bt0 (fv:=(v8 c.inL).length) hs3 hvs hf2 hb3 hm k2 hlive k3 (E6 (v8 c.inL) 0 es hlen);have hargs:VDL P U (aw9 τ2 (bl++accs)) F2 (aS2 c (E4 U (v8 c.inL) 0 es)) args:=by
  obtain⟨w1,_⟩:=g2.split;have:=hf3 _ _ _ ((am4 c (E4 U (v8 c.inL) 0 es)).drop fx1.length) w1;rw[bR3]at this;exact this
 obtain⟨v,τ',F',s',hp',vs',fx1',fx2',es',nw,accs',r1,r2,r3,r4,r5,r6,r7,r8,r9,r10,r11,r12,r13,r14,r15⟩:=hg es hlen hpre _ F2 hp2 args g1 hargs;have hlen':=r8.len;have hQ:=al3 (U:=U) _ _ _ (hq.2 hpre) es' hlen' (by rw[J3 _ _ _ hlen'];exact r15)
 have hlv:∀b∈bl++accs,∃x,s3.get b=some x:=fun b hb=>by
  rcases bL6.1 hb with h|h
  ·grind
  ·obtain⟨k,hk⟩:=bN4.1 h
   exact hm.live hk
 obtain⟨f1,f2,f3⟩:=bs9 (U:=U) hs3 hb3.len.1 k3 hlv k2 g3 r2 r3 r4 r5 r7 r8 r9 r10 r11 r12 r13 r14 (E6 (v8 c.outL) s3.fv es' hlen');refine⟨_,_,hQ,_,F',hp',(ex2.trans (Ext.only hs2 o3)).trans f2,f1,v,r1,?_⟩;obtain⟨w1,_⟩:=f3.split;have:=r6 _ _ _ ((O8 c (E4 U (v8 c.outL) s3.fv es') s3 bl).drop fx1'.length) w1
 simp_all
end
def al8 (P:Program)(U:Nat->List Dat->Dat):List (FuncId×Con)->FuncId->Option (List SV->M SV)
 | [],_=>none
 |p::l,g=>bif Nat.beq p.1 g then some (bt6 P U p.2)else al8 P U l g
section
variable {P :Program}{U:Nat->List Dat->Dat}{ov:FuncId->Option TypeId}
variable (P U ov) in
def P1 :List (FuncId×Con)->Prop
 | []=>True
 |p::l=>m8 P U ov p.2 p.1/\P1 l
theorem aR6 :∀ {l:List (FuncId×Con)},P1 P U ov l-> ∀g k,al8 P U l g=some k->B7 P U ov k g
 | [],_,g,k,h=>by cases h
 |p::l,ha,g,k,h=>by
  unfold al8 at h;cases hb:Nat.beq p.1 g with
  |true=>
   rw[hb,bJ6,bH9]at h;rw[<-h,<-bI4 hb];exact bC6 ha.1
  |false=>rw[hb,bJ7]at h;exact aR6 ha.2 g k h
theorem noT {C:FuncId->Prop}:∀g,isT (noOv g)=true->C g:=fun _ h=>Bool.noConfusion (show false=true from h)
theorem bn3 {a:FuncId}{t:TypeId}{rest:FuncId->Option TypeId}(h:isT (some t)=false)(hr:∀g,isT (rest g)=false):∀g,isT (aN2 a t rest g)=false:=by
 intro g;unfold aN2
 grind
theorem J2 {L : FuncId} {rest : FuncId → Option TypeId} {con : FuncId → Option (List SV → M SV)} (h : (con L).isSome = true)
  (hr:∀g,isT (rest g)=false:=by first|exact fun _=>rfl|exact bn3 rfl (fun _=>rfl)|exact bn3 rfl (bn3 rfl (fun _=>rfl))|exact bn3 rfl (bn3 rfl (bn3 rfl (fun _=>rfl)))):∀g,isT (aN2 L ai1 rest g)=true->con g≠none:=by
 intro g hg e;unfold aN2 at hg;cases hb:Nat.beq g L with
 |true=>simp_all
 |false=>grind
end
end Go.Sx
end PartSm35
noncomputable section PartSm36
namespace Go.Sx
open Go.Xe Go.RowKit
section
variable {P :Program}{U:Nat->List Dat->Dat}{ov:FuncId->Option TypeId}
theorem bl8 (hm : P.follows .mixedOrders = true) (hov : ∀ g t, ov g = some t → ai7 P g t) {c : Con} {f : FuncId} (hg : m8 P U ov c f) (h1 : c.blks = []) (h2 : c.res = [.one (.g .bool)]) (h3 : c.post = []) (hrel : ∀ d e, c.rel d e → e = [.bool true])
  (ha:C4 c.inL=0) (hA:∀nb ds,ab8 c.inL ds nb=[]) {es:List E} (hlen:es.length=(v8 c.inL).length) (hpre:c.pre (u6 U (v8 c.inL) es)) {xs ys:List Value} {w:World}
  (hl:VDL P U (fun _=>none) (roF w) (aS2 c (E4 U (v8 c.inL) 0 es)) xs) (hx:VRL (ar2 w) xs ys):
  Calls P f ys.toArray w fun e w'=>e= .returned (.bool true)/\Below w.heap.size w w':=by
 have hgst:gst c (E4 U (v8 c.inL) 0 es) (v8 c.inL).length=⟨[],0,[],(v8 c.inL).length,[]⟩:=by
  unfold gst;rw[hA,h1,ha];rfl
 have hs:SD P U (fun _=>none) (roF w) (gst c (E4 U (v8 c.inL) 0 es) (v8 c.inL).length) (aV4 w):=by
  rw[hgst];exact⟨fun b x hb=>(by cases hb),fun b c x y i o j q hb=>(by cases hb),fun i b h=>(bx4 w i b h).1,fun b i o h=>(by cases h),fun i b h=>(bx4 w i b h).2,fun b _=>rfl,fun c t h=>(by simp at h),fun r h=>(by simp at h)⟩
 obtain⟨v,τ',F',s',hp',vs,fx1,fx2,es',nw,accs,⟨n0,hr⟩,_,_,r4,r5,r6,r7,r8,_,_,_,_,_,_,r15⟩:=hg es hlen hpre _ _ _ xs hs hl;have hee:=hrel _ _ r15;have hout:c.outL=[.g .bool]:=by unfold Con.outL;rw[h2,h3];rfl
 have hfx2:fx2=[]:=by
  have:=r7.len.2;rw[h3]at this;exact bI5 this
 subst hfx2;rw[bQ9]at r4;rw[hout]at r8 hee;have hsm:=E6 (U:=U) (v8 [.g .bool]) 0 es' r8.len;have hd:∃e,es'= [e]/\(e.den U).toBool=true:=by
  have:=r8.len;cases es' with
  |nil=>simp[v8,Lf.so,G.so,L7]at this
  |cons e es''=>
   have hnil:es''= []:=by
    have:es''.length=0:=by simpa [v8,Lf.so,G.so,L7]using this
    exact bI5 this
   subst hnil;refine⟨e,rfl,?_⟩;have h: [Dat.bool (e.den U).toBool]=[Dat.bool true]:=hee
   simpa using h
 obtain⟨e,rfl,he⟩:=hd;have hvl:VD P U τ' F' (.bool e) v:=by
  cases vs with
  |nil=>exact r8.elim
  |cons a vs'=>
   obtain⟨r,es'',bs',e1,e2,hm1,hms⟩:=r8;cases vs' with
   |cons b vs''=>exact hms.elim
   |nil=>
    obtain⟨rfl,rfl⟩:=hms;obtain⟨y,ys',rfl,hy,hys⟩:=r4.uncons;have hz:ys'= []:=bI5 hys.1.symm;subst hz;obtain⟨e0,he0⟩:=hm1.1 .b rfl;have h5:=hm1.2.2.2.1 y hy τ' (fun i=>(t6 0 c.blks.length++nw).getD i 0) 0 e (fun i b hb=>by rw[List.getD,hb];rfl) (fun e2 so he2 hso=>by
     rw[he2]at e1;have:e=e2:=by simpa [L7]using e1
     subst this;cases so<;>rfl) (fun b hb=>by
      have:=hm1.2.2.1 rfl;rw[this]at hb;cases hb)
    have h6:=r6 τ' F' [.bool e] [] (.cons h5 .nil);rw[h2]at h6;exact h6
 cases hvl;rw[he]at hr;refine((aM1 hm hov n0).run f xs (aV4 w) _ hp' (hr n0 (bK2 _)) (BS.ro w) w (ar2 w) w ys hx (HR.ro w)).mono fun e w' he=>?_
 obtain⟨σ',u,rfl,_,hv,hw'⟩:=he;cases hv;exact⟨rfl,HR.roBelow hw'⟩
end
end Go.Sx
end PartSm36
noncomputable section PartSm37
namespace Go.Sx
open Go.Xe
structure Jn where
 name:String
 gh:List SV->SS->List (So×E)
 one:Bool
 res:List (Option IntKind)
 rel:List Dat->List Dat->Prop
section
variable {P :Program}{U:Nat->List Dat->Dat}{ov:FuncId->Option TypeId}
end
section
variable {P :Program}{U:Nat->List Dat->Dat}
def yesM :List SV->M SV:=fun l=>match l with
 | []=>c8 (.bool (.bool true))
 |_=>a7 "an argument"
def aQ7 (_ e:List Dat):Prop:=e=[.bool true]
def M8 (n:String):Con:=⟨n,[],[],fun _ _=>some [],fun d=>d=[],[.one (.g .bool)],[],fun _ _=>some [],aQ7⟩
theorem at8 {ov:FuncId->Option TypeId}{L:FuncId}(h:isT (ov L)=true)(n:String):m8 P U ov (M8 n) L:=by
 refine aK0 (run:=yesM) (fun l args τ F s hp hl hs=>?_) fun _=>⟨rfl,fun _=>trivial⟩
 cases l with
 |cons a l=>exact OKh.fail
 |nil=>
  obtain rfl:args=[]:=bI5 hl.1.symm;refine OKh.ret ⟨Value.bool true,⟨1,fun m hm=>?_⟩,VD.bool (.bool true)⟩
  obtain⟨m,rfl⟩:∃k,m=k+1:=⟨m-1,by omega⟩
  show(bif isT (ov L)&&([]:List Value).isEmpty then some (Value.bool true,hp)else _)=some (Value.bool true,hp)
  rw[h];rfl
end
end Go.Sx
end PartSm37
namespace Go.Sx
open Go.Xe
def shrI (k:IntKind)(a b:Int):Int:=a.fdiv (2^(min b.toNat k.bits))
abbrev cI (L:Rows)(i:Int)(j:Nat):Int:=(A9 L i j).toInt
abbrev cS (L:Rows)(i:Int)(j:Nat):List UInt8:=(A9 L i j).toStr
abbrev cB (L:Rows)(i:Int)(j:Nat):Bool:=(A9 L i j).toBool
abbrev cL (L:Rows)(i:Int)(j:Nat):Rows:=(A9 L i j).rows
abbrev ln {α:Type}(l:List α):Int:=(l.length:Int)
abbrev Nr (x:Int)(q:Prop):Prop:=Nd (x=x) q
abbrev Ni (x:Int)(q:Prop):Prop:=Nd (¬x<x) q
def byteAt (s:List UInt8)(i:Int):Int:=((s.getD i.toNat 0).toNat:Int)
theorem A3 {p q:Prop}:(p/\(p->p/\(p->q)))↔(p/\(p->q)):=⟨fun h=>⟨h.1,fun x=>(h.2 x).2 x⟩,fun h=>⟨h.1,fun x=>⟨x,h.2⟩⟩⟩
theorem A0 {p q:Prop}:(p->p/\(p->q))↔(p->q):=⟨fun h x=>(h x).2 x,fun h x=>⟨x,h⟩⟩
theorem f9 (n:Int):(Dat.int n).toInt=n:=rfl
theorem p9 (s:List UInt8):(Dat.str s).toStr=s:=rfl
theorem I8 (l:Rows):(Dat.lst l).rows=l:=rfl
section
variable {α :Type}{f:α->List Dat}
theorem i7 {T:List α}{i:Int}{s:α}(h:T[i.toNat]? =some s)(j:Nat):A9 (T.map f) i j=(f s).getD j (.int 0):=by
 unfold A9;rw[show(T.map f).getD i.toNat []=f s by rw[bL0,bM9,h];rfl]
theorem get_at {T:List α}{i:Int}(h0:0<=i)(h1:i<(T.length:Int)):∃o,T[i.toNat]? =some o:=⟨_,bJ1 (by omega)⟩
theorem bw4 {l:List α}{a n:Int}:Sx.part (l.map f) a n=((l.drop a.toNat).take n.toNat).map f:=by
 unfold Sx.part;rw[<-List.map_drop,<-List.map_take]
theorem map_inj_of {β:Type}{f:α->β}(hf:∀a b,f a=f b->a=b):∀ {l m:List α},l.map f=m.map f->l=m
 | [],[],_=>rfl
 | [],b::m,h=>by simp at h
 |a::l,[],h=>by simp at h
 |a::l,b::m,h=>by
  simp only[bN0,bO8]at h;rw[hf a b h.1,map_inj_of hf h.2]
theorem ae0 {rows:Rows}(f:α->List Dat)(R:α->Prop)(h:∀r∈rows,∃a,R a/\r=f a):∃L:List α,(∀a∈L,R a)/\rows=L.map f:=by
 induction rows with
 |nil=>exact⟨[],fun a h=>(by simp at h),rfl⟩
 |cons r rows ih=>
  obtain⟨a,ha,e⟩:=h r (by simp)
  obtain⟨L,hL,e'⟩:=ih fun r hr=>h r (by simp[hr])
  exact⟨a::L,fun b hb=>by rcases bL7.1 hb with rfl|hb;exact ha;exact hL b hb,by rw[e,e'];rfl⟩
end
theorem M0 {α:Type}{l:List α}{k:Nat}{a:α}(h:l[k]? =some a):l.take (k+1)=l.take k++ [a]:=by
 rw[List.take_add_one,h];rfl
theorem drop_at {α:Type}{l:List α}{k:Nat}{a:α}(h:l[k]? =some a):l.drop k=a::l.drop (k+1):=by
 have hk:=(bI2.1 h).1;rw[List.drop_eq_getElem_cons hk,(bI2.1 h).2]
theorem z7 {k:Int}(h:0<=k):(k+1).toNat=k.toNat+1:=by omega
theorem ax5 {k:List KV}{n:Nat}(h:k.length=n)(v:Dat):ad3 n (k.map KV.dat++ [v])=k:=by
 unfold ad3;rw[List.take_left' (by rw[bJ8];exact h),ba5]
theorem bj8 {k:List KV}{n:Nat}(h:k.length=n)(v:Dat):(k.map KV.dat++ [v]).getD n (.int 0)=v:=by
 rw[bL0,bI7 (by rw[bJ8];omega),bJ8,show n-k.length=0 by omega];rfl
theorem af4 (k x:List KV)(h:k.length=x.length)(v d:Dat):∀M:Rows,mgetR (mputR M k v) x d=if x=k then v else mgetR M x d
 | []=>by
  unfold mputR mgetR;rw[ax5 h,bj8 h]
  by_cases e:x=k
  ·subst e;rw[bK1 rfl,bK1 rfl]
  ·rw[bJ9 e,bJ9 (show¬k=x from fun c=>e c.symm)];rfl
 |r::M=>by
  unfold mputR
  by_cases hr:ad3 k.length r=k
  ·rw[bK1 hr]
   unfold mgetR;rw[ax5 h,bj8 h,<-h,hr]
   by_cases e:x=k
   ·subst e;rw[bK1 rfl,bK1 rfl]
   ·rw[bJ9 e,bJ9 (show¬k=x from fun c=>e c.symm),bJ9 (show¬k=x from fun c=>e c.symm)]
  ·rw[bJ9 hr]
   unfold mgetR
   by_cases e:ad3 x.length r=x
   ·rw[bK1 e,bK1 e,bJ9 (fun c=>hr (by rw[h,e,c]))]
   ·rw[bJ9 e,bJ9 e];exact af4 k x h v d M
theorem aI9 (k x:List KV)(h:k.length=x.length)(v:Dat):∀M:Rows,mhasR (mputR M k v) x=(decide (x=k)||mhasR M x)
 | []=>by
  unfold mputR mhasR;rw[ax5 h]
  by_cases e:x=k
  ·subst e;simp
  ·simp[e,show¬k=x from fun c=>e c.symm,mhasR]
 |r::M=>by
  unfold mputR
  by_cases hr:ad3 k.length r=k
  ·rw[bK1 hr]
   unfold mhasR;rw[ax5 h,<-h,hr]
   by_cases e:x=k
   ·subst e;simp
   ·simp[e,show¬k=x from fun c=>e c.symm]
  ·rw[bJ9 hr]
   unfold mhasR;rw[aI9 k x h v M]
   by_cases e:ad3 x.length r=x<;>simp[e]
end Go.Sx
set_option linter.unusedVariables false
noncomputable section PartSm39
namespace Go.Sx
open Go.Xe
def numK :Kd->Bool
 | .int _=>true
 | .bool=>true
 | .str=>true
 |_=>false
theorem PV.num {P:Program}{F F':Nat->Option Blk}{k:Kd}{v:Value}{d:Dat}(hk:numK k=true)(p:PV P F k v d):PV P F' k v d:=by
 cases p with
 |int k n=>exact .int k n
 |bool b=>exact .bool b
 |str s=>exact .str s
 |nils e=>cases hk
 |vague e=>cases hk
 |_=>cases hk
section
variable {P :Program}{U:Nat->List Dat->Dat}{ov:FuncId->Option TypeId}
def aj4 :SV->Bool
 | .int _ _=>true
 | .bool _=>true
 | .str _=>true
 |_=>false
def bi7 (a:SV):Bool:=match a with
 | .tup l=>l.all aj4
 |a=>aj4 a
theorem bi5 {τ τ':Tau}{F F':Nat->Option Blk}{a:SV}{v:Value}(h:aj4 a=true)(hv:VD P U τ F a v):VD P U τ' F' a v:=by
 cases hv with
 |int k e=>exact .int k e
 |bool e=>exact .bool e
 |str e=>exact .str e
 |_=>cases h
theorem bx7 {τ τ':Tau}{F F':Nat->Option Blk}{a:SV}{v:Value}(h:bi7 a=true)(hv:VD P U τ F a v):VD P U τ' F' a v:=by
 unfold bi7 at h;split at h
 ·cases hv with
  |tup _ xs h1 h2=>
   rw[bK9]at h;exact .tup _ xs h1 fun i a x ha hx=>bi5 (h a (bI9 ha)) (h2 i a x ha hx)
 ·exact bi5 h hv
def bF6 (P:Program)(s:SS)(a:SV)(s1:SS):Tr (SV×SS):=match a,s1.h with
 | .sl b z o n c,(k,some (.rows L e z' ph))::(k2,none)::h=>
  bif Nat.beq h.length s.h.length&&Nat.beq k2 k&&Nat.ble s.nx k&&(kf P e).all numK then .ret (.sl b z o n c,⟨(k,some (.rows L e z' ph))::s.h,s1.nx,s1.fc,s1.fv,s.fz⟩)else .ret (.sl b z o n c,s1)
 |a,(k2,none)::h=>bif bi7 a&&Nat.beq h.length s.h.length&&Nat.ble s.nx k2 then .ret (a,⟨s.h,s1.nx,s1.fc,s1.fv,s.fz⟩)else .ret (a,s1)
 |a,_=>.ret (a,s1)
def bw7 (P:Program)(run:List SV->M SV):List SV->M SV:=fun l s=>(run l s).bind fun r=>bF6 P s r.1 r.2
theorem bw8 {run:List SV->M SV}{g:FuncId}(hr:B7 P U ov run g):B7 P U ov (bw7 P run) g:=by
 intro l args τ F s hp hl hs Q hq _;unfold bw7 at hq;rw[Tr.vc_bind]at hq;obtain⟨a,s1,h1,τ1,F1,hp1,ex,hs1,v,hx,hv⟩:=hr l args τ F s hp hl hs _ hq hs;simp only at h1;unfold bF6 at h1;split at h1
 ·rename_i b z o n c k L e z' ph k2 h hh
  cases hc:Nat.beq h.length s.h.length&&Nat.beq k2 k&&Nat.ble s.nx k&&(kf P e).all numK with
  |false=>rw[hc]at h1;exact⟨_,_,h1,τ1,F1,hp1,ex,hs1,v,hx,hv⟩
  |true=>
   rw[hc]at h1;simp only[bI0,bL9,bN3,bK9]at hc;obtain⟨⟨⟨c1,c2⟩,c3⟩,c4⟩:=hc;subst k2;obtain⟨lg,a1,a2,a3,a4,a5⟩:=ex.hh;rw[hh]at a1;have a1': [(k,some (y4.rows L e z' ph)),(k,none)]++h=lg++s.h:=a1;obtain⟨e1,e2⟩:=List.append_inj' a1' c1;subst e1;subst e2;have get:∀b,(⟨(k,some (.rows L e z' ph))::s.h,s1.nx,s1.fc,s1.fv,s.fz⟩:SS).get b=s1.get b:=fun b=>by
    unfold SS.get;rw[hh,t8,t8,t8]
    by_cases hb:k=b
    ·rw[bK1 hb,bK1 hb]
    ·rw[bJ9 hb,bJ9 hb,bJ9 hb]
   have old:∀b x,s1.get b=some x->k≠b->s.get b=some x:=fun b x hb hne=>by
    rw[<-get]at hb;unfold SS.get at hb⊢;rw[t8,bJ9 hne]at hb;exact hb
   have new:∀b x,s.get b=some x->b∈ [(k,some (y4.rows L e z' ph)),(k,none)].map Prod.fst->False:=fun b x hb hm=>by
    have:=hs.bound hb;simp only[bN0,List.map_nil,bL7,List.not_mem_nil,or_false,or_self]at hm;omega
   refine⟨_,_,h1,τ1,F,hp1,⟨ex.t,Fle.refl F,ex.nx,ex.snx,ex.st,fun b x hb hlt=>ex.low b x (by rw[<-get];exact hb) hlt,⟨[(k,some (.rows L e z' ph))],rfl,fun i hi hno=>a2 i hi fun b x o p1 p2 p3=>new b x p1 p3,fun b i o hb ht=>?_,fun i y hi hy=>.inl hy,fun _ i y hy=>hy⟩,ex.hf⟩,
    ⟨fun b x hb=>?_,fun b c x y i o j q hb hc=>hs1.inj b c x y i o j q (by rw[<-get];exact hb) (by rw[<-get];exact hc),fun i b hF=>hs1.frz i b (ex.f i b hF),hs1.lt,fun i b hF=>hs1.flt i b (ex.f i b hF),hs1.new,hs1.fc,fun r hr=>(hs.fz r hr).mono ex.t (Fle.refl F)⟩,v,hx,?_⟩
   ·rcases a3 b i o hb ht with h| ⟨b0,x,o0,h1,h2,h3⟩
    ·exact .inl h
    ·exact(new b0 x h1 h3).elim
   ·rw[get]at hb
    by_cases hk:k=b
    ·subst hk
     have hx:x= .rows L e z' ph:=by
      rw[<-get]at hb;unfold SS.get at hb;rw[t8,bK1 rfl]at hb;exact(bK5 hb).symm
     subst hx
     rcases hs1.live k _ hb with⟨i,o,y,p1,p2,p3,cs,n,q1,⟨r1,r2,r3,r4⟩,q3⟩|p
     ·refine .inl ⟨i,o,y,p1,p2,?_,cs,n,q1,⟨r1,r2,r3,fun r j row d hr hd=>?_⟩,q3⟩
      ·cases hF:F i with
       |none=>rfl
       |some y'=>rw[ex.f i y' hF]at p3;cases p3
      ·obtain⟨x,t1,t2⟩:=r4 r j row d hr hd
       exact⟨x,t1,fun kd hkd=>(t2 kd hkd).num (c4 kd (bI9 hkd))⟩
     ·exact .inr p
    ·have hb0:=old b x hb hk
     rcases hs.live b x hb0 with⟨i,o,y,p1,p2,p3,p4⟩| ⟨p1,p2⟩
     ·exact .inl ⟨i,o,y,ex.t _ _ p1,by rw[a2 i (hs.lt b i o p1) fun b x o p1 p2 p3=>new b x p1 p3];exact p2,p3,p4.mono ex.t (Fle.refl F)⟩
     ·exact .inr ⟨ex.t _ _ p1,p2⟩
   ·cases hv with
    |sl _ _ _ _ _ i o c h h0 h1 hc=>exact .sl _ _ _ _ _ i o c h h0 h1 hc
    |sl0 _ _ _ _ _ h h0 h1 hc=>exact .sl0 _ _ _ _ _ h h0 h1 hc
 ·rename_i a _ _ k2 h hh
  cases hc:bi7 a&&Nat.beq h.length s.h.length&&Nat.ble s.nx k2 with
  |false=>rw[hc]at h1;exact⟨_,_,h1,τ1,F1,hp1,ex,hs1,v,hx,hv⟩
  |true=>
   rw[hc]at h1;simp only[bI0,bL9,bN3]at hc;obtain⟨⟨c0,c1⟩,c3⟩:=hc;obtain⟨lg,a1,a2,a3,a4,a5⟩:=ex.hh;rw[hh]at a1;have a1': [(k2,none)]++h=lg++s.h:=a1;obtain⟨e1,e2⟩:=List.append_inj' a1' c1;subst e1;subst e2;have new:∀b x,s.get b=some x->b∈ [(k2,(none:Option y4))].map Prod.fst->False:=fun b x hb hm=>by
    have:=hs.bound hb;simp only[bN0,List.map_nil,bL7,List.not_mem_nil,or_false]at hm;omega
   refine⟨_,_,h1,τ1,F,hp1,⟨ex.t,Fle.refl F,ex.nx,ex.snx,ex.st,fun b x hb _=>⟨x,hb⟩,⟨[],rfl,fun i hi hno=>a2 i hi fun b x o p1 p2 p3=>new b x p1 p3,fun b i o hb ht=>?_,fun i y hi hy=>.inl hy,fun _ i y hy=>hy⟩,ex.hf⟩,
    ⟨fun b x hb=>?_,fun b c x y i o j q hb hc hne e1 e2=>hs.inj b c x y i o j q hb hc hne (by rw[<-ex.st b (hs.bound hb)];exact e1) (by rw[<-ex.st c (hs.bound hc)];exact e2),fun i b hF=>hs1.frz i b (ex.f i b hF),hs1.lt,fun i b hF=>hs1.flt i b (ex.f i b hF),hs1.new,hs1.fc,fun r hr=>(hs.fz r hr).mono ex.t (Fle.refl F)⟩,v,hx,bx7 c0 hv⟩
   ·rcases a3 b i o hb ht with h| ⟨b0,x,o0,h1,h2,h3⟩
    ·exact .inl h
    ·exact(new b0 x h1 h3).elim
   ·rcases hs.live b x hb with⟨i,o,y,p1,p2,p3,p4⟩| ⟨p1,p2⟩
    ·exact .inl ⟨i,o,y,ex.t _ _ p1,by rw[a2 i (hs.lt b i o p1) fun b x o p1 p2 p3=>new b x p1 p3];exact p2,p3,p4.mono ex.t (Fle.refl F)⟩
    ·exact .inr ⟨ex.t _ _ p1,p2⟩
 ·exact⟨_,_,h1,τ1,F1,hp1,ex,hs1,v,hx,hv⟩
variable (P U) in
def conP (l:List (FuncId×Con))(g:FuncId):Option (List SV->M SV):=match al8 P U l g with
 |some k=>some (bw7 P k)
 |none=>none
end
end Go.Sx
end PartSm39
set_option linter.unusedVariables false
noncomputable section PartSm40
namespace Go.Sx
open Go.Xe
def Con.below (c:Con)(mu:List Dat->Nat)(n:Nat):Con:= {c with pre:=fun d=>c.pre d/\mu d<n}
section
variable {P :Program}{U:Nat->List Dat->Dat}{ov:FuncId->Option TypeId}
theorem bc2 {c:Con}{mu:List Dat->Nat}{g:FuncId}(h:∀n,m8 P U ov (c.below mu n) g->m8 P U ov (c.below mu (n+1)) g):m8 P U ov c g:=by
 have all:∀n,m8 P U ov (c.below mu n) g:=fun n=>by
  induction n with
  |zero=>intro es _ hpre;exact absurd hpre.2 (Nat.not_lt_zero _)
  |succ n ih=>exact h n ih
 intro es hlen hpre;exact all (mu (u6 U (v8 c.inL) es)+1) es hlen ⟨hpre,bO0 _⟩
end
end Go.Sx
end PartSm40
