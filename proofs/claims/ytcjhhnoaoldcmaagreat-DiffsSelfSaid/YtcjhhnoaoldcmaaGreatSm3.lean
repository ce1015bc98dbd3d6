/- The symbolic engine, parts 23, 24, 25, 26, 27, 28, 29, 30, 31, 32, 33, 34, 35, 36, 37, 38, 39, 40.
  Conditions: none. -/
import Derived.Test.YtcjhhnoaoldcmaaGreatSm2
import Derived.Carry
import Derived.OpenShut
set_option linter.unusedSimpArgs false
set_option linter.unusedVariables false
namespace Go.Sx
open Go.Xe
def I4 :Nat->List (Nat×Option p7)->List Nat
 |0,_=>[]
 |_+1,[]=>[]
 |n+1,(k,_)::l=>k::I4 n l
theorem ar4 (l h:List (Nat×Option p7)):I4 l.length (l++h)=l.map Prod.fst:=by
 induction l with
 |nil=>rfl
 |cons a l d=>obtain⟨k,x⟩:=a;simp only[bJ4,bL3,I4,bK2,d]
theorem au6 {α:Type}{b:Nat}:∀(l h:List (Nat×α)),b∉l.map Prod.fst->lk (l++h) b=lk h b
 | [],_,_=>rfl
 | (k,x)::l,h,hb=>by
  simp only[bK2,bI9,not_or]at hb;rw[bL3,k9,bH1 (fun e=>hb.1 e.symm)]
  exact au6 l h hb.2
def ar3 :Nat->List (Nat×Option p7)->Bool
 |0,_=>false
 |_+1,[]=>false
 |n+1,(_,x)::l=>match x with
  |none=>true
  |some _=>ar3 n l
theorem bk4 (l h:List (Nat×Option p7))(hf:ar3 l.length (l++h)=false):∀p∈l,p.2≠none:=by
 induction l with
 |nil=>exact fun p hp=>by simp at hp
 |cons a l d=>
  obtain⟨k,x⟩:=a;intro p hp;simp only[bJ4,bL3,ar3]at hf
  grind
def quiet {α:Type}(m:M α):M α:=fun s=>(m s).bind fun r=>bif Nat.beq r.2.h.length s.h.length&&Nat.beq r.2.nx s.nx then c6 r.1 r.2 else a7 "a region: an operation that should leave the memory alone" r.2
def br3 {α:Type}(n:Nat)(m:M α):M (α×List Nat×Bool):=fun s=>(m s).bind fun r=>c6 (r.1,I4 (r.2.h.length-n) r.2.h,ar3 (r.2.h.length-n) r.2.h) r.2
def mpend :M Nat:=fun s=>c6 s.nx (aU1 s)
def bt1 (pd:List Pd):M Unit:=fun s=>c6 () (Y7 s pd)
def liveR (r:Rd):M Unit:=match r with
 | .blk b=>i9 fun s=>match s.get b with
  |some _=>c6 ()
  |none=>a7 "a region: read"
 | .mlk _ b=>i9 fun s=>match s.get b with
  |some _=>c6 ()
  |none=>a7 "a region: read"
 |_=>c6 ()
def bi1 (P:Program)(vt:TypeId):Option E:=match ab9 P vt with
 |some [z]=>bif at5 (E9 P vt)then aE0 (kd1 P vt) z else none
 |_=>none
def ah2 (P:Program)(s0:SS)(f:Fm):Op->Rd
 | .mapEntry t m k=>match f8 f m with
  |some (.map b)=>match s0.get b,P.underlying t with
   |some (.map _ kt' vt'),some (.map kt vt)=>bif aj8 P t f k&&Nat.beq kt kt'&&Nat.beq vt vt'&&(bi1 P vt).isSome then .mlk t b else .free
   |_,_=>.free
  |_=>.free
 |_=>.free
def bq8 (o:Oper):Bool:=Nat.beq (c9 o.op) 3
section
variable (P :Program)(U:Nat->List Dat->Dat)
def sgo (call : B7) (nt : Nat) (all : List Oper) : List (Oper × Nat) → Nat → Fm → List Pd → List En → M (Fm × List Pd)
 | [],_,f,pd,_=>c6 (f,pd)
 | (o, pre) :: rest, i, f, pd, es =>
  bif u7 nt o.dst && Nat.blt pre (2 ^ i) then
   a8 (av3 U all f o) fun t=>
   bif t then
    bif Nat.beq (c9 o.op) 0 then a8 (quiet (sop P U call (N2 all f o t) o.op)) fun v=>sgo call nt all rest (i+1) (D0 (N2 all f o t) o.dst v) pd (⟨i,pre,false,false,.free,[],false⟩::es)
    else bif Nat.beq (c9 o.op) 1 then a8 (quiet (sop P U call (N2 all f o t) o.op)) fun v => a8 (liveR (at6 P (N2 all f o t) o.op)) fun _ =>
      bif vok 1000 v&&es.all (V9 pre (at6 P (N2 all f o t) o.op))then sgo call nt all rest (i+1) (D0 (N2 all f o t) o.dst v) pd (⟨i,pre,false,true,at6 P (N2 all f o t) o.op,[],false⟩::es)
      else a7 "a region: a read"
    else bif Nat.beq (c9 o.op) 2 then match snw P (N2 all f o t) o.op with
     |some (x,mk)=>a8 mpend fun b=>sgo call nt all rest (i+1) (D0 (N2 all f o t) o.dst (mk b)) (⟨b,i,x⟩::pd) (⟨i,pre,false,false,.free,[],false⟩::es)
     |none=>a7 "a region: a new block"
    else bif pd.all (fun p => pre.testBit p.i) then
      i9 fun s0=>a8 (bt1 pd) fun _=>a8 (br3 s0.h.length (sop P U call (N2 all f o t) o.op)) fun r=>a8 (liveR (ah2 P s0 (N2 all f o t) o.op)) fun _=>
       bif es.all (Y6 pre r.2.1 (ah2 P s0 (N2 all f o t) o.op))then sgo call nt all rest (i+1) (D0 (N2 all f o t) o.dst r.1) [] (⟨i,pre,true,false,ah2 P s0 (N2 all f o t) o.op,r.2.1,r.2.2⟩::es)else a7 "a region: a write"
     else a7 "a region: blocks that wait"
   else bif bq8 o&& !(es.all (Y6 pre [] .free))then a7 "a region: not wanted" else
    sgo call nt all rest (i+1) (D0 (N2 all f o t) o.dst (.tup [])) pd (⟨i,pre,bq8 o,false,.free,[],false⟩::es)
  else a7 "a region: slot"
def ao8 (call:B7)(nt:Nat):af0:=fun all f=>
 bif stat all (z6 all [])then a8 (sgo P U call nt all (all.zip (z6 all [])) 0 f [] []) fun r=>a8 (bt1 r.2) fun _=>c6 r.1
 else a7 "a region: order"
def be5 (s:SS)(b:Nat):Bool:=(s.get b).isSome
def twoB (a a':Operand)(f:Fm):M Fm:=i9 fun s=>match f8 f a,f8 f a' with
 |some (.ptr b _ _ _),some (.ptr b' _ _ _)=>bif !(Nat.beq b b')&&be5 s b&&be5 s b' then c6 f else a7 "a region: two stores"
 |_,_=>a7 "a region: two stores"
def bg6 (call : B7) (nt : Nat) : af0 := fun all f =>
 bif stat all (z6 all []) then ao8 P U call nt all f else match ao0 all with
  | some (x, y) => bif aw0 0 all && Nat.blt x all.length && Nat.blt y all.length && !(Nat.beq x y) then
    match ao5 (c8 all.toArray x y .data).toList (moveLast (c8 all.toArray y x .data) x).toList x y with
    | some (a, a') => fun s => .both ((ao8 P U call nt (moveLast (c8 all.toArray y x .data) x).toList f s).bind fun _ => .done)
      (a8 (ao8 P U call nt (c8 all.toArray x y .data).toList f) (twoB a a') s)
    |none=>a7 "a region: order"
   else a7 "a region: order"
  |none=>a7 "a region: order"
end
section
variable {P :Program}{U:Nat->List Dat->Dat}{ov:FuncId->Option TypeId}{nt:Nat}
variable {call :d8}{all:List Oper}{nx0:Nat}{o:Oper}{pre:Nat}{rest:List (Oper×Nat)}{i:Nat}{tm:T Value}{S:Hp}{I:Nat}{es:List Ent}
theorem bE9 (d:u7 nt o.dst=true)(e:j2 all tm o=false):xgo P call nt all nx0 ((o,pre)::rest) i tm S I es=xgo P call nt all nx0 rest (i+1) (q9 tm o.dst undef) S I (⟨i,o,pre,tm,S,S,I,false,undef,none⟩::es):=by
 rw[xgo,d,bG8,e,bG9]
variable {v:Value}{S':Hp}
theorem xgo_0 ( d : u7 nt o.dst = true) ( e : j2 all tm o = true) (hk : c9 o.op = 0)   (hx : xop P call tm S o.op = some (v, S')) :
  xgo P call nt all nx0 ((o,pre)::rest) i tm S I es=xgo P call nt all nx0 rest (i+1) (q9 tm o.dst v) S I (⟨i,o,pre,tm,S,S,I,true,v,none⟩::es):=by
 rw[xgo,d,bG8,e,bG8,hk]
 grind
theorem xgo_1 ( d : u7 nt o.dst = true) ( e : j2 all tm o = true) (hk : c9 o.op = 1)  (hx : xrd P tm S o.op = some v) :
  xgo P call nt all nx0 ((o,pre)::rest) i tm S I es=xgo P call nt all nx0 rest (i+1) (q9 tm o.dst v) S I (⟨i,o,pre,tm,S,S,I,true,v,none⟩::es):=by
 rw[xgo,d,bG8,e,bG8,hk]
 grind
theorem xgo_2 ( d : u7 nt o.dst = true) ( e : j2 all tm o = true) (hk : c9 o.op = 2) {n : Nw} (hx : xnw P tm o.op = some n) :
  xgo P call nt all nx0 ((o,pre)::rest) i tm S I es=xgo P call nt all nx0 rest (i+1) (q9 tm o.dst (n.val (nx0+i))) S I (⟨i,o,pre,tm,S,S,I,true,n.val (nx0+i),some n⟩::es):=by
 rw[xgo,d,bG8,e,bG8,hk]
 grind
theorem xgo_3 ( d : u7 nt o.dst = true) ( e : j2 all tm o = true) (hk : c9 o.op = 3)   (hx : xop P call tm (takes nx0 (ag8 pre I) es S) o.op = some (v, S')) :
  xgo P call nt all nx0 ((o,pre)::rest) i tm S I es=xgo P call nt all nx0 rest (i+1) (q9 tm o.dst v) S' (I|||pre) (⟨i,o,pre,tm,S,S',I,true,v,none⟩::es):=by
 rw[xgo,d,bG8,e,bG8,hk]
 grind
theorem p9 {α d:Type}{m:M α}{k:α->M d}{s:SS}{Q:d×SS->Prop}:(a8 m k s).vc U Q↔(m s).vc U fun r=>(k r.1 r.2).vc U Q:=by
 unfold a8;exact Tr.vc_bind _ _ _ _
theorem aS2 {α:Type}{m:M α}{s:SS}{Q:α×SS->Prop}(h:(quiet m s).vc U Q):(m s).vc U fun r=>Q r/\r.2.h.length=s.h.length/\r.2.nx=s.nx:=by
 unfold quiet at h;rw[Tr.vc_bind]at h;refine Tr.vc_mono _ _ (fun r hr=>?_) h
 cases hb:Nat.beq r.2.h.length s.h.length&&Nat.beq r.2.nx s.nx with
 |false=>rw[hb]at hr;exact hr.elim
 |true=>
  rw[hb]at hr;rw[bF2]at hb;exact⟨hr,bF6 hb.1,bF6 hb.2⟩
variable {τ :Tau}{F:Nat->Option Blk}{s:SS}
theorem Ext.quiet {τ':Tau}{F':Nat->Option Blk}{s':SS}(ex:Ext τ F s S τ' F' s' S')(hs:SD P U τ F s S)(d:SD P U τ' F' s' S')(m:S'=S)(hh:s'.h.length=s.h.length)(hn:s'.nx=s.nx):τ'=τ/\F'=F/\s'.h=s.h:=by
 obtain⟨l,g,_,_,k,_⟩:=ex.hh;have hl:l=[]:=by
  cases l with
  |nil=>rfl
  |cons x l=>rw[g]at hh;simp at hh;omega
 subst hl;refine⟨funext fun b=>?_,funext fun j=>?_,by simpa using g⟩
 ·by_cases hb:b<s.nx
  ·exact ex.st b hb
  ·rw[hs.new b (by omega),d.new b (by omega)]
 ·cases hq:F' j with
  |none=>
   cases e:F j with
   |none=>rfl
   |some y=>rw[ex.f j y e]at hq;cases hq
  |some y=>
   rcases k j y (by rw[<-m];exact d.flt j y hq) hq with h1| ⟨b,o,_,h1⟩
   ·rw[h1]
   ·simp at h1
theorem by6 {vt:TypeId}{d:E}(h:bi1 P vt=some d):∃z,E9 P vt=some z/\at5 (some z)=true/\PV P F (kd1 P vt) z (d.den U):=by
 unfold bi1 at h;split at h
 ·rename_i z hz
  obtain⟨zv,j,m⟩:=I9 (U:=U) (τ:=fun _=>none) (F:=F) hz
  obtain⟨p,r,k,n,q⟩:=m.uncons;cases e:at5 (E9 P vt)with
  |false=>grind
  |true=>
   rw[e,bG8]at h;rw[j]at e;have g:zv=p:=by
    have hc:zv.cells.toList=[zv]:=by
     unfold at5 at e;split at e
     ·rename_i h;cases h;rfl
     ·rename_i h;cases h;rfl
     ·rename_i h;cases h;rfl
     ·cases e
    grind
   subst g;exact⟨zv,j,e,Q5 n h⟩
 ·cases h
theorem bm6 {s0 : SS} {f : Fm} {o : Op} {t : TypeId} {b : Nat}   (h : ah2 P s0 f o = .mlk t b) (ht : TD P U τ F f tm) (hs : SD P U τ F s S) (hb : s.get b = s0.get b) (hx : xop P call tm S o = some (v, S')) :
  ∃x j q,s0.get b=some x/\τ b=some (some (j,q))/\MS P t j S S':=by
 unfold ah2 at h;split at h
 ·rename_i t' m k
  split at h
  ·rename_i b' hm
   split at h
   ·rename_i L D J kt vt C u
    cases hc:aj8 P t' f k&&Nat.beq kt D&&Nat.beq vt J&&(bi1 P vt).isSome with
    |false=>rw[hc]at h;cases h
    |true=>
     rw[hc]at h;cases h;simp only[bF2,bJ1]at hc;obtain⟨⟨⟨V,rfl⟩,rfl⟩,W⟩:=hc;obtain⟨mv,Y,Z⟩:=v6 ht hm;cases Z with
     |map _ i q A=>
      simp only[b9,g9,Y]at hx;cases g:a9 tm k with
      |none=>rw[g]at hx;cases hx
      |some kv=>
      rw[g]at hx;simp only at hx;obtain⟨X,ab,sh,ks,k1,k2,k3,rfl⟩:=be3 ht g V;rw[u]at k1;cases k1;obtain⟨d,n⟩:∃d,P.underlying kt=some d:=by
       cases h:P.underlying kt with
       |none=>unfold J9 at k2;rw[h]at k2;cases k2
       |some d=>exact⟨d,rfl⟩
      obtain⟨N,B⟩:=Option.isSome_iff_exists.1 W;obtain⟨z,K,R,M⟩:=by6 (U:=U) (F:=F) B;rw[<-hb]at C
      rcases hs.live b _ C with⟨i',o',y,h1,h2,_,h0,es,reg,rfl,r,h3⟩| ⟨_,L',e',z',aa,h2,_⟩
      ·rw[A]at h1
       simp only[bF1,bF3]at h1;obtain⟨rfl,rfl⟩:=h1;subst r;refine⟨_,i,q,by rw[<-hb];exact C,A,?_⟩
       obtain⟨find,p,e⟩:=aw7 n k2 k3
       rcases H3 k2 k3 p M (N.den U) (L.toR U) es 0 h3 with⟨q1,q2,E,O,G⟩| ⟨q1,x,y,q2,E,O,q6,_⟩
       ·simp only[E5,u,n,h2,e,q2,K,bF1,bF3]at hx
        exact aO9 u n k2 K R M h2 (by rw[<-hx.2];exact(by show(S.m.set i _).get i=_;rw[T.get_set,bH3 rfl])) h3 (by rw[E];exact G) k3
       ·rw[bI3]at q2
        rcases H3 k2 k3 p E (N.den U) (L.toR U) es 0 h3 with⟨w1,_⟩| ⟨_,_,_,_,_,_,_,G⟩
        ·rw[w1]at q1;cases q1
        simp only[E5,u,n,h2,e,q2,O,bF1,bF3]at hx;rw[q6]at hx;exact aO9 u n k2 K R M h2 (by rw[<-hx.2];exact(by show(S.m.set i _).get i=_;rw[T.get_set,bH3 rfl])) h3 G k3
      ·cases h2
   ·cases h
  ·cases h
 ·cases h
variable (P U ov nt) in
def bo8 (all:List Oper)(τ0:Tau)(F0:Nat->Option Blk)(s0:SS)(hp0:Hp)(rest:List (Oper×Nat))(i:Nat)(tm:T Value)(S:Hp)(I:Nat)(esX:List Ent)(f:Fm)(Q:(Fm×List Pd)×SS->Prop):Prop:=
 ∃f' pd' s',Q ((f',pd'),s')/\ ∃τ' F' out es',(EV fun m=>xgo P (exec P ov m) nt all hp0.nx rest i tm S I esX=some out)/\
  DA P U τ0 F0 s0 hp0 all.length all.length τ' F' s' out.S f' out.tm pd' out.es out.I/\DB P ⟨hp0.m,hp0.nx+all.length⟩ all.length τ' F' s' out.S es' out.es/\ ∃pr,f'=pr++f
theorem ap0 {call : B7} (    z : y4 P U ov call) {all : List Oper} {τ0 : Tau} {F0 : Nat → Option Blk} {s0 : SS} {hp0 : Hp} : ∀ (rest : List (Oper × Nat)) (i : Nat) (τ : Tau) (F : Nat → Option Blk) (s : SS) (S : Hp) (f : Fm) (tm : T Value) (pd : List Pd) (es : List En) (esX : List Ent) (I : Nat),
  DA P U τ0 F0 s0 hp0 all.length i τ F s S f tm pd esX I->DB P ⟨hp0.m,hp0.nx+all.length⟩ i τ F s S es esX->i+rest.length=all.length->
  ∀Q,(sgo P U call nt all rest i f pd es s).vc U Q->bo8 P U ov nt all τ0 F0 s0 hp0 rest i tm S I esX f Q
 | [],i,τ,F,s,S,f,tm,pd,es,esX,I,d,hb,hi,Q,hq=>by
  have e:i=all.length:=by grind
  subst e;exact⟨f,pd,s,hq,τ,F,⟨tm,S,I,esX⟩,es,EV.of fun m=>rfl,d,hb,[],rfl⟩
 | (o, pre) :: rest, i, τ, F, s, S, f, tm, pd, es, esX, I,  d, hb, hi, Q, hq => by
  have az:i<all.length:=by grind
  have K:i+1+rest.length=all.length:=by grind
  unfold sgo at hq;cases O:u7 nt o.dst&&Nat.blt pre (2^i)with
  |false=>rw[O]at hq;exact hq.elim
  | true =>
   rw[O,bG8,p9]at hq;rw[bF2]at O;have al:pre<2^i:=bF5 O.2;obtain⟨t,s1,hq,C,aw,hw⟩:=aA5 d.td all o (s:=s) _ hq d.sd.fc;have d:=d.fr (bf7 d.td hw);obtain⟨p0,V⟩:=aS3 all f o t;have R:bo8 P U ov nt all τ0 F0 s0 hp0 ((o,pre)::rest) i tm S I esX (N2 all f o t) Q->bo8 P U ov nt all τ0 F0 s0 hp0 ((o,pre)::rest) i tm S I esX f Q:=
    fun⟨f',ak,s',h1,τ',F',aj,W,h2,h3,h4,pr,h5⟩=>⟨f',ak,s',h1,τ',F',aj,W,h2,h3,h4,pr++p0,by rw[h5,V,bG5]⟩
   refine R ?_;clear R V p0;generalize N2 all f o t=f at hq d ⊢;have A:=d.sd.only C aw;have   G : ∀ {a : SV} {v : Value} {S' : Hp} {I' : Nat} {eX : Ent}, (EV fun m => xgo P (exec P ov m) nt all hp0.nx ((o, pre) :: rest) i tm S I esX = xgo P (exec P ov m) nt all hp0.nx rest (i + 1) (q9 tm o.dst v) S' I' (eX :: esX)) →
     bo8 P U ov nt all τ0 F0 s0 hp0 rest (i+1) (q9 tm o.dst v) S' I' (eX::esX) (D0 f o.dst a) Q->bo8 P U ov nt all τ0 F0 s0 hp0 ((o,pre)::rest) i tm S I esX f Q:=by
    intro a v S' I' eX he ⟨f',ak,s',h1,τ',F',aj,W,h2,h3,h4,pr,h5⟩;obtain⟨p,hp⟩:=aS0 f o.dst a;exact⟨f',ak,s',h1,τ',F',aj,W,(he.and h2).mono fun m ⟨k1,k2⟩=>by rw[k1];exact k2,h3,h4,pr++p,by rw[h5,hp,bG5]⟩
   have aa:∀b x,s.get b=some x->τ b=τ b:=fun _ _ _=>rfl
   cases t with
   |false=>
    rw[bG9]at hq;cases hc:bq8 o&& !(es.all (Y6 pre [] .free))with
    |true=>rw[hc]at hq;exact hq.elim
    |false=>
     rw[hc,bG9]at hq;have hk:∀h:bq8 o=true,es.all (Y6 pre [] .free)=true:=fun h=>by
      grind
     have X:∀b,s1.get b=s.get b:=C.get;have ha':=d.keep hb.xi (eX:=⟨i,o,pre,tm,S,S,I,false,undef,none⟩) A (d.td.put (.tup [] [] rfl (fun i a x h _=>by simp at h)) o.dst) C.h C.nx (Ext.only d.sd C) rfl rfl
     have hb':=hb.step (en:=⟨i,pre,bq8 o,false,.free,[],false⟩) (eX:=⟨i,o,pre,tm,S,S,I,false,undef,none⟩) (τ':=τ) (F':=F) (s':=s1) (S':=S) (Tle.refl τ) (Fle.refl F) aa d.sd.frz (fun _ _ _ h=>h)
      (fun b _=>X b) (fun _ _ _ _ _ _ _=>rfl) rfl rfl rfl rfl rfl (fun _=>⟨rfl,rfl⟩) hk (fun _ _ _ h=>by cases h) (fun h _=>by cases h)
     exact G (EV.of fun m=>bE9 O.1 hw) (ap0 z rest (i+1) τ F s1 S _ _ pd _ _ I ha' hb' K Q hq)
   |true=>
    rw[bG8]at hq;have ba:c9 o.op=0\/c9 o.op=1\/c9 o.op=2\/c9 o.op=3:=by have:=ak4 o.op;omega
    rcases ba with hk|hk|hk|hk<;>rw[hk]at hq
    ·rw[show Nat.beq 0 0=true from rfl,bG8,p9]at hq
     obtain⟨a,s2,⟨hq,h1,h2⟩,τ',F',S',ex,B,v,hx,hv⟩:=aL5 z (d.td) A o.op _ (aS2 hq) A;obtain⟨M,D⟩:=hx;have D:∀m,M<=m->xop P (exec P ov m) tm S o.op=some (v,S'):=D;obtain⟨r,hr⟩:=aC5 (P:=P) (call:=exec P ov M) (tm:=tm) hk;have hS:S'=S:=by have:=D M (bH4 _);rw[hr]at this;exact(f5 this).2
     obtain⟨rfl,rfl,h3⟩:=ex.quiet A B hS h1 h2;subst hS;have hh:s2.h=s.h:=by rw[h3,C.h]
     have hn:s2.nx=s.nx:=by rw[h2,C.nx]
     have X:∀b,s2.get b=s.get b:=fun b=>by unfold SS.get;rw[hh]
     have ha':=d.keep hb.xi (eX:=⟨i,o,pre,tm,S',S',I,true,v,none⟩) B (d.td.put hv o.dst) hh hn ((Ext.only d.sd C).trans ex) rfl rfl;have hb':=hb.step (en:=⟨i,pre,false,false,.free,[],false⟩) (eX:=⟨i,o,pre,tm,S',S',I,true,v,none⟩) (τ':=τ') (F':=F') (s':=s2) (S':=S') (Tle.refl _) (Fle.refl _) aa d.sd.frz (fun _ _ _ h=>h)
      (fun b _=>X b) (fun _ _ _ _ _ _ _=>rfl) rfl rfl rfl (by show false=isW _;unfold isW;rw[show c9 o.op=0 from hk];rfl) rfl (fun _=>⟨rfl,rfl⟩) (fun h=>by unfold isW at h;rw[show c9 o.op=0 from hk]at h;cases h) (fun h=>by cases h) (fun _ h=>by rw[show c9 o.op=0 from hk]at h;cases h)
     exact G ⟨M,fun m hm=>xgo_0 O.1 hw hk (D m hm)⟩ (ap0 z rest (i+1) _ _ s2 S' _ _ pd _ _ I ha' hb' K Q hq)
    ·rw[show Nat.beq 1 0=false from rfl,show Nat.beq 1 1=true from rfl,bG9,bG8,p9]at hq
     obtain⟨a,s2,⟨hq,h1,h2⟩,τ',F',S',ex,B,v,hx,hv⟩:=aL5 z (d.td) A o.op _ (aS2 hq) A;obtain⟨M,D⟩:=hx;obtain⟨hS,be⟩:=bF0 hk (D M (bH4 _));obtain⟨rfl,rfl,h3⟩:=ex.quiet A B hS h1 h2;subst hS;have hh:s2.h=s.h:=by rw[h3,C.h]
     have hn:s2.nx=s.nx:=by rw[h2,C.nx]
     have X:∀b,s2.get b=s.get b:=fun b=>by unfold SS.get;rw[hh]
     have bg:=bA5 d.td A (D M (bH4 _));rw[p9]at hq;have E:(∀b,(at6 P f o.op= .blk b\/ ∃t,at6 P f o.op= .mlk t b)-> ∃x,s.get b=some x)/\Tr.vc U ((bif vok 1000 a&&es.all (V9 pre (at6 P f o.op))then sgo P U call nt all rest (i+1) (D0 f o.dst a) pd (⟨i,pre,false,true,at6 P f o.op,[],false⟩::es)
      else a7 "a region: a read") s2) Q:=by
      cases ad:at6 P f o.op with
      |blk b=>
       rw[ad]at hq;simp only[liveR,i9]at hq;cases n:s2.get b with
       |none=>rw[n]at hq;exact hq.elim
       |some x=>rw[n]at hq;exact⟨fun b' e=>by rcases e with e| ⟨_,e⟩<;>cases e;exact⟨x,by rw[<-X];exact n⟩,hq⟩
      |mlk tt b=>
       rw[ad]at hq;simp only[liveR,i9]at hq;cases n:s2.get b with
       |none=>rw[n]at hq;exact hq.elim
       |some x=>rw[n]at hq;exact⟨fun b' e=>by rcases e with e| ⟨_,e⟩<;>cases e;exact⟨x,by rw[<-X];exact n⟩,hq⟩
      |_=>rw[ad]at hq;exact⟨fun b' e=>(by rcases e with e| ⟨_,e⟩<;>cases e),hq⟩
     obtain⟨E,hq⟩:=E;cases hc:vok 1000 a&&es.all (V9 pre (at6 P f o.op))with
     |false=>rw[hc]at hq;exact hq.elim
     |true=>
      rw[hc,bG8]at hq;rw[bF2]at hc;have ha':=d.keep hb.xi (eX:=⟨i,o,pre,tm,S',S',I,true,v,none⟩) B (d.td.put hv o.dst) hh hn ((Ext.only d.sd C).trans ex) rfl rfl;have hb':=hb.step (en:=⟨i,pre,false,true,at6 P f o.op,[],false⟩) (eX:=⟨i,o,pre,tm,S',S',I,true,v,none⟩) (τ':=τ') (F':=F') (s':=s2) (S':=S') (Tle.refl _) (Fle.refl _) aa d.sd.frz (fun _ _ _ h=>h)
       (fun b _=>X b) (fun _ _ _ _ _ _ _=>rfl) rfl rfl rfl (by show false=isW _;unfold isW;rw[show c9 o.op=1 from hk];rfl) rfl (fun _=>⟨rfl,rfl⟩) (fun h=>by unfold isW at h;rw[show c9 o.op=1 from hk]at h;cases h) (fun h=>by cases h)
       (fun _ _=>⟨aU3 1000 a v hc.1 hv,rfl,rfl,bg,E,hc.2⟩)
      refine G ⟨M,fun m hm=>xgo_1 O.1 hw hk be⟩ (ap0 z rest (i+1) _ _ s2 S' _ _ pd _ _ I ha' hb' K Q hq)
    ·rw[show Nat.beq 2 0=false from rfl,show Nat.beq 2 1=false from rfl,show Nat.beq 2 2=true from rfl,bG9,bG9,bG8]at hq
     cases ac:snw P f o.op with
     |none=>rw[ac]at hq;exact hq.elim
     |some xm=>
      obtain⟨x,mk⟩:=xm;rw[ac]at hq;obtain⟨nw,hx,au,aq⟩:=bE3 (U:=U) d.td ac;have hq:(sgo P U call nt all rest (i+1) (D0 f o.dst (mk s1.nx)) (⟨s1.nx,i,x⟩::pd) (⟨i,pre,false,false,.free,[],false⟩::es) (aU1 s1)).vc U Q:=hq;have J:DA P U τ0 F0 s0 hp0 all.length i τ F s1 S f tm pd esX I:=
       ⟨A,d.td,d.ext.trans (Ext.only d.sd C),d.room,d.ib,d.xd,d.pn,fun p hp=>let k:=d.pds p hp;⟨k.lt,k.un,by rw[C.get];exact k.g,k.lo,by rw[C.nx];exact k.hi,k.t,k.f,k.u,k.e⟩,d.cl,d.tk⟩
      have h0:τ s1.nx=none:=A.new _ (bH4 _);have ab:=R3 (τ:=τ) (some (hp0.nx+i,0)) h0;have ha':=J.pend hb.xi az (eX:=⟨i,o,pre,tm,S,S,I,true,nw.val (hp0.nx+i),some nw⟩) (x:=x) (nw:=nw) ((d.td.mono ab (Fle.refl F)).put (aq _ s1.nx (hp0.nx+i) (i6 _ _ _)) o.dst) (au _ ab) rfl rfl;have hb':=hb.step (en:=⟨i,pre,false,false,.free,[],false⟩) (eX:=⟨i,o,pre,tm,S,S,I,true,nw.val (hp0.nx+i),some nw⟩) (τ':=put τ s1.nx (some (hp0.nx+i,0))) (F':=F) (s':=aU1 s1) (S':=S) ab (Fle.refl _)
       (fun b y hb=>q8 τ _ (by have:=d.sd.bound hb;rw[C.nx];omega)) d.sd.frz (fun _ _ _ h=>h)
       (fun b _=>C.get b) (fun _ _ _ _ _ _ _=>rfl) rfl rfl rfl (by show false=isW _;unfold isW;rw[show c9 o.op=2 from hk];rfl) rfl (fun _=>⟨rfl,rfl⟩) (fun h=>by unfold isW at h;rw[show c9 o.op=2 from hk]at h;cases h) (fun h=>by cases h) (fun _ h=>by rw[show c9 o.op=2 from hk]at h;cases h)
      exact G (EV.of fun m=>xgo_2 O.1 hw hk hx) (ap0 z rest (i+1) _ _ _ S _ _ _ _ _ I ha' hb' K Q hq)
    ·rw[show Nat.beq 3 0=false from rfl,show Nat.beq 3 1=false from rfl,show Nat.beq 3 2=false from rfl,bG9,bG9,bG9]at hq
     cases hc:pd.all (fun p=>pre.testBit p.i)with
     |false=>rw[hc]at hq;exact hq.elim
     |true=>
      rw[hc,bG8]at hq;rw[bI1]at hc;have J:DA P U τ0 F0 s0 hp0 all.length i τ F s1 S f tm pd esX I:=
       ⟨A,d.td,d.ext.trans (Ext.only d.sd C),d.room,d.ib,d.xd,d.pn,fun p hp=>let k:=d.pds p hp;⟨k.lt,k.un,by rw[C.get];exact k.g,k.lo,by rw[C.nx];exact k.hi,k.t,k.f,k.u,k.e⟩,d.cl,d.tk⟩
      have ap:∀e∈esX,e.nw≠none->(ag8 pre I e.i=true↔ ∃p∈pd,p.i=e.i):=by
       intro e he bc;unfold ag8;rw[bF2,bJ7]
       constructor
       ·rintro ⟨_,h2⟩;exact d.tk e he bc h2
       ·rintro ⟨p,hp,h2⟩;rw[<-h2];exact⟨hc p hp,(d.pds p hp).un⟩
      obtain⟨t1,t2,t3,t4⟩:=J.take (ag8 pre I) ap;simp only[i9]at hq;rw[p9]at hq;generalize ae:ah2 P s1 f o.op=so at hq;have hq:(a8 (br3 s1.h.length (sop P U call f o.op)) (fun r=>a8 (liveR so) fun _=>bif es.all (Y6 pre r.2.1 so)then sgo P U call nt all rest (i+1) (D0 f o.dst r.1) [] (⟨i,pre,true,false,so,r.2.1,r.2.2⟩::es)else a7 "a region: a write") (Y7 s1 pd)).vc U Q:=hq
      rw[p9]at hq;unfold br3 at hq;rw[Tr.vc_bind]at hq;obtain⟨a,s2,hq,τ',F',S',ex,B,v,hx,hv⟩:=aL5 z d.td t1 o.op _ hq t1;obtain⟨l,a1,a2,a3,a4,a5⟩:=ex.hh;have Z:I4 (s2.h.length-s1.h.length) s2.h=(l++tkl pd).map Prod.fst:=by
       have:s2.h=(l++tkl pd)++s1.h:=by rw[a1,bG5];rfl
       rw[this,bH8,Nat.add_sub_cancel,ar4]
      have hq:(a8 (liveR so) (fun _=>bif es.all (Y6 pre (I4 (s2.h.length-s1.h.length) s2.h) so)then sgo P U call nt all rest (i+1) (D0 f o.dst a) [] (⟨i,pre,true,false,so,I4 (s2.h.length-s1.h.length) s2.h,ar3 (s2.h.length-s1.h.length) s2.h⟩::es)else a7 "a region: a write") s2).vc U Q:=hq
      rw[p9]at hq;have E:(∀t b,so= .mlk t b-> ∃x,s2.get b=some x)/\((bif es.all (Y6 pre (I4 (s2.h.length-s1.h.length) s2.h) so)then sgo P U call nt all rest (i+1) (D0 f o.dst a) [] (⟨i,pre,true,false,so,I4 (s2.h.length-s1.h.length) s2.h,ar3 (s2.h.length-s1.h.length) s2.h⟩::es)else a7 "a region: a write") s2).vc U Q:=by
       cases so with
       |blk b=>
        simp only[liveR,i9]at hq;cases n:s2.get b with
        |none=>rw[n]at hq;exact hq.elim
        |some x=>rw[n]at hq;exact⟨fun _ _ e=>(by cases e),hq⟩
       |mlk tt b=>
        simp only[liveR,i9]at hq;cases n:s2.get b with
        |none=>rw[n]at hq;exact hq.elim
        |some x=>rw[n]at hq;exact⟨fun _ _ e=>(by cases e;exact⟨x,n⟩),hq⟩
       |free=>exact⟨fun _ _ e=>(by cases e),hq⟩
       |frz=>exact⟨fun _ _ e=>(by cases e),hq⟩
       |bad=>exact⟨fun _ _ e=>(by cases e),hq⟩
      obtain⟨E,hq⟩:=E;rw[Z]at hq;cases N:es.all (Y6 pre ((l++tkl pd).map Prod.fst) so)with
      |false=>rw[N]at hq;exact hq.elim
      |true=>
       rw[N,bG8]at hq;have ha':=J.write hb.xi al hc t3 t2 ex B ((d.td.mono ex.t ex.f).put hv o.dst) (eX:=⟨i,o,pre,tm,S,S',I,true,v,none⟩) rfl rfl;have ay:∀b,b∉(l++tkl pd).map Prod.fst->s2.get b=s.get b:=by
        intro b hb;have:s2.h=(l++tkl pd)++s.h:=by rw[a1,bG5,<-C.h];rfl
        unfold SS.get;rw[this,au6 _ _ hb]
       have bh:∀b x j q,s.get b=some x->τ b=some (some (j,q))->b∉(l++tkl pd).map Prod.fst->S'.m.get j=S.m.get j:=by
        intro b x j q n ai bk;have L:∀p∈pd,b≠p.b:=by
         intro p hp e;rw[e,(d.pds p hp).g]at n;cases n
        have Y:∀p∈pd,j≠hp0.nx+p.i:=by
         intro p hp e;subst e;exact L p hp ((d.pds p hp).u b q ai)
        have ax:(Y7 s1 pd).get b=some x:=by rw[Q4 L,C.get];exact n
        rw[a2 j (by rw[t3];exact d.sd.lt b j q ai) (fun b' y q' e1 e2 e3=>?_),t4 j Y]
        by_cases eb:b'=b
        ·grind
        ·exact t1.inj b' b y x j q' j q e1 ax eb e2 ai rfl
       have av:(isW (⟨i,o,pre,tm,S,S',I,true,v,none⟩:Ent)=true->ar3 (s2.h.length-s1.h.length) s2.h=false)-> ∀j y,F' j=some y->F j=some y:=fun hq=>by
        have hn:=hq (by unfold isW;rw[show c9 o.op=3 from hk];rfl)
        have e2:s2.h=(l++tkl pd)++s1.h:=by rw[a1,bG5];rfl
        rw[e2,bH8,Nat.add_sub_cancel]at hn;exact a5 fun p hp=>bk4 _ _ hn p (bO8 _ hp)
       obtain⟨M,D⟩:=hx;have ah:∀tt b,as0 so (.mlk tt b)=true-> ∃x x' j q,s.get b=some x/\s2.get b=some x'/\τ b=some (some (j,q))/\MS P tt j S S':=by
        intro tt b ao;have e:so= .mlk tt b:=by
         clear ae hq E N;cases so with
         |mlk t2 b2=>
          simp only[as0,bF2,bJ1]at ao
          grind
         |_=>cases ao
        obtain⟨x',bi⟩:=E tt b e;have bb:∃x,s1.get b=some x:=by
         rw[<-ae]at e;unfold ah2 at e;split at e
         ·split at e
          ·grind
          ·cases e
         ·cases e
        obtain⟨x1,bj⟩:=bb;have L:∀p∈pd,b≠p.b:=by
         intro p hp e;have:=(J.pds p hp).g;rw[<-e,bj]at this;cases this
        obtain⟨x,j,q,g1,g2,g3⟩:=bm6 (s0:=s1) (ae.trans e) d.td t1 (by rw[Q4 L]) (D M (bH4 _))
        have Y:∀p∈pd,j≠hp0.nx+p.i:=by
         intro p hp e;subst e;exact L p hp ((d.pds p hp).u b q g2)
        exact⟨x,x',j,q,by rw[<-C.get];exact g1,bi,g2,(MS.of (t4 j Y)).trans g3⟩
       have hb':=hb.step (en:=⟨i,pre,true,false,so,(l++tkl pd).map Prod.fst,ar3 (s2.h.length-s1.h.length) s2.h⟩) (eX:=⟨i,o,pre,tm,S,S',I,true,v,none⟩) (τ':=τ') (F':=F') (s':=s2) (S':=S') ex.t ex.f
        (fun b y n=>ex.st b (by have:=d.sd.bound n;show b<s1.nx;rw[C.nx];exact this)) B.frz av ay bh rfl rfl rfl (by show true=isW _;unfold isW;rw[show c9 o.op=3 from hk];rfl) rfl
        (fun h=>by unfold isW at h;rw[show c9 o.op=3 from hk]at h;cases h) (fun _=>N) (fun _=>ah) (fun _ h=>by rw[show c9 o.op=3 from hk]at h;cases h)
       exact G ⟨M,fun m hm=>xgo_3 O.1 hw hk (D m hm)⟩ (ap0 z rest (i+1) _ _ _ S' _ _ _ _ _ _ ha' hb' K Q hq)
theorem ao9 {call : B7} (    r : y4 P U ov call) (all : List Oper) (f : Fm) (τ : Tau) (F : Nat → Option Blk) (s : SS) (hp : Hp) (tm : T Value) (ht : TD P U τ F f tm) (hs : SD P U τ F s hp) :
  OKh P U (ao8 P U call nt all f) τ F s hp fun A τ' F' hp'=>∃tm',(EV fun n=>J4 P (exec P ov n) nt all tm hp=some (tm',hp'))/\TD P U τ' F' A tm'/\ ∃pre,A=pre++f:=by
 intro Q hq _;unfold ao8 at hq;cases q:stat all (z6 all [])with
 |false=>rw[q]at hq;exact hq.elim
 |true=>
  rw[q,bG8,p9]at hq;have z:(all.zip (z6 all [])).length=all.length:=by
   have:=q;simp only[stat,bF2]at this;have:=bF6 this.1.1;rw[List.length_zip,this,Nat.min_self]
  have J:SD P U τ F s ⟨hp.m,hp.nx+all.length⟩:=⟨hs.live,hs.inj,hs.frz,fun b i o h=>bK4 (hs.lt b i o h) (Nat.le_add_right _ _),fun i b h=>bK4 (hs.flt i b h) (Nat.le_add_right _ _),hs.new,hs.fc,hs.fz⟩
  have B:Ext τ F s hp τ F s ⟨hp.m,hp.nx+all.length⟩:=⟨Tle.refl τ,Fle.refl F,Nat.le_add_right _ _,bH4 _,fun _ _=>rfl,fun b x hb _=>⟨x,hb⟩,
   ⟨[],rfl,fun _ _ _=>rfl,fun b i o hb ht=>(by rw[hs.new b hb]at ht;cases ht),fun _ _ _ h=>.inl h,fun _ _ _ h=>h⟩,⟨[],rfl⟩⟩
  have N:DA P U τ F s hp all.length 0 τ F s ⟨hp.m,hp.nx+all.length⟩ f tm [] [] 0:=by
   refine⟨J,ht,B,bH4 _,fun j _=>Nat.zero_testBit j,.nil,.nil,fun p hp=>by simp at hp,fun j _ _=>⟨fun c o hc=>?_,?_⟩,fun e he=>by simp at he⟩
   ·have:=hs.lt c _ o hc;omega
   ·cases hF:F (hp.nx+j)with
    |none=>rfl
    |some y=>have:=hs.flt _ y hF;omega
  have hb:DB P ⟨hp.m,hp.nx+all.length⟩ 0 τ F s ⟨hp.m,hp.nx+all.length⟩ [] []:=by
   refine⟨fun e he=>by simp at he,fun e he=>by simp at he,fun e he=>by simp at he,fun e he=>by simp at he,fun k Sk g b x j o _ _ _=>?_,fun k Sk g _ j y hj=>?_,fun e he=>by simp at he,fun t k Sk g b x j o _ _ _=>?_⟩
   ·rcases g with⟨_,rfl⟩| ⟨x,hx,_⟩
    ·rfl
    ·simp at hx
   ·rcases g with⟨_,rfl⟩| ⟨x,hx,_⟩
    ·exact hs.frz j y hj
    ·simp at hx
   ·rcases g with⟨_,rfl⟩| ⟨x,hx,_⟩
    ·exact MS.of rfl
    ·simp at hx
  obtain⟨A,K,s',G,τ',F',d,M,⟨R,C⟩,ha',hb',pr,E⟩:=ap0 r (all.zip (z6 all [])) 0 τ F s _ f tm [] [] [] 0 N hb (by rw[z,bI3]) _ hq
  obtain⟨t1,t2,_,_⟩:=ha'.take (ae6 d.I) (fun e he D=>by
   unfold ae6;rw[bJ7]
   constructor
   ·exact ha'.tk e he D
   ·rintro ⟨p,hp,L⟩
    rw[<-L];exact(ha'.pds p hp).un)
  have u:dyn P ⟨hp.m,hp.nx+all.length⟩ d.es=true:=by
   unfold dyn;rw[bI1];intro e he;cases hc:e.wt&&Nat.beq (c9 e.o.op) 1 with
   |false=>rfl
   |true=>
    rw[bG8];rw[bF2]at hc;have look:=hb'.look e he hc.1 (bF6 hc.2);rw[bF2];refine⟨(look 0 _ (.inl ⟨rfl,rfl⟩)).look,?_⟩;rw[bI1];intro x hx;cases O:isW x with
    |false=>rfl
    |true=>exact(look _ _ (.inr ⟨x,hx,O,rfl,rfl⟩)).look
  refine⟨A,Y7 s' K,G,τ',F',takes hp.nx (ae6 d.I) d.es d.S,t2,t1,d.tm,⟨R,fun m hm=>?_⟩,ha'.td,pr,E⟩
  have e:xgo P (exec P ov m) nt all hp.nx (all.zip (z6 all [])) 0 tm ⟨hp.m,hp.nx+all.length⟩ 0 []=some d:=C m hm;show J4 P (exec P ov m) nt all tm hp=_;unfold J4;rw[q,bG8,e];simp only[u,bG8]
theorem bB7 {a a' : Operand} {f : Fm} {s : SS} {Q : Fm × SS → Prop} (h : (twoB a a' f s).vc U Q) :
  ∃b z r fl b' j g d,f8 f a=some (.ptr b z r fl)/\f8 f a'=some (.ptr b' j g d)/\b≠b'/\(∃X,s.get b=some X)/\(∃Y,s.get b'=some Y)/\Q (f,s):=by
 unfold twoB i9 at h;generalize f8 f a=u at h⊢;generalize f8 f a'=w at h⊢;cases u with
 |none=>exact h.elim
 |some u=>cases w with
  |none=>cases u<;>exact h.elim
  |some w=>
   cases u<;>try exact h.elim
   cases w<;>try exact h.elim
   rename_i b z r fl b' j g d;simp only at h;cases hc: !(Nat.beq b b')&&be5 s b&&be5 s b' with
   |false=>rw[hc]at h;exact h.elim
   |true=>
    rw[hc,bG8]at h;simp only[bF2,bJ7]at hc;obtain⟨⟨k,m⟩,n⟩:=hc;exact⟨b,z,r,fl,b',j,g,d,rfl,rfl,fun e=>by rw[e]at k;simp at k,Option.isSome_iff_exists.1 m,Option.isSome_iff_exists.1 n,h⟩
theorem aT1 {call:B7}(d:y4 P U ov call):S6 P U ov nt (bg6 P U call nt):=by
 intro all f τ F s hp tm ht hs Q hq g;unfold bg6 at hq;cases h:stat all (z6 all [])with
 |true=>
  rw[h,bG8]at hq;obtain⟨A,s',h1,τ',F',hp',h2,h3,tm',h4,p⟩:=ao9 d all f τ F s hp tm ht hs Q hq g;exact⟨A,s',h1,τ',F',hp',h2,h3,tm',h4.mono fun n k=>by unfold l8;rw[k],p⟩
 |false=>
  rw[h,bG9]at hq;have D:∀n,J4 P (exec P ov n) nt all tm hp=none:=fun n=>by unfold J4;rw[h];rfl
  cases m:ao0 all with
  |none=>rw[m]at hq;exact hq.elim
  |some xy=>
  obtain⟨x,y⟩:=xy;rw[m]at hq;simp only at hq;cases hb:aw0 0 all&&Nat.blt x all.length&&Nat.blt y all.length&& !(Nat.beq x y)with
  |false=>rw[hb]at hq;exact hq.elim
  |true=>
  rw[hb,bG8]at hq;cases e:ao5 (c8 all.toArray x y .data).toList (moveLast (c8 all.toArray y x .data) x).toList x y with
  |none=>rw[e]at hq;exact hq.elim
  |some G=>
  obtain⟨a,a'⟩:=G;rw[e]at hq;simp only at hq;obtain⟨q1,q2⟩:=hq;rw[Tr.vc_bind]at q1;obtain⟨_,_,_,_,_,V,_,_,Z,O,_⟩:=ao9 d _ f τ F s hp tm ht hs _ q1 g;have q2:(a8 (ao8 P U call nt (c8 all.toArray x y .data).toList f) (twoB a a') s).vc U Q:=q2;rw[p9]at q2;obtain⟨A,s',q2,τ',F',hp',h2,h3,tm',h4,p,N⟩:=ao9 d _ f τ F s hp tm ht hs _ q2 g;obtain⟨b,z,r,fl,b',z',r',M,J,K,C,⟨X,R⟩,⟨Y,T⟩,q2⟩:=bB7 q2;obtain⟨u,u1,u2⟩:=v6 (P:=P) (U:=U) p J;obtain⟨w,w1,w2⟩:=v6 (P:=P) (U:=U) p K;have B:bi8 (a9 tm' a) (a9 tm' a')=true:=by
   rw[u1,w1];cases u2 with
   |ptr _ _ _ _ i q E _=>cases w2 with
    |ptr _ _ _ _ j W t _=>
     have:=h3.inj b b' X Y i q j W R T C E t;show(!(Nat.beq i j))=true;cases hb:Nat.beq i j with
     |false=>rfl
     |true=>exact absurd (bF6 hb) this
  refine⟨A,s',q2,τ',F',hp',h2,h3,tm',(h4.and O).mono fun n ⟨k1,k2⟩=>?_,p,N⟩
  unfold l8;rw[D n];simp only;rw[m];simp only;unfold bx4;have e0:all.toArray.toList=all:=by simp
  have L:all.toArray.size=all.length:=by simp
  rw[e0,L,hb,bG8,k1,k2];simp only;unfold au2;rw[e];simp only;rw[B];rfl
end
end Go.Sx
namespace Go.Sx
open Go.Xe
section
variable {P :Program}{U:Nat->List Dat->Dat}
variable {τ1 τ2:Tau}{F0 F1:Nat->Option Blk}{a:SV}
theorem VD.re {τ0:Tau}{y v1:Value}(h0:VD P U τ0 F0 a y)(h1:VD P U τ1 F1 a v1)(d:∀b p,τ0 b=some p->τ2 b=τ1 b):VD P U τ2 F1 a v1:=by
 induction h1 generalizing y with
 |any v=>exact .any v
 |int k e=>exact .int k e
 |bool e=>exact .bool e
 |str e=>exact .str e
 |nilp=>exact .nilp
 |ptr b z row fld i o k h=>
  cases h0 with
  |ptr _ _ _ _ B o' k' _=>exact .ptr b z row fld i o (by rw[d b _ k'];exact k) h
 |pptr t L row fld i o l c k h h'=>exact .pptr t L row fld i o l c k h h'
 |nils=>exact .nils
 |sl b z off len cap i o c k h h' hc=>
  have hb:∃p,τ0 b=some p:=by cases h0<;>exact⟨_,by assumption⟩
  obtain⟨p,hp⟩:=hb;exact .sl b z off len cap i o c (by rw[d b _ hp];exact k) h h' hc
 |sl0 b z off len cap k h h' hc=>
  have hb:∃p,τ0 b=some p:=by cases h0<;>exact⟨_,by assumption⟩
  obtain⟨p,hp⟩:=hb;exact .sl0 b z off len cap (by rw[d b _ hp];exact k) h h' hc
 |lst t L clip v k hc=>exact .lst t L clip v k hc
 |agg l xs n _ q=>
  cases h0 with
  |agg _ ys r h2=>
   refine .agg l xs n fun i a x j hx=>?_
   grind
 |tup l xs n _ q=>
  cases h0 with
  |tup _ ys r h2=>
   refine .tup l xs n fun i a x j hx=>?_
   grind
 |fn f l m xs ys n _ r _ C D=>
  cases h0 with
  |fn _ _ _ G J K k3 M N=>
   refine .fn f l m xs ys n (fun i a x j hx=>?_) r (fun i a x j hx=>?_)
   ·grind
   ·grind
 |nilf=>exact .nilf
 |map b i o k=>
  cases h0 with
  |map _ B o' k'=>exact .map b i o (by rw[d b _ k'];exact k)
 |nilm=>exact .nilm
 |iface t v x _ q=>
  cases h0 with
  |iface _ _ x' h'=>exact .iface t v x (q h')
 |nili=>exact .nili
 |yld ks vs g nt ps as bo i tms pr db hF hp _ q=>
  cases h0 with
  |yld _ _ _ _ _ _ _ i0 u E A _ _ k0=>exact .yld ks vs g nt ps as bo i tms pr db hF hp fun k a j=>q k a j (k0 k a j)
theorem BD.re {τ0:Tau}{x:p7}{o0 k:Nat}{u m:Blk}(h0:BD P U τ0 F0 o0 x u)(h1:BD P U τ1 F1 k x m)(g:∀b p,τ0 b=some p->τ2 b=τ1 b):BD P U τ2 F1 k x m:=by
 cases x with
 |cells l e z=>
  obtain⟨cs0,n0,_,_,k0⟩:=h0;obtain⟨cs,n,q,r,k1⟩:=h1;refine⟨cs,n,q,r,fun j a h=>?_⟩
  obtain⟨x,hx,t⟩:=k1 j a h;obtain⟨x0,_,d⟩:=k0 j a h;exact⟨x,hx,d.re t g⟩
 |rows L e z ph=>exact h1
 |map L kt vt=>exact h1
 |iter s p=>exact h1
def C3 (P:Program)(U:Nat->List Dat->Dat)(x:p7):Prop:=∃L e z ph,x= .rows L e z ph/\L.toR U=[]/\z=(kf P e).length/\ph.toI U<=0
theorem SD.rebase  {F : Nat → Option Blk} {s1 s2 : SS} {hp : Hp} (hs : SD P U τ1 F s1 hp) (g : Nat → Nat)
  (h:∀b x,s2.get b=some x-> ∃x',s1.get (g b)=some x'/\τ2 b=τ1 (g b)/\(∀i o y,τ1 (g b)=some (some (i,o))->hp.m.get i=some y->BD P U τ1 F o x' y->BD P U τ2 F o x y)/\(C3 P U x'->C3 P U x))
  (n:∀b c x y,s2.get b=some x->s2.get c=some y->b≠c->g b≠g c) (hlt:∀b i o,τ2 b=some (some (i,o))->i<hp.nx) (hn:∀b,s2.nx<=b->τ2 b=none) (hf:FT U s2.fc) (hz:∀r∈s2.fz,bi2 P U τ2 F r):SD P U τ2 F s2 hp:=by
 refine⟨fun b x hb=>?_,fun b c x y i o j q hb hc d e k=>?_,hs.frz,hlt,hs.flt,hn,hf,hz⟩
 ·obtain⟨x',h1,h2,h3,h4⟩:=h b x hb
  rcases hs.live _ _ h1 with⟨i,o,y,k1,k2,k3,t⟩| ⟨k1,k2⟩
  ·grind
  ·exact .inr ⟨by rw[h2];exact k1,h4 k2⟩
 ·obtain⟨x',h1,h2,_⟩:=h b x hb
  obtain⟨p,k1,k2,_⟩:=h c y hc;rw[h2]at e;rw[k2]at k;exact hs.inj _ _ x' p i o j q h1 k1 (n b c x y hb hc d) e k
inductive G where
 |keep
 |any
 |int (k:IntKind)
 |bool
 |str
 |lst (t:TypeId)
 |acc (e:TypeId) (z:Nat)
 |clp (t:TypeId)
 |itr (s:E)
 |cel (k:IntKind) (t:TypeId)
 |mac (kt vt:TypeId)
 |rwk (b:Nat) (e:TypeId) (z:Nat) (ph:E)
 |pp (t:TypeId)
def G.so :G->Option So
 | .int _=>some .i
 | .bool=>some .b
 | .str=>some .s
 | .lst _=>some .l
 | .clp _=>some .l
 | .acc _ _=>some .l
 | .itr _=>some .i
 | .cel _ _=>some .i
 | .mac _ _=>some .l
 | .rwk _ _ _ _=>some .l
 | .pp _=>some .l
 |_=>none
def G.na :G->Nat
 | .acc _ _=>1
 | .itr _=>1
 | .cel _ _=>1
 | .mac _ _=>1
 |_=>0
def aa1 :SV->Cp
 | .nils=>.ge
 | .sl _ _ _ _ (.ex c)=>.ex c
 | .sl _ _ _ _ .ge=>.ge
 |_=>.un
def phOf (L:E):Cp->E
 | .ex c=>c
 | .ge=>p8 L
 | .un=>p8 L
def tv (g:G)(a:SV)(e:E)(b:Nat):SV:=match g with
 | .keep=>a
 | .any=>.any
 | .int k=>.int k e
 | .bool=>.bool e
 | .str=>.str e
 | .lst t=>.lst t e false
 | .clp t=>.lst t e true
 | .acc _ z=>.sl b z (.int 0) (p8 e) (aa1 a)
 | .itr _=>.ptr b 1 (.int 0) 0
 | .cel _ _=>.ptr b 1 (.int 0) 0
 | .mac _ _=>.map b
 | .rwk _ _ _ _=>.any
 | .pp t=>.pptr t e (.int 0) 0
def G.blk (g:G)(a:SV)(d:E):Option p7:=match g with
 | .acc e z=>some (.rows d e z (phOf d (aa1 a)))
 | .itr s=>some (.iter s d)
 | .cel k t=>some (.cells [.int k d] t 1)
 | .mac kt vt=>some (.map d kt vt)
 |_=>none
def G.fix (g:G)(d:E):Option (Nat×p7):=match g with
 | .rwk b e z ph=>some (b,.rows d e z ph)
 |_=>none
def hd1 :List E->E
 | []=>.int 0
 |e::_=>e
def tl1 :List E->List E
 | []=>[]
 |_::l=>l
def pop (g:G)(es:List E):List E:=match g.so with
 |some _=>tl1 es
 |none=>es
inductive At where
 |tmp (t:Nat)
 |cell (b j:Nat)
 |no
structure Pl where
 at_:At
 g:G
 a:SV
def P3 :List Pl->List E->Nat->List (At×SV)
 | [],_,_=>[]
 |p::l,es,b=>(p.at_,tv p.g p.a (hd1 es) b)::P3 l (pop p.g es) (b+p.g.na)
def Z1 :List Pl->List E->Nat->List (Nat×Option p7)
 | [],_,_=>[]
 |p::l,es,b=>match p.g.blk p.a (hd1 es)with
  |some X=>(b,some X)::Z1 l (pop p.g es) (b+p.g.na)
  |none=>match p.g.fix (hd1 es)with
   |some q=>(q.1,some q.2)::Z1 l (pop p.g es) (b+p.g.na)
   |none=>Z1 l (pop p.g es) (b+p.g.na)
def ar5 (P:Program)(U:Nat->List Dat->Dat)(g:G)(v:SV):M SV:=match g with
 | .lst t=>a8 (aT0 P U 20 (.sl t) v) fun e=>c6 (.lst t e false)
 | .clp t=>match v with
  | .lst t' L c=>bif c then c6 (.lst t' L c)else a7 "a list with room behind it"
  | .nils=>c6 (.lst t (.op .nil []) true)
  | .sl b z off len (.ex c)=>a8 (f7 U (z8 c len)) fun _=>a8 (aT0 P U 20 (.sl t) (.sl b z off len (.ex c))) fun e=>c6 (.lst t e true)
  |_=>a7 "a slice with room behind it"
 | .acc e z=>match v with
  | .sl b z' off len cap=>a8 (ay2 P b) fun _=>c6 (.sl b z' off len cap)
  | .nils=>bif Nat.beq z (kf P e).length then a8 (R6 (.rows (.op .nil []) e z (.int 0))) fun b=>c6 (.sl b z (.int 0) (.int 0) .ge)else a7 "loop: cells"
  |_=>a7 "loop: no slice"
 | .pp t=>match v with
  | .ptr b z (.int 0) 0=>i9 fun s=>match s.get b with
   |some (.cells _ _ _)=>a8 (aT0 P U 20 (.sl t) (.sl b z (.int 0) (.int 1) (.ex (.int 1)))) fun e=>a8 (f7 U (z8 (p8 e) (.int 1))) fun _=>c6 (.pptr t e (.int 0) 0)
   |_=>c6 v
  |_=>c6 v
 |_=>c6 v
def norm (P:Program)(U:Nat->List Dat->Dat):List Pl->List SV->M (List SV)
 |p::l,v::vs=>a8 (ar5 P U p.g v) fun v'=>a8 (norm P U l vs) fun vs'=>c6 (v'::vs')
 | [],[]=>c6 []
 |_,_=>a7 "loop: places"
def svp :SV->SV->Bool
 | .ptr b z (.int m) f,.ptr b' z' (.int m') f'=>Nat.beq b b'&&Nat.beq z z'&&decide (m=m')&&Nat.beq f f'
 | .nilp,.nilp=>true
 | .nilf,.nilf=>true
 | .nilm,.nilm=>true
 | .nili,.nili=>true
 | .nils,.nils=>true
 | .map b,.map b'=>Nat.beq b b'
 | .int k (.int m),.int k' (.int m')=>decide (k=k')&&decide (m=m')
 |_,_=>false
def bw9 :List SV->List SV->Bool
 | [],[]=>true
 |a::l,b::m=>svp a b&&bw9 l m
 |_,_=>false
def svk (a v:SV):Bool:=svp a v||match a,v with
 | .fn f l m,.fn g l' m'=>decide (f=g)&&bw9 l l'&&bw9 m m'
 |_,_=>false
theorem bw8 {v:SV} (h : svp a v = true) : a = v := by
 unfold svp at h;split at h <;> first
  |rfl
  |cases h
  | (simp only [bF2, bJ1, bH2] at h
     obtain⟨⟨⟨rfl,rfl⟩,rfl⟩,rfl⟩:=h;rfl)
  | (simp only [bF2, bH2] at h
     obtain⟨rfl,rfl⟩:=h;rfl)
  | (rw[bF6 h])
theorem aM2 :∀ {l m:List SV},bw9 l m=true->l=m
 | [],[],_=>rfl
 | [],_::_,h=>by cases h
 |_::_,[],h=>by cases h
 |a::l,b::m,h=>by
  unfold bw9 at h;rw[bF2]at h;rw[bw8 h.1,aM2 h.2]
theorem bE5 {v:SV}(h:svk a v=true):a=v:=by
 unfold svk at h;rw[bM8]at h
 rcases h with h|h
 ·exact bw8 h
 ·split at h
  ·simp only[bF2,bH2]at h
   rw[h.1.1,aM2 h.1.2,aM2 h.2]
  ·cases h
def mt1 (U : Nat → List Dat → Dat) (g : G) (a v : SV) : M (Option E × Option Nat) := match g with
 | .keep=>bif svk a v then c6 (none,none)else a7 "loop: a place that has changed"
 | .any=>c6 (none,none)
 | .int k=>match v with
  | .int k' e=>bif decide (k=k')then c6 (some e,none)else a7 "loop: kind"
  |_=>a7 "loop: no int"
 | .bool=>match v with
  | .bool e=>c6 (some e,none)
  |_=>a7 "loop: no bool"
 | .str=>match v with
  | .str e=>c6 (some e,none)
  |_=>a7 "loop: no string"
 | .lst t=>match v with
  | .lst t' L _=>bif Nat.beq t t' then c6 (some L,none)else a7 "loop: type"
  |_=>a7 "loop: no list"
 | .clp t=>match v with
  | .lst t' L c=>bif c&&Nat.beq t t' then c6 (some L,none)else a7 "loop: type"
  |_=>a7 "loop: no list"
 | .acc e z => match v with
  | .sl b z' (.int m) len cap => i9 fun s => match s.get b with
   | some (.rows L e' z'' ph) => bif Nat.beq e e' && Nat.beq z z' && Nat.beq z z'' && decide (m = 0) then
     a8 (f7 U (l6 (l9 (p8 L) len))) fun _=>a8 (M6 U L (.int 0) len) fun d=>match aa1 a,cap with
      | .un,.ge=>c6 (some d,some b)
      | .un,.un=>c6 (some d,some b)
      | .ge,.ge=>c6 (some d,some b)
      | .un,.ex c'=>a8 (f7 U (z8 c' len)) fun _=>a8 (f7 U (l9 len (.int 67108865))) fun _=>c6 (some d,some b)
      | .ex c,.ex c'=>a8 (f7 U (z8 c' c)) fun _=>a8 (f7 U (l6 (l9 ph c))) fun _=>c6 (some d,some b)
      |_,_=>a7 "loop: capacity"
    else a7 "loop: slice"
   |_=>a7 "loop: block"
  |_=>a7 "loop: no slice"
 | .itr s0=>match v with
  | .ptr b z (.int m) f=>i9 fun s=>match s.get b with
   |some (.iter s' pos)=>bif Nat.beq z 1&&decide (m=0)&&Nat.beq f 0 then a8 (f7 U (ak2 s' s0)) fun _=>c6 (some pos,some b)else a7 "loop: iterator"
   |_=>a7 "loop: block"
  |_=>a7 "loop: no iterator"
 | .cel k t=>match v with
  | .ptr b z (.int m) f=>i9 fun s=>match s.get b with
   |some (.cells [.int k' e] t' z')=>bif Nat.beq z 1&&decide (m=0)&&Nat.beq f 0&&Nat.beq z' 1&&Nat.beq t t'&&decide (k=k')then c6 (some e,some b)else a7 "loop: cell"
   |_=>a7 "loop: block"
  |_=>a7 "loop: no cell"
 | .mac kt vt=>match v with
  | .map b=>i9 fun s=>match s.get b with
   |some (.map L kt' vt')=>bif Nat.beq kt kt'&&Nat.beq vt vt' then c6 (some L,some b)else a7 "loop: map"
   |_=>a7 "loop: block"
  |_=>a7 "loop: no map"
 | .rwk b e z ph=>i9 fun s=>match s.get b with
  |some (.rows L e' z' ph')=>bif Nat.beq e e'&&Nat.beq z z' then a8 (f7 U (l6 (l9 ph' ph))) fun _=>c6 (some L,none)else a7 "loop: rows"
  |_=>a7 "loop: no rows"
 | .pp t=>match v with
  | .pptr t' L row 0=>bif Nat.beq t t' then c6 (some (.op .part [L,row,.int 1]),none)else a7 "pointer: type"
  |_=>a7 "no pointer to a value"
variable (U) in
def ak8 :So->E->E->Prop
 | .i,e,d=>e.toI U=d.toI U
 | .b,e,d=>(e.den U).toBool=(d.den U).toBool
 | .s,e,d=>(e.den U).toStr=(d.den U).toStr
 | .l,e,d=>e.toR U=d.toR U
variable {τ :Tau}{F:Nat->Option Blk}{s:SS}{hp:Hp}
variable (P U) in
def bo6 (τ:Tau)(F:Nat->Option Blk)(s:SS)(so:So)(mk:E->Option p7)(r:Option E×Option Nat):Prop:=
 ∃b L x',r.2=some b/\r.1=some L/\s.get b=some x'/\ ∀d,ak8 U so L d-> ∃X,mk d=some X/\
  (∀(τ2:Tau) o y,BD P U τ F o x' y->BD P U τ2 F o X y)/\(C3 P U x'->C3 P U X)
variable (P U) in
def bD0 (τ:Tau)(F:Nat->Option Blk)(s:SS)(g:G)(r:Option E×Option Nat):Prop:=
 ∀d0 p,g.fix d0=some p->g.so=some .l/\ ∃L x',r.1=some L/\s.get p.1=some x'/\ ∀d,ak8 U .l L d-> ∃X,g.fix d=some (p.1,X)/\
  (∀(τ2:Tau) o y,BD P U τ F o x' y->BD P U τ2 F o X y)/\(C3 P U x'->C3 P U X)
variable (P U) in
def MtOK (τ0:Tau)(τ:Tau)(F:Nat->Option Blk)(s:SS)(g:G)(a v:SV)(r:Option E×Option Nat):Prop:=
 (∀so,g.so=some so-> ∃e,r.1=some e)/\(g.so=none->r.1=none)/\(g.na=0->r.2=none)/\
 (∀x,VD P U τ F v x-> ∀(τ2:Tau) (nb:Nat) (d:E),(∀b p,τ0 b=some p->τ2 b=τ b)->(∃F0 x0,VD P U τ0 F0 a x0)->(∀e so,r.1=some e->g.so=some so->ak8 U so e d)->(∀b,r.2=some b->τ2 nb=τ b)->VD P U τ2 F (tv g a d nb) x)/\
 (g.na≠0-> ∃so,g.so=some so/\bo6 P U τ F s so (g.blk a) r)/\bD0 P U τ F s g r
theorem aY8 (τ0 : Tau) (g : G) (a v : SV) : OKp U (mt1 U g a v) s fun r => ∀ s', s'.h = s.h → MtOK P U τ0 τ F s' g a v r := by
 cases g with
 |keep=>
  simp only[mt1];cases h:svk a v with
  |false=>exact OKp.fail
  |true=>
   have:=bE5 h;subst this;exact OKp.ret fun s' _=>⟨fun so h=>(by cases h),fun _=>rfl,fun _=>rfl,fun x hx τ2 nb d hk ⟨F0,x0,h0⟩ _ _=>h0.re hx hk,fun h=>absurd rfl h,fun C p h=>(by cases h)⟩
 |any=>
  simp only[mt1];exact OKp.ret fun s' _=>⟨fun so h=>(by cases h),fun _=>rfl,fun _=>rfl,fun x hx τ2 nb d hk _ _ _=>.any x,fun h=>absurd rfl h,fun C p h=>(by cases h)⟩
 |int k=>
  simp only[mt1];split
  ·rename_i k' e
   cases h:decide (k=k')with
   |false=>exact OKp.fail
   |true=>
    rw[bH2]at h;subst h;refine OKp.ret fun s' _=>⟨fun so h=>⟨e,rfl⟩,fun h=>(by cases h),fun _=>rfl,fun x hx τ2 nb d hk _ q _=>?_,fun h=>absurd rfl h,fun C p h=>(by cases h)⟩
    have:=q e .i rfl rfl;cases hx;show VD P U τ2 F (.int k d) _;rw[show e.toI U=d.toI U from this];exact .int k d
  ·exact OKp.fail
 |bool=>
  simp only[mt1];split
  ·rename_i e
   refine OKp.ret fun s' _=>⟨fun so h=>⟨e,rfl⟩,fun h=>(by cases h),fun _=>rfl,fun x hx τ2 nb d hk _ q _=>?_,fun h=>absurd rfl h,fun C p h=>(by cases h)⟩
   have:=q e .b rfl rfl;cases hx;show VD P U τ2 F (.bool d) _;rw[show(e.den U).toBool=(d.den U).toBool from this];exact .bool d
  ·exact OKp.fail
 |str=>
  simp only[mt1];split
  ·rename_i e
   refine OKp.ret fun s' _=>⟨fun so h=>⟨e,rfl⟩,fun h=>(by cases h),fun _=>rfl,fun x hx τ2 nb d hk _ q _=>?_,fun h=>absurd rfl h,fun C p h=>(by cases h)⟩
   have:=q e .s rfl rfl;cases hx;show VD P U τ2 F (.str d) _;rw[show(e.den U).toStr=(d.den U).toStr from this];exact .str d
  ·exact OKp.fail
 |lst t=>
  simp only[mt1];split
  ·rename_i t' L clip
   cases h:Nat.beq t t' with
   |false=>exact OKp.fail
   |true=>
    have:=bF6 h;subst this;refine OKp.ret fun s' _=>⟨fun so h=>⟨L,rfl⟩,fun h=>(by cases h),fun _=>rfl,fun x hx τ2 nb d hk _ q _=>?_,fun h=>absurd rfl h,fun C p h=>(by cases h)⟩
    have:=q L .l rfl rfl;cases hx with
    |lst _ _ _ _ hp hc=>exact .lst t d false x (by rw[<-show L.toR U=d.toR U from this];exact hp) (fun h=>by cases h)
  ·exact OKp.fail
 |clp t=>
  simp only[mt1];split
  ·rename_i t' L clip
   cases h:clip&&Nat.beq t t' with
   |false=>exact OKp.fail
   |true=>
    rw[bF2]at h;obtain⟨rfl,h⟩:=h;have:=bF6 h;subst this;refine OKp.ret fun s' _=>⟨fun so h=>⟨L,rfl⟩,fun h=>(by cases h),fun _=>rfl,fun x hx τ2 nb d hk _ q _=>?_,fun h=>absurd rfl h,fun C p h=>(by cases h)⟩
    have:=q L .l rfl rfl;cases hx with
    |lst _ _ _ _ hp hc=>exact .lst t d true x (by rw[<-show L.toR U=d.toR U from this];exact hp) hc
  ·exact OKp.fail
 |itr s0=>
  simp only[mt1];split
  ·rename_i b z m f
   refine OKp.read ?_;split
   ·rename_i s' pos hb
    cases hc:Nat.beq z 1&&decide (m=0)&&Nat.beq f 0 with
    |false=>exact OKp.fail
    |true=>
     simp only[bF2,bJ1,bH2]at hc;obtain⟨⟨rfl,rfl⟩,rfl⟩:=hc;refine OKp.need.bind fun _ s1 o1 _ n1=>OKp.ret fun s2 J=>?_
     have ad:(s'.den U).toStr=(s0.den U).toStr:=by
      have:=(E.pr_iff U _).1 n1;rw[K1]at this
      grind
     refine⟨fun so h=>⟨pos,rfl⟩,fun h=>(by cases h),fun h=>(by cases h),fun x hx τ2 nb d hk _ q A=>?_,fun _=>⟨.i,rfl,b,pos,.iter s' pos,rfl,rfl,by unfold SS.get;rw[J];exact hb,fun d q=>⟨_,rfl,?_,?_⟩⟩,fun C p h=>(by cases h)⟩
     ·cases hx with
      |ptr _ _ _ _ i o h h0=>exact .ptr nb 1 (.int 0) 0 i o (by rw[A b rfl];exact h) h0
     ·rintro τ2 o y ⟨e0,n,O,R⟩
      exact⟨e0,n,by rw[<-ad];exact O,by rw[<-R];exact q.symm⟩
     ·rintro ⟨L,e,z,ph,h,_⟩
      cases h
   ·exact OKp.fail
  ·exact OKp.fail
 |mac kt vt=>
  simp only[mt1];split
  ·rename_i b
   refine OKp.read ?_;split
   ·rename_i L ak al hb
    cases hc:Nat.beq kt ak&&Nat.beq vt al with
    |false=>exact OKp.fail
    |true=>
     simp only[bF2,bJ1]at hc;obtain⟨rfl,rfl⟩:=hc;refine OKp.ret fun s2 J=>?_
     refine⟨fun so h=>⟨L,rfl⟩,fun h=>(by cases h),fun h=>(by cases h),fun x hx τ2 nb d hk _ q A=>?_,fun _=>⟨.l,rfl,b,L,.map L kt vt,rfl,rfl,by unfold SS.get;rw[J];exact hb,fun d q=>⟨_,rfl,?_,?_⟩⟩,fun C p h=>(by cases h)⟩
     ·cases hx with
      |map _ i o h=>exact .map nb i o (by rw[A b rfl];exact h)
     ·rintro τ2 o y ⟨h0,es,reg,h1,h2⟩
      exact⟨h0,es,reg,h1,by rw[<-show L.toR U=d.toR U from q];exact h2⟩
     ·rintro ⟨L,e,z,ph,h,_⟩
      cases h
   ·exact OKp.fail
  ·exact OKp.fail
 |cel k t=>
  simp only[mt1];split
  ·rename_i b z m f
   refine OKp.read ?_;split
   ·rename_i k' e t' Y hb
    cases hc:Nat.beq z 1&&decide (m=0)&&Nat.beq f 0&&Nat.beq Y 1&&Nat.beq t t'&&decide (k=k')with
    |false=>exact OKp.fail
    |true=>
     simp only[bF2,bJ1,bH2]at hc;obtain⟨⟨⟨⟨⟨rfl,rfl⟩,rfl⟩,rfl⟩,rfl⟩,rfl⟩:=hc;refine OKp.ret fun s2 J=>?_
     refine⟨fun so h=>⟨e,rfl⟩,fun h=>(by cases h),fun h=>(by cases h),fun x hx τ2 nb d hk _ q A=>?_,fun _=>⟨.i,rfl,b,e,.cells [.int k e] t 1,rfl,rfl,by unfold SS.get;rw[J];exact hb,fun d q=>⟨_,rfl,?_,?_⟩⟩,fun C p h=>(by cases h)⟩
     ·cases hx with
      |ptr _ _ _ _ i o h h0=>exact .ptr nb 1 (.int 0) 0 i o (by rw[A b rfl];exact h) h0
     ·rintro τ2 o y ⟨cs,n,e0,O,R⟩
      refine⟨cs,n,e0,O,fun j a u=>?_⟩
      have hj:j=0:=by grind
      subst hj;obtain⟨x,h1,h2⟩:=R 0 (.int k e) rfl;simp at u;subst u;refine⟨x,h1,?_⟩;cases h2;rw[show e.toI U=d.toI U from q];exact .int k d
     ·rintro ⟨L,e,z,ph,h,_⟩
      cases h
   ·exact OKp.fail
  ·exact OKp.fail
 |pp t=>
  simp only[mt1];split
  ·rename_i t' L row
   cases h:Nat.beq t t' with
   |false=>exact OKp.fail
   |true=>
    have:=bF6 h;subst this;refine OKp.ret fun s' _=>⟨fun so h=>⟨_,rfl⟩,fun h=>(by cases h),fun _=>rfl,fun x hx τ2 nb d hk _ q _=>?_,fun h=>absurd rfl h,fun C p h=>(by cases h)⟩
    have q:=q _ .l rfl rfl;have q:part (L.toR U) (row.toI U) 1=d.toR U:=q;cases hx with
    |pptr _ _ _ _ i o l c hp h0 h1=>
     generalize aj:L.toR U=rows at hp h1 q;cases hp with
     |sl _ _ _ _ b cs n z rows xx hF hb hc hn hz hr hx ai=>
      have B:aE9 (1:Int).toNat c/\roC b c _ z:=⟨by
       rcases hc.1 with⟨q1,q2⟩| ⟨lo,q1,q2,q3⟩
       ·exact .inl ⟨q1,by have:(1:Int).toNat=1:=rfl;omega⟩
       ·exact .inr ⟨lo,q1,q2,by have:(1:Int).toNat=1:=rfl;omega⟩,hc.2⟩
      have:=PV.cut (P:=P) (F:=F) hF hb hn hz hr hx ai h0 (show(0:Int)<=1 by omega) (by omega) B
      rw[q]at this;have Z:((d.toR U).length:Int)=1:=by rw[<-q,L5 h0 (by omega) (by omega)];rfl
      exact VD.pptr' (row:= .int 0) this (bL5 0) (by rw[q7];omega) (by rw[<-hz];show _=o+(row.toI U).toNat*z+(0:Int).toNat*z+0;simp)
  ·exact OKp.fail
 |rwk b e z ph=>
  simp only[mt1];refine OKp.read ?_;split
  ·rename_i L e' Y N hb
   cases hc:Nat.beq e e'&&Nat.beq z Y with
   |false=>exact OKp.fail
   |true=>
    simp only[bF2,bJ1]at hc;obtain⟨rfl,rfl⟩:=hc;rw[bG8];refine OKp.need.bind fun _ s1 o1 _ n1=>OKp.ret fun s' X=>?_
    have M:=p6 n1;refine⟨fun so h=>⟨L,rfl⟩,fun h=>(by cases h),fun _=>rfl,fun x hx τ2 nb d hk _ _ _=>.any x,fun h=>absurd rfl h,fun C p h=>⟨rfl,L,.rows L e z N,rfl,?_,fun d q=>⟨.rows d e z ph,?_,?_,?_⟩⟩⟩
    ·simp only[G.fix,bF1]at h
     subst h;unfold SS.get;rw[X];exact hb
    ·simp only[G.fix,bF1]at h
     subst h;rfl
    ·rintro τ2 o y ⟨cs,n,h1,h2,h3⟩
     have K:L.toR U=d.toR U:=q;refine⟨cs,n,h1,by rw[<-K];exact h2,?_⟩
     have:ph.toN U<=N.toN U:=by show(ph.toI U).toNat<=(N.toI U).toNat;omega
     have:=bG4 z this;omega
    ·rintro ⟨L',e',Y,au,h1,h2,h3,h4⟩
     have K:L.toR U=d.toR U:=q;cases h1;exact⟨d,e,z,ph,rfl,by rw[<-K];exact h2,h3,by omega⟩
  ·exact OKp.fail
 | acc e z =>
  simp only[mt1];split
  ·rename_i b  Y m len cap
   refine OKp.read ?_;split
   ·rename_i L e'  ao ph hb
    cases hc:Nat.beq e e'&&Nat.beq z Y&&Nat.beq z ao&&decide (m=0)with
    |false=>exact OKp.fail
    | true =>
     simp only[bF2,bJ1,bH2]at hc;obtain⟨⟨⟨rfl,rfl⟩,rfl⟩,rfl⟩:=hc;rw[bG8];refine OKp.need.bind fun _ s1 o1 _ n1=>t7.bind fun D s2 o2 _ hD=>?_
     have aq:len.toI U<=((L.toR U).length:Int):=by have:=p6 n1;rwa[d5]at this
     have ac:D.toR U=(L.toR U).take (len.toN U):=by
      show(D.den U).rows=_;rw[hD];show part (L.toR U) 0 (len.toI U)=_;unfold part;simp
     have key : ∀ (   B : ∀ (c : Nat) (n : E), n.toI U = len.toI U → aw4 U len cap c → aw4 U n (aa1 a) c) (    V : ∀ c, aa1 a = .ex c → ∃ c', cap = .ex c' ∧ c'.toI U = c.toI U)
       (M:∀c,aa1 a= .ex c->c.toI U<=ph.toI U) (s':SS),s'.h=s.h->MtOK P U τ0 τ F s' (.acc e z) a (.sl b z (.int 0) len cap) (some D,some b):=by
      intro B V M s' X;have aa:∀ {d:E},ak8 U .l D d->d.toR U=(L.toR U).take (len.toN U):=fun h=>by rw[<-ac];exact h.symm
      refine⟨fun so _=>⟨D,rfl⟩,fun h=>(by cases h),fun h=>(by cases h),fun x hx τ2 nb d hk _ q A=>?_,fun _=>⟨.l,rfl,?_⟩,fun C p h=>(by cases h)⟩
      ·have K:=aa (q D .l rfl rfl)
       have ab:=A b rfl;have ap:0<=len.toI U:=by cases hx<;>omega
       have Z:(p8 d).toI U=len.toI U:=by
        rw[d5,K,bI6]
        grind
       have ah:(p8 d).toN U=len.toN U:=by grind
       cases hx with
       |sl _ _ _ _ _ i o c k1 k2 k3 k4=>
        show VD P U τ2 F (.sl nb z (.int 0) (p8 d) (aa1 a)) _;rw[<-ah];exact .sl nb z (.int 0) (p8 d) (aa1 a) i o c (by rw[ab];exact k1) (bL5 0) (by omega) (B c _ Z k4)
       |sl0 _ _ _ _ _ k1 k2 k3 k4=>
        refine .sl0 nb z (.int 0) (p8 d) (aa1 a) (by rw[ab];exact k1) rfl (by omega) fun c hc=>?_
        grind
      ·refine⟨b,D,.rows L e z ph,rfl,rfl,by unfold SS.get;rw[X];exact hb,fun d q=>⟨_,rfl,?_⟩⟩
       have K:=aa q;have W:(d.toR U).length<=(L.toR U).length:=by grind
       constructor
       ·rintro τ2 o y ⟨cs,n,h1,⟨h2,h3,h4,h5⟩,h6⟩
        refine⟨cs,n,h1,⟨?_,h3,fun r hr=>h4 r ?_,fun r k row dd hr ae=>h5 r k row dd ?_ ae⟩,?_⟩
        ·have:=bG4 z W;omega
        ·grind
        ·grind
        ·cases T:aa1 a with
         |ge=>
          have:(phOf d .ge).toN U=(d.toR U).length:=by show((p8 d).toI U).toNat=_;rw[d5];omega
          rw[this];have:=bG4 z W;omega
         |un=>
          have:(phOf d .un).toN U=(d.toR U).length:=by show((p8 d).toI U).toNat=_;rw[d5];omega
          rw[this];have:=bG4 z W;omega
         |ex c=>
          have h7:=M c T;have:(phOf d (.ex c)).toN U<=ph.toN U:=by show(c.toI U).toNat<=(ph.toI U).toNat;omega
          have:=bG4 z this;omega
       ·rintro ⟨L',e',Y,N,h1,h2,h3,h4⟩
        cases h1;refine⟨d,e,z,_,rfl,by rw[K,h2];simp,h3,?_⟩
        cases T:aa1 a with
        |ge=>show(p8 d).toI U<=0;rw[d5,K,h2];simp
        |un=>show(p8 d).toI U<=0;rw[d5,K,h2];simp
        |ex c=>have h7:=M c T;show c.toI U<=0;omega
     split
     ·rename_i u
      refine OKp.ret (key (fun c n hn hc=>?_) (fun c hc=>by rw[u]at hc;cases hc) (fun c hc=>by rw[u]at hc;cases hc))
      rw[u];obtain⟨lo,h1,h2,h3⟩:=hc;exact Or.inr ⟨lo,h1,h2,by omega⟩
     ·rename_i u
      refine OKp.ret (key (fun c n hn hc=>?_) (fun c hc=>by rw[u]at hc;cases hc) (fun c hc=>by rw[u]at hc;cases hc))
      rw[u]
      rcases hc with⟨h1,h2,h3⟩| ⟨lo,h1,h2,h3⟩
      ·exact Or.inl ⟨h1,by rw[h2];show(len.toI U).toNat=(n.toI U).toNat;rw[hn],by omega⟩
      ·exact Or.inr ⟨lo,h1,h2,by omega⟩
     ·rename_i u
      refine OKp.ret (key (fun c n hn hc=>?_) (fun c hc=>by rw[u]at hc;cases hc) (fun c hc=>by rw[u]at hc;cases hc))
      rw[u];obtain⟨lo,h1,h2,h3⟩:=hc;exact⟨lo,h1,h2,by omega⟩
     ·rename_i c' u
      refine OKp.need.bind fun _ s3 _ _ n2=>OKp.need.bind fun _ s4 _ _ n3=>?_
      have O:=N0 n2;have R:=u9 n3;simp only[q7]at R;refine OKp.ret (key (fun k n hn hc=>?_) (fun c hc=>by rw[u]at hc;cases hc) (fun c hc=>by rw[u]at hc;cases hc))
      rw[u];obtain⟨h1,h2,h3,h4⟩:=hc;exact Or.inl ⟨h3,by rw[h2];show(c'.toI U).toNat=(n.toI U).toNat;rw[O,hn],by omega⟩
     ·rename_i c c' u
      refine OKp.need.bind fun _ s3 _ _ n2=>OKp.need.bind fun _ s4 _ _ n3=>?_
      have O:=N0 n2;have R:=p6 n3;refine OKp.ret (key (fun k n hn hc=>?_) (fun c2 hc=>?_) (fun c2 hc=>?_))
      ·rw[u]
       obtain⟨h1,h2,h3,h4⟩:=hc;exact⟨by omega,by rw[h2];show(c'.toI U).toNat=(c.toI U).toNat;rw[O],h3,by omega⟩
      ·rw[u]at hc;cases hc;exact⟨c',rfl,O⟩
      ·rw[u]at hc;cases hc;exact R
     ·exact OKp.fail
   ·exact OKp.fail
  ·exact OKp.fail
end
end Go.Sx
namespace Go.Sx
open Go.Xe
section
variable {P :Program}{U:Nat->List Dat->Dat}
variable {F:Nat->Option Blk}
theorem PV.lst_eq {e:TypeId}{v:Value}{d:Dat}(h:PV P F (.sl e) v d):d= .lst d.rows:=by cases h<;>rfl
theorem ay4 {τ : Tau}  {s : SS} {hp : Hp} (g : G) {v : SV} {x : Value} ( d : VD P U τ F v x) (hs : SD P U τ F s hp) :
  OKh P U (ar5 P U g v) τ F s hp fun v' τ' F' hp'=>hp'=hp/\VD P U τ' F' v' x:=by
 cases g with
 |lst t=>
  simp only[ar5];refine(ad4 20 (.sl t) v x τ F s hp d hs).bind fun e τ1 F1 s1 hp1 _ hs1 ⟨h1,h2,h3⟩=>OKh.ret ⟨h2,?_⟩
  have:=h3.lst_eq;rw[this]at h3;exact .lst t e false x h3 (fun h=>by cases h)
 |clp t=>
  simp only[ar5];split
  ·rename_i t' L c
   cases c with
   |false=>exact OKh.fail
   |true=>exact OKh.ret ⟨rfl,d⟩
  ·cases d
   exact OKh.ret ⟨rfl,.lst t _ true _ (.nils t) (fun _=>⟨_,_,rfl⟩)⟩
  ·rename_i b z off len c
   refine OKh.bindp OKp.need fun _ s1 u hs1 p1=>?_
   have p1:=N0 p1;refine(ad4 20 (.sl t) _ x τ F s1 hp d hs1).bind fun e τ1 F1 s2 hp1 _ j ⟨h1,h2,h3⟩=>OKh.ret ⟨h2,?_⟩
   have:=h3.lst_eq;rw[this]at h3;refine .lst t e true x h3 (fun _=>?_)
   cases d with
   |sl _ _ _ _ _ i o c' k1 k2 k3 q=>
    obtain⟨q1,q2,A,B⟩:=q
    grind
   |sl0=>grind
  ·exact OKh.fail
 |acc e z=>
  simp only[ar5];split
  ·rename_i b r off len cap
   refine(aa9 hs).bind fun _ τ1 F1 s1 hp1 _ hs1 ⟨h1,h2,h3⟩=>OKh.ret ⟨h3,?_⟩
   grind
  ·cases hz:Nat.beq z (kf P e).length with
   |false=>exact OKh.fail
   |true=>
    rw[bG8];have n:=bF6 hz;refine OKh.bind (R:=fun b τ' F' hp'=>hp'=hp/\τ' b=some none) ?_ fun b τ1 F1 s1 hp1 _ hs1 ⟨h1,h2⟩=>OKh.ret ⟨h1,?_⟩
    ·intro Q hq _
     obtain⟨h1,h2⟩:=hs.alloc (x:= .rows (.op .nil []) e z (.int 0)) (p:=none) (hp':=hp) (bH4 _) (fun _ _=>rfl) (.inr ⟨rfl,_,_,_,_,rfl,rfl,n,bL5 0⟩)
     exact⟨s.nx,_,hq,_,F,hp,h1,h2,rfl,i6 _ _ _⟩
    ·cases d
     exact .sl0 b z (.int 0) (.int 0) .ge h2 rfl rfl (fun e h=>by cases h)
  ·exact OKh.fail
 |keep=>exact OKh.ret ⟨rfl,d⟩
 |any=>exact OKh.ret ⟨rfl,d⟩
 |int k=>exact OKh.ret ⟨rfl,d⟩
 |bool=>exact OKh.ret ⟨rfl,d⟩
 |str=>exact OKh.ret ⟨rfl,d⟩
 |itr s=>exact OKh.ret ⟨rfl,d⟩
 |cel k t=>exact OKh.ret ⟨rfl,d⟩
 |mac kt vt=>exact OKh.ret ⟨rfl,d⟩
 |rwk b e z ph=>exact OKh.ret ⟨rfl,d⟩
 |pp t=>
  simp only[ar5];split
  ·rename_i b z
   refine OKh.read ?_;split
   ·rename_i l e r hb
    cases d with
    |ptr _ _ _ _ i o h h0=>
     have m:VD P U τ F (.sl b z (.int 0) (.int 1) (.ex (.int 1))) (.slice (some ⟨i,o+(E.int 0).toN U*z,none⟩) ((E.int 1).toN U) 1):=
      .sl b z (.int 0) (.int 1) (.ex (.int 1)) i o 1 h (bL5 0) (by rw[q7];omega) ⟨by rw[q7];omega,rfl,by unfold unk;omega,bL5 _⟩
     refine(ad4 20 (.sl t) _ _ τ F s hp m hs).bind fun e τ1 F1 s1 hp1 _ hs1 ⟨h1,h2,h3⟩=>OKh.bindp OKp.need fun _ s2 y j p1=>OKh.ret ⟨h2,?_⟩
     have p1:=N0 p1;rw[d5,q7]at p1;have:=h3.lst_eq;rw[this]at h3;exact VD.pptr' (row:= .int 0) h3 (bL5 0) (by rw[q7];show(0:Int)<(e.toR U).length;omega) (by show o+(0:Int).toNat*z+0=o+(0:Int).toNat*z+(0:Int).toNat*_+0;simp)
   ·exact OKh.ret ⟨rfl,d⟩
  ·exact OKh.ret ⟨rfl,d⟩
theorem aK5 : ∀ (ps : List Pl) (vs : List SV) (xs : List Value) (τ : Tau) (F : Nat → Option Blk) (s : SS) (hp : Hp), VDL P U τ F vs xs → SD P U τ F s hp →
  OKh P U (norm P U ps vs) τ F s hp fun h τ' F' hp'=>hp'=hp/\VDL P U τ' F' h xs
 | [],[],xs,τ,F,s,hp,e,hs=>OKh.ret ⟨rfl,e⟩
 | [],v::vs,xs,τ,F,s,hp,e,hs=>OKh.fail
 |p::ps,[],xs,τ,F,s,hp,e,hs=>OKh.fail
 |p::ps,v::vs,xs,τ,F,s,hp,e,hs=>by
  obtain⟨y,ys,rfl,h1,h2⟩:=e.uncons;unfold norm;refine(ay4 p.g h1 hs).bind fun v' τ1 F1 s1 hp1 ex hs1 ⟨j,k⟩=>(aK5 ps vs ys τ1 F1 s1 hp1 (h2.mono ex.t ex.f) hs1).bind fun h τ2 q s2 m d n ⟨k1,k2⟩=>OKh.ret ⟨by rw[k1,j],.cons (k.mono d.t d.f) k2⟩
def I6 {α:Type}:Option α->List α->List α
 |some a,l=>a::l
 |none,l=>l
def mtP (U:Nat->List Dat->Dat):List Pl->List SV->M (List E×List Nat)
 |p::l,v::vs=>a8 (mt1 U p.g p.a v) fun r=>a8 (mtP U l vs) fun t=>c6 (I6 r.1 t.1,I6 r.2 t.2)
 | [],[]=>c6 ([],[])
 |_,_=>a7 "loop: places"
def sos :List Pl->List So
 | []=>[]
 |p::l=>I6 p.g.so (sos l)
def rbs :List Pl->List Nat
 | []=>[]
 |p::l=>match p.g.fix (.int 0)with
  |some q=>q.1::rbs l
  |none=>rbs l
theorem G.fix_num {g:G}{d:E}{q:Nat×p7}(h:g.fix d=some q)(j:E):∃X,g.fix j=some (q.1,X):=by
 cases g with
 |rwk b e z ph=>simp only[G.fix,bF1]at h;subst h;exact⟨_,rfl⟩
 |_=>cases h
variable (U) in
def U1 :List So->List E->List E->Prop
 |k::ks,e::es,d::ds=>ak8 U k e d/\U1 ks es ds
 | [],[],[]=>True
 |_,_,_=>False
variable (P U) in
def Y3 (τ0 τ:Tau)(F:Nat->Option Blk)(s:SS):List Pl->List SV->List E->List Nat->Prop
 | [],[],es,bs=>es=[]/\bs=[]
 |p::l,v::vs,es,bs=>∃r es' bs',es=I6 r.1 es'/\bs=I6 r.2 bs'/\MtOK P U τ0 τ F s p.g p.a v r/\Y3 τ0 τ F s l vs es' bs'
 |_,_,_,_=>False
theorem aY9 {τ:Tau}{F:Nat->Option Blk}(τ0:Tau):∀(ps:List Pl) (vs:List SV) (s:SS),OKp U (mtP U ps vs) s fun r=>∀s',s'.h=s.h->Y3 P U τ0 τ F s' ps vs r.1 r.2
 | [],[],s=>OKp.ret fun _ _=>⟨rfl,rfl⟩
 | [],_::_,s=>OKp.fail
 |_::_,[],s=>OKp.fail
 |p::ps,v::vs,s=>by
  unfold mtP;refine(aY8 (P:=P) (τ:=τ) (F:=F) τ0 p.g p.a v).bind fun r s1 e _ h1=>(aY9 (τ:=τ) (F:=F) τ0 ps vs s1).bind fun t s2 j _ h2=>OKp.ret fun s' d=>?_
  exact⟨r,t.1,t.2,rfl,rfl,h1 s' d,h2 s' (by rw[d,e.h])⟩
section
variable {τ0 τ:Tau}{F:Nat->Option Blk}{s:SS}
theorem G.blk_none {g:G}(h:g.na=0)(a:SV)(d:E):g.blk a d=none:=by
 cases g with
 |acc e z=>cases h
 |itr s=>cases h
 |cel k t=>cases h
 |mac kt vt=>cases h
 |_=>rfl
theorem G.na_le (g:G):g.na=0\/g.na=1:=by cases g<;>simp[G.na]
theorem aQ9 {p : Pl} {ps : List Pl} {v : SV} {r : Option E × Option Nat} {  m : List E} {ds : List E} (h : MtOK P U τ0 τ F s p.g p.a v r) ( k : U1 U (sos (p :: ps)) (I6 r.1   m) ds) :
  (∀e so,r.1=some e->p.g.so=some so->ak8 U so e (hd1 ds))/\U1 U (sos ps) m (pop p.g ds)/\
  (∀b,r.2=some b->p.g.na=1)/\(p.g.na=0\/p.g.na=1):=by
 obtain⟨q,t,u,x,y⟩:=h;have n:p.g.na=0\/p.g.na=1:=p.g.na_le;refine⟨?_,?_,fun b hb=>?_,n⟩
 ·intro e so he j
  unfold sos at k;rw[j,he]at k;cases ds with
  |nil=>exact k.elim
  |cons d ds=>exact k.1
 ·unfold sos at k
  cases j:p.g.so with
  |none=>
   rw[j,t j]at k;unfold pop;rw[j];exact k
  |some so=>
   obtain⟨e,he⟩:=q so j;rw[j,he]at k;cases ds with
   |nil=>exact k.elim
   |cons d ds=>unfold pop;rw[j];exact k.2
 ·grind
theorem Y3.vals : ∀ {ps : List Pl} {vs : List SV} {es : List E} {bs : List Nat} {ds : List E} {xs : List Value} {τ2 : Tau} {nb : Nat}, Y3 P U τ0 τ F s ps vs es bs → U1 U (sos ps) es ds →
  (∀b p,τ0 b=some p->τ2 b=τ b)->(∀k b,bs[k]? =some b->τ2 (nb+k)=τ b)->(∀p∈ps,∃F0 x0,VD P U τ0 F0 p.a x0)->VDL P U τ F vs xs->
  ∀(i:Nat) q x,(P3 ps ds nb)[i]? =some q->xs[i]? =some x->VD P U τ2 F q.2 x
 | [],vs,es,bs,ds,xs,τ2,nb,h,j,hk,hb,g,hx=>fun i q x hq _=>by simp[P3]at hq
 |p::ps,[],es,bs,ds,xs,τ2,nb,h,j,hk,hb,g,hx=>h.elim
 |p::ps,v::vs,es,bs,ds,xs,τ2,nb,h,j,hk,hb,g,hx=>by
  obtain⟨r,t,n,rfl,rfl,hm,m⟩:=h;obtain⟨y,ys,rfl,h1,h2⟩:=hx.uncons;obtain⟨s1,s2,z,u⟩:=aQ9 hm j;intro i q x hq d;cases i with
  |zero=>
   simp only[P3,bG7,bF1]at hq d;subst hq;subst d;refine hm.2.2.2.1 y h1 τ2 nb (hd1 ds) hk (g p (by simp)) s1 fun b hr=>?_
   have:=hb 0 b (by rw[hr];rfl)
   grind
  |succ i=>
   simp only[P3,bG2]at hq d;refine Y3.vals m s2 hk (fun k b e=>?_) (fun p hp=>g p (by simp[hp])) h2 i q x hq d
   rcases u with h0|h0
   ·rw[h0,bL7]
    have hr:r.2=none:=hm.2.2.1 h0;rw[hr]at hb;exact hb k b e
   ·obtain⟨so,_,b',L,x',hr,_⟩:=hm.2.2.2.2.1 (by omega)
    rw[hr]at hb;have:=hb (k+1) b e
    grind
theorem Y3.blks : ∀ {ps : List Pl} {vs : List SV} {es : List E} {bs : List Nat} {ds : List E} {nb : Nat}, Y3 P U τ0 τ F s ps vs es bs → U1 U (sos ps) es ds →
  ∀b' y,lk (Z1 ps ds nb) b'=some y->(∃k b X x',b'=nb+k/\bs[k]? =some b/\y=some X/\s.get b=some x'/\(∀(τ2:Tau) o z,BD P U τ F o x' z->BD P U τ2 F o X z)/\(C3 P U x'->C3 P U X))\/
   (∃X x',b'∈rbs ps/\y=some X/\s.get b'=some x'/\(∀(τ2:Tau) o z,BD P U τ F o x' z->BD P U τ2 F o X z)/\(C3 P U x'->C3 P U X))
 | [],vs,es,bs,ds,nb,h,x=>fun b' y hy=>by simp[Z1,lk]at hy
 |p::ps,[],es,bs,ds,nb,h,x=>h.elim
 |p::ps,v::vs,es,bs,ds,nb,h,x=>by
  obtain⟨r,N,M,rfl,rfl,hm,A⟩:=h;obtain⟨s1,s2,Z,W⟩:=aQ9 hm x;intro b' y hy;have D:=Y3.blks (nb:=nb+p.g.na) A s2;have sub:∀b,b∈rbs ps->b∈rbs (p::ps):=fun b hb=>by
   unfold rbs
   grind
  by_cases d:p.g.na=0
  ·have hr:r.2=none:=hm.2.2.1 d
   cases e:p.g.fix (hd1 ds)with
   |none=>
    unfold Z1 at hy;rw[G.blk_none d]at hy;simp only[e]at hy
    rcases D b' y hy with⟨k,b,X,x',h1,h2⟩| ⟨X,x',h1,h2⟩
    ·exact Or.inl ⟨k,b,X,x',by rw[h1,d,bL7],by rw[hr];exact h2⟩
    ·grind
   |some q=>
    unfold Z1 at hy;rw[G.blk_none d]at hy;simp only[e]at hy;rw[k9]at hy;split at hy
    ·rename_i t
     obtain⟨m,L,x',k1,k2,k3⟩:=hm.2.2.2.2.2 _ _ e;obtain⟨X,J,R,T⟩:=k3 (hd1 ds) (s1 L .l k1 m);rw[e]at J;simp only[bF1]at J;simp only[bF1]at hy;have V:q.2=X:=by rw[J]
     rw[V]at hy;subst t;refine .inr ⟨X,x',?_,hy.symm,k2,R,T⟩;obtain⟨K,O⟩:=G.fix_num e (.int 0);unfold rbs
     grind
    ·rcases D b' y hy with⟨k,b,X,x',h1,h2⟩| ⟨X,x',h1,h2⟩
     ·exact Or.inl ⟨k,b,X,x',by rw[h1,d,bL7],by rw[hr];exact h2⟩
     ·grind
  ·have B:p.g.na=1:=W.resolve_left d
   obtain⟨so,m,b0,L,x',hr,C,hx,u⟩:=hm.2.2.2.2.1 d;obtain⟨K,Y,k1,k2⟩:=u (hd1 ds) (s1 L so C m);have j:lk ((nb,some K)::Z1 ps (pop p.g ds) (nb+p.g.na)) b'=some y:=by
    unfold Z1 at hy
    grind
   rw[k9]at j;split at j
   ·rename_i t
    simp only[bF1]at j;exact .inl ⟨0,b0,_,x',t.symm,by rw[hr];rfl,j.symm,hx,k1,k2⟩
   ·rcases D b' y j with⟨k,b,X,n,h1,h2,h3⟩| ⟨X,n,h1,h2⟩
    ·exact .inl ⟨k+1,b,X,n,by rw[h1,B];omega,by rw[hr];exact h2,h3⟩
    ·grind
theorem ai7 {b:Nat}:∀ {ps:List Pl} {ds:List E} {nb:Nat},b∈rbs ps->b∈(Z1 ps ds nb).map Prod.fst
 | [],ds,nb,h=>by simp[rbs]at h
 |p::ps,ds,nb,h=>by
  unfold rbs at h;cases d:p.g.fix (.int 0)with
  |none=>
   rw[d]at h;have m:=ai7 (ds:=pop p.g ds) (nb:=nb+p.g.na) h;unfold Z1
   grind
  |some q=>
   rw[d]at h;have hb:p.g.blk p.a (hd1 ds)=none:=by
    cases k:p.g with
    |rwk b e z ph=>rfl
    |_=>rw[k]at d;cases d
   obtain⟨X,j⟩:=G.fix_num d (hd1 ds);unfold Z1;rw[hb,j];simp only[bK2,bI9]at h⊢
   rcases h with h|h
   ·grind
   ·exact .inr (ai7 (ds:=pop p.g ds) (nb:=nb+p.g.na) h)
end
end
end Go.Sx
namespace Go.Sx
open Go.Xe
def aA7 :List (At×SV)->Fm
 | []=>[]
 | (p,v)::l=>match p with
  | .tmp t=>(t,v)::aA7 l
  | .cell _ _=>aA7 l
  | .no=>aA7 l
def aX8 (b j:Nat):At->Bool
 | .tmp _=>false
 | .cell b' j'=>Nat.beq b b'&&Nat.beq j j'
 | .no=>false
def an4 :List (At×SV)->Nat->Nat->SV
 | [],_,_=>.any
 | (p,v)::l,b,j=>bif aX8 b j p then v else an4 l b j
def t9 (pv:List (At×SV))(b:Nat):Nat->Nat->List SV
 |_,0=>[]
 |j,n+1=>an4 pv b j::t9 pv b (j+1) n
def ovB (s1:SS)(pv:List (At×SV)):List Nat->List (Nat×Option p7)
 | []=>[]
 |b::l=>match s1.get b with
  |some (.cells c e z)=>(b,some (.cells (t9 pv b 0 c.length) e z))::ovB s1 pv l
  |_=>ovB s1 pv l
def Q3 :List Nat->List (Nat×Option p7)
 | []=>[]
 |b::l=>(b,none)::Q3 l
def aR0 :List Pl->Nat
 | []=>0
 |p::l=>p.g.na+aR0 l
def ah3 (ps:List Pl)(ds:List E)(s1:SS)(bs0 kill:List Nat):List (Nat×Option p7):=Z1 ps ds s1.nx++(ovB s1 (P3 ps ds s1.nx) bs0++Q3 (kill++ [s1.nx]))
def sT (ps:List Pl)(ds:List E)(s1:SS)(bs0 kill:List Nat):SS:= {s1 with h:=ah3 ps ds s1 bs0 kill++s1.h,nx:=s1.nx+aR0 ps}
def fT (ps:List Pl)(ds:List E)(s1:SS)(f0:Fm):Fm:=aA7 (P3 ps ds s1.nx)++f0
theorem A0 {α:Type}(l m:List (Nat×α))(b:Nat):lk (l++m) b=match lk l b with|some x=>some x|none=>lk m b:=by
 induction l with
 |nil=>rfl
 |cons p l d=>
  obtain⟨k,x⟩:=p;rw[bL3,k9,k9]
  grind
theorem aJ9 {α:Type}{b:Nat}:∀ {l:List (Nat×α)},lk l b=none->b∉l.map Prod.fst
 | [],_=>by simp
 | (k,y)::l,h=>by
  rw[k9]at h;split at h
  ·cases h
  ·rename_i e
   simp only[bK2,bI9,not_or];exact⟨fun h=>e h.symm,aJ9 h⟩
theorem O3 {b:Nat}:∀ {l:List Nat},lk (Q3 l) b=if b∈l then some none else none
 | []=>by simp[Q3,lk]
 |k::l=>by
  rw[Q3,k9,O3]
  grind
theorem af1 (pv:List (At×SV))(b:Nat):∀(n j:Nat),(t9 pv b j n).length=n
 |0,_=>rfl
 |n+1,j=>by simp[t9,af1 pv b n]
theorem aw5 (pv:List (At×SV))(b:Nat):∀(n j i:Nat) (a:SV),(t9 pv b j n)[i]? =some a->i<n/\a=an4 pv b (j+i)
 |0,j,i,a,h=>by simp[t9]at h
 |n+1,j,0,a,h=>by simp only[t9,bG7,bF1]at h;exact⟨by omega,h.symm⟩
 |n+1,j,i+1,a,h=>by
  simp only[t9,bG2]at h;obtain⟨h1,h2⟩:=aw5 pv b n (j+1) i a h
  grind
theorem aq9 {b j:Nat}:∀(pv:List (At×SV)),an4 pv b j= .any\/ ∃(i:Nat) (q:At×SV),pv[i]? =some q/\q.1= .cell b j/\an4 pv b j=q.2
 | []=>.inl rfl
 | (p,v)::l=>by
  unfold an4;cases hc:aX8 b j p with
  |true=>
   refine .inr ⟨0,(p,v),rfl,?_,rfl⟩;cases p with
   |tmp t=>cases hc
   |no=>cases hc
   |cell b' j'=>
    simp only[aX8,bF2,bJ1]at hc
    grind
  |false=>
   rcases aq9 l with h| ⟨i,q,h1,h2,h3⟩
   ·exact .inl h
   ·exact .inr ⟨i+1,q,h1,h2,h3⟩
theorem al6 {k:Nat}{a:SV}:∀(pv:List (At×SV)),lk (aA7 pv) k=some a-> ∃(i:Nat) (q:At×SV),pv[i]? =some q/\q.1= .tmp k/\q.2=a
 | [],h=>by cases h
 | (p,v)::l,h=>by
  unfold aA7 at h;split at h
  ·rename_i t
   rw[k9]at h;split at h
   ·rename_i e
    simp only[bF1]at h;exact⟨0,(.tmp t,v),rfl,by rw[e],h⟩
   ·obtain⟨i,q,h1,h2⟩:=al6 l h
    exact⟨i+1,q,h1,h2⟩
  ·obtain⟨i,q,h1,h2⟩:=al6 l h
   exact⟨i+1,q,h1,h2⟩
  ·obtain⟨i,q,h1,h2⟩:=al6 l h
   exact⟨i+1,q,h1,h2⟩
theorem ad8 {k:Nat}:∀(pv:List (At×SV)),lk (aA7 pv) k=none-> ∀q∈pv,q.1≠ .tmp k
 | [],_=>fun q hq=>by simp at hq
 | (p,v)::l,h=>by
  unfold aA7 at h;intro q hq d;split at h
  ·rename_i t
   rw[k9]at h;split at h
   ·cases h
   ·rename_i e
    rcases bI9.1 hq with rfl|hq
    ·grind
    ·exact ad8 l h q hq d
  ·rcases bI9.1 hq with rfl|hq
   ·cases d
   ·exact ad8 l h q hq d
  ·rcases bI9.1 hq with rfl|hq
   ·cases d
   ·exact ad8 l h q hq d
theorem aJ3 :∀(ps:List Pl) (ds:List E) (nb i:Nat) (q:At×SV),(P3 ps ds nb)[i]? =some q-> ∃p,ps[i]? =some p/\q.1=p.at_
 | [],ds,nb,i,q,h=>by simp[P3]at h
 |p::ps,ds,nb,0,q,h=>by simp only[P3,bG7,bF1]at h;exact⟨p,rfl,by rw[<-h]⟩
 |p::ps,ds,nb,i+1,q,h=>by
  simp only[P3,bG2]at h;exact aJ3 ps _ _ i q h
theorem aO3 :∀(ps:List Pl) (ds:List E) (nb:Nat) (p:Pl),p∈ps-> ∃q∈P3 ps ds nb,q.1=p.at_
 | [],_,_,p,h=>by simp at h
 |p'::ps,ds,nb,p,h=>by
  rcases bI9.1 h with rfl|h
  ·exact⟨_,by simp[P3];exact .inl rfl,rfl⟩
  ·obtain⟨q,h1,h2⟩:=aO3 ps (pop p'.g ds) (nb+p'.g.na) p h
   exact⟨q,by simp[P3,h1],h2⟩
theorem aZ5 {s1 : SS} {pv : List (At × SV)} {b : Nat} : ∀ {l : List Nat}, (∀ b ∈ l, ∃ c e z, s1.get b = some (.cells c e z)) →
  ∀y,lk (ovB s1 pv l) b=y->(b∈l/\ ∃c e z,s1.get b=some (.cells c e z)/\y=some (some (.cells (t9 pv b 0 c.length) e z)))\/(b∉l/\y=none)
 | [],_,y,h=>.inr ⟨by simp,h.symm⟩
 |b'::l,hl,y,h=>by
  obtain⟨c,e,z,hb⟩:=hl b' (by simp)
  unfold ovB at h;rw[hb]at h;simp only at h;rw[k9]at h
  by_cases d:b'=b
  ·grind
  ·rw[bH1 d]at h
   rcases aZ5 (fun b hb=>hl b (by simp[hb])) y h with⟨h1,h2⟩| ⟨h1,h2⟩
   ·grind
   ·grind
section
variable {P :Program}{U:Nat->List Dat->Dat}
def PX (τ:Tau)(tm:T Value)(hp:Hp):At->Value->Prop
 | .tmp t,x=>x=(tm.get t).getD undef
 | .cell b j,x=>∃i o cs n e z,τ b=some (some (i,o))/\hp.m.get i=some (.cells cs n e z)/\cs.get (o+j)=some x
 | .no,_=>True
theorem Y3.live {τ0 τ:Tau}{F:Nat->Option Blk}{s:SS}:∀ {ps:List Pl} {vs:List SV} {es:List E} {bs:List Nat},Y3 P U τ0 τ F s ps vs es bs-> ∀ {k b:Nat},bs[k]? =some b-> ∃x,s.get b=some x
 | [],[],es,bs,h,k,b,hb=>by rw[h.2]at hb;simp at hb
 | [],_::_,es,bs,h,k,b,hb=>h.elim
 |p::ps,[],es,bs,h,k,b,hb=>h.elim
 |p::ps,v::vs,es,bs,h,k,b,hb=>by
  obtain⟨r,m,j,rfl,rfl,hm,d⟩:=h;cases hr:r.2 with
  |none=>rw[hr]at hb;exact d.live hb
  |some b0=>
   rw[hr]at hb;cases k with
   |succ k=>exact d.live (k:=k) hb
   |zero=>
    have e:p.g.na≠0:=fun h0=>by rw[hm.2.2.1 h0]at hr;cases hr
    obtain⟨so,_,n,L,x',h1,_,hx,_⟩:=hm.2.2.2.2.1 e;rw[hr]at h1;simp only[bF1]at h1;have e0:b0=b:=by simpa [I6]using hb
    grind
variable (P U) in
structure aJ0 (τ1:Tau)(F1:Nat->Option Blk)(s1:SS)(hp1:Hp)(f0:Fm)(tm1:T Value)(ps:List Pl)(bs0 kill:List Nat)(τ:Tau)(F:Nat->Option Blk)(s:SS)(hp:Hp)(f:Fm)(tm:T Value)(vs:List SV)(es:List E)(bs:List Nat)(xs:List Value):Prop where
 hs1:SD P U τ1 F1 s1 hp1
 ht1:TD P U τ1 F1 f0 tm1
 hs:SD P U τ F s hp
 ht:TD P U τ F f tm
 ex:Ext τ1 F1 s1 hp1 τ F s hp
 mt:Y3 P U τ1 τ F s ps vs es bs
 vx:VDL P U τ F vs xs
 px:∀(i:Nat) p x,ps[i]? =some p->xs[i]? =some x->PX τ tm hp p.at_ x
 lx:xs.length=ps.length
 pa:∀p∈ps,∃F0 x0,VD P U τ1 F0 p.a x0
 fr:∀t,(∀p∈ps,p.at_≠ .tmp t)->lk f t=lk f0 t
 ky:∀l,s.h=l++s1.h-> ∀b∈l.map Prod.fst,b<s1.nx->b∈bs0\/b∈kill\/b∈rbs ps
 rb:∀b∈rbs ps,b∉bs0/\b∉kill/\b<s1.nx
 c0:∀b∈bs0,b∉kill/\ ∃l l' e z,s1.get b=some (.cells l e z)/\s.get b=some (.cells l' e z)/\l'.length=l.length
 bd:∀(k k':Nat) b,bs[k]? =some b->bs[k']? =some b->k=k'
 bf:∀b∈bs,b∉bs0/\(s1.nx<=b\/b∈kill)
 lb:bs.length=aR0 ps
variable {τ1 :Tau}{F1:Nat->Option Blk}{s1:SS}{hp1:Hp}{f0:Fm}{tm1:T Value}{ps:List Pl}{bs0 kill:List Nat}{τ:Tau}{F:Nat->Option Blk}{s:SS}{hp:Hp}{f:Fm}{tm:T Value}{vs:List SV}{es:List E}{bs:List Nat}{xs:List Value}
def H9 (τ1 τ:Tau)(n:Nat)(bs:List Nat):Tau:=fun b=>if b<n then τ1 b else match bs[b-n]? with|some b'=>τ b'|none=>none
theorem ad7 {n b:Nat}(h:b<n):H9 τ1 τ n bs b=τ1 b:=by unfold H9;rw[bH3 h]
theorem al5 {n k b:Nat}(h:bs[k]? =some b):H9 τ1 τ n bs (n+k)=τ b:=by
 unfold H9;rw[bH1 (by omega),bM5,h]
theorem aJ0.head (h : aJ0 P U τ1 F1 s1 hp1 f0 tm1 ps bs0 kill τ F s hp f tm vs es bs xs) {ds : List E} (hd : U1 U (sos ps) es ds) :
  SD P U (H9 τ1 τ s1.nx bs) F (sT ps ds s1 bs0 kill) hp/\TD P U (H9 τ1 τ s1.nx bs) F (fT ps ds s1 f0) tm/\Ext τ1 F1 s1 hp1 (H9 τ1 τ s1.nx bs) F (sT ps ds s1 bs0 kill) hp:=by
 obtain⟨l0,a1,a2,a3,a4,_⟩:=h.ex.hh;have aj:=h.ky l0 a1;have D:∀b p,τ1 b=some p->b<s1.nx:=fun b p hb=>Nat.lt_of_not_le fun aa=>by rw[h.hs1.new b aa]at hb;cases hb
 have hk:∀b p,τ1 b=some p->H9 τ1 τ s1.nx bs b=τ b:=fun b p hb=>by rw[ad7 (D b p hb),h.ex.st b (D b p hb)]
 have lo:∀b,b<s1.nx->H9 τ1 τ s1.nx bs b=τ b:=fun b hb=>by rw[ad7 hb,h.ex.st b hb]
 have V:=h.mt.vals hd hk (fun k b hb=>al5 (n:=s1.nx) hb) h.pa h.vx
 have R:=h.mt.blks (nb:=s1.nx) hd;have M:Tle τ1 (H9 τ1 τ s1.nx bs):=fun b p hb=>by rw[ad7 (D b p hb)];exact hb
 have ad:∀(i:Nat) q,(P3 ps ds s1.nx)[i]? =some q-> ∃x,PX τ tm hp q.1 x/\VD P U (H9 τ1 τ s1.nx bs) F q.2 x:=by
  intro i q hq;obtain⟨p,h1,h2⟩:=aJ3 _ _ _ _ _ hq;have hi:i<xs.length:=by rw[h.lx];exact(bF4.1 h1).1
  have hx:=bG3 hi;exact⟨_,by rw[h2];exact h.px i p _ h1 hx,V i q _ hq hx⟩
 have keep:∀b,b<s1.nx->b∉bs0->b∉kill->b∉rbs ps->s.get b=s1.get b:=fun b hb h1 h2 N=>by
  unfold SS.get;rw[a1,au6 _ _ fun hm=>?_]
  grind
 have Y:∀b∈bs0,∃c e z,s1.get b=some (.cells c e z):=fun b hb=>by
  obtain⟨_,l,_,e,z,h1,_⟩:=h.c0 b hb
  grind
 have   A : ∀ b x, (sT ps ds s1 bs0 kill).get b = some x →
   (∃k b0 x',b=s1.nx+k/\bs[k]? =some b0/\s.get b0=some x'/\(∀(τ2:Tau) o z,BD P U τ F o x' z->BD P U τ2 F o x z)/\(C3 P U x'->C3 P U x))\/
   (b<s1.nx/\b∉kill/\b∈bs0/\ ∃c e z,s1.get b=some (.cells c e z)/\x= .cells (t9 (P3 ps ds s1.nx) b 0 c.length) e z)\/
   (b<s1.nx/\b∉kill/\b∉bs0/\b∉rbs ps/\s1.get b=some x)\/
   (b<s1.nx/\b∉kill/\b∈rbs ps/\ ∃x',s.get b=some x'/\(∀(τ2:Tau) o z,BD P U τ F o x' z->BD P U τ2 F o x z)/\(C3 P U x'->C3 P U x)):=by
  intro b x hb;have hb':(match lk (ah3 ps ds s1 bs0 kill++s1.h) b with|some x=>x|none=>none)=some x:=hb
  rw[A0,ah3,A0,A0]at hb';cases K:lk (Z1 ps ds s1.nx) b with
  |some y=>
   rw[K]at hb';simp only at hb'
   rcases R b y K with⟨k,b0,X,x',h1,h2,h3,h4,O,h6⟩| ⟨X,x',h1,h3,h4,O,h6⟩
   ·grind
   ·rw[h3]at hb'
    simp only[bF1]at hb';subst hb';obtain⟨_,g2,g3⟩:=h.rb b h1
    grind
  |none=>
   rw[K]at hb';simp only at hb'
   rcases aZ5 (s1:=s1) (pv:=P3 ps ds s1.nx) (b:=b) Y _ rfl with⟨h1,c,e,z,h2,h3⟩| ⟨h1,h3⟩
   ·rw[h3]at hb'
    simp only[bF1]at hb';exact .inr (.inl ⟨h.hs1.bound h2,(h.c0 b h1).1,h1,c,e,z,h2,hb'.symm⟩)
   ·rw[h3,O3]at hb'
    by_cases Z:b∈kill++ [s1.nx]
    ·grind
    ·rw[bH1 Z]at hb'
     have W:s1.get b=some x:=hb';exact .inr (.inr (.inl ⟨h.hs1.bound W,fun h=>Z (bO8 _ h),h1,fun h=>aJ9 K (ai7 h),W⟩))
 have aJ7:∀b∈bs0,b∈(ah3 ps ds s1 bs0 kill).map Prod.fst:=fun b hb=>by
  rcases aZ5 (s1:=s1) (pv:=P3 ps ds s1.nx) (b:=b) Y _ rfl with⟨_,c,e,z,_,h3⟩| ⟨h1,_⟩
  ·unfold ah3
   simp only[bJ8,bI8];exact .inr (.inl (bN4.2 ⟨_,O5 h3,rfl⟩))
  ·grind
 have ac:∀b∈kill,b∈(ah3 ps ds s1 bs0 kill).map Prod.fst:=fun b hb=>by
  unfold ah3;simp only[bJ8,bI8];refine .inr (.inr (bN4.2 ⟨(b,none),O5 ?_,rfl⟩));rw[O3,bH3 (bO8 _ hb)]
 have mark:(s1.nx,none)∈ah3 ps ds s1 bs0 kill:=by
  unfold ah3;refine bN6 _ (bN6 _ (O5 ?_));rw[O3,bH3 (bN6 _ (by simp))]
 have u:∀b∈l0.map Prod.fst,b<s1.nx->b∈(ah3 ps ds s1 bs0 kill).map Prod.fst:=fun b hb hlt=>by
  rcases aj b hb hlt with h1|h1|h1
  ·grind
  ·grind
  ·unfold ah3
   simp only[bJ8,bI8];exact .inl (ai7 h1)
 have G:∀k b0,bs[k]? =some b0->(if s1.nx+k<s1.nx then s1.nx+k else bs.getD (s1.nx+k-s1.nx) 0)=b0:=fun k b0 hb=>by
  rw[bH1 (by omega),bM5,List.getD,hb];rfl
 refine⟨h.hs.rebase (fun b=>if b<s1.nx then b else bs.getD (b-s1.nx) 0) (fun b x hb=>?_) (fun b c x y hb hc ab=>?_) (fun b i o hb=>?_) (fun b hb=>?_) h.hs1.fc (fun r hr=>(h.hs1.fz r hr).mono M h.ex.f),fun k a t=>?_,?_⟩
 ·rcases A b x hb with⟨k,b0,x',rfl,h2,h3,h4,O⟩| ⟨hlt,m,B,c,e,z,h2,rfl⟩| ⟨hlt,m,B,ak,h2⟩| ⟨hlt,m,_,x',h3,h4,O⟩
  ·simp only[G k b0 h2]
   exact⟨x',h3,al5 h2,fun i o y _ _ J=>h4 _ o y J,O⟩
  ·simp only[bH3 hlt]
   obtain⟨_,l,l',e',z',k1,k2,k3⟩:=h.c0 b B;rw[h2]at k1;simp only[bF1,p7.cells.injEq]at k1;obtain⟨rfl,rfl,rfl⟩:=k1;refine⟨_,k2,lo b hlt,fun i o y d hy ⟨cs,n,e1,e2,e3⟩=>?_,fun⟨L,e,z,ph,h,_⟩=>by cases h⟩
   refine⟨cs,n,e1,by rw[af1,<-k3];exact e2,fun j a ha=>?_⟩
   obtain⟨hj,rfl⟩:=aw5 _ _ _ _ _ _ ha;rw[bI3];have ah:j<l'.length:=by omega
   obtain⟨x,hx,_⟩:=e3 j _ (bG3 ah)
   rcases aq9 (b:=b) (j:=j) (P3 ps ds s1.nx)with h1| ⟨i',q,q1,q2,q3⟩
   ·exact⟨x,hx,by rw[h1];exact .any x⟩
   ·obtain⟨x2,px,hv⟩:=ad i' q q1
    rw[q2]at px;obtain⟨i2,o2,al,n2,ao,z2,p1,p2,p3⟩:=px;rw[d]at p1;cases p1;rw[hy,e1]at p2;simp only[bF1,Blk.cells.injEq]at p2;obtain⟨rfl,_⟩:=p2;exact⟨x2,p3,by rw[q3];exact hv⟩
  ·simp only[bH3 hlt]
   refine⟨x,by rw[keep b hlt B m ak];exact h2,lo b hlt,fun i o y d hy J=>?_,id⟩
   rcases h.hs1.live b x h2 with⟨i1,o1,y1,g1,_,_,g4⟩| ⟨g1,_⟩
   ·exact g4.re J hk
   ·rw[h.ex.st b hlt,g1]at d;cases d
  ·simp only[bH3 hlt]
   exact⟨x',h3,lo b hlt,fun i o y _ _ J=>h4 _ o y J,O⟩
 ·have hi : ∀ (b : Nat) (x : p7) (k b0 : Nat), (sT ps ds s1 bs0 kill).get b = some x → b < s1.nx → bs[k]? = some b0 → b ≠ b0 := by
   intro b x k b0 hb hlt ai e;subst e;obtain⟨f1,f2⟩:=h.bf b (bG1 ai)
   rcases A b x hb with⟨k',b0,x',rfl,_⟩| ⟨_,m,_⟩| ⟨_,m,_⟩| ⟨_,m,_⟩
   ·omega
   ·rcases f2 with h1|h1
    ·omega
    ·exact m h1
   ·rcases f2 with h1|h1
    ·omega
    ·exact m h1
   ·rcases f2 with h1|h1
    ·omega
    ·exact m h1
  by_cases C:b<s1.nx
  ·by_cases g:c<s1.nx
   ·simp only[bH3 C,bH3 g];exact ab
   ·rcases A c y hc with⟨k,b0,x',rfl,h2,_⟩| ⟨hlt,_⟩| ⟨hlt,_⟩| ⟨hlt,_⟩
    ·simp only[G k b0 h2,bH3 C]
     exact hi b x k b0 hb C h2
    ·omega
    ·exact absurd hlt g
    ·exact absurd hlt g
  ·rcases A b x hb with⟨k,b0,x',rfl,h2,_⟩| ⟨hlt,_⟩| ⟨hlt,_⟩| ⟨hlt,_⟩
   ·by_cases g:c<s1.nx
    ·simp only[G k b0 h2,bH3 g]
     exact(hi c y k b0 hc g h2).symm
    ·rcases A c y hc with⟨k',ae,x',rfl,N,_⟩| ⟨hlt,_⟩| ⟨hlt,_⟩| ⟨hlt,_⟩
     ·simp only[G k b0 h2,G k' ae N]
      intro e;subst e;exact ab (by rw[h.bd k k' b0 h2 N])
     ·exact absurd hlt g
     ·exact absurd hlt g
     ·exact absurd hlt g
   ·exact absurd hlt C
   ·exact absurd hlt C
   ·exact absurd hlt C
 ·by_cases hlt:b<s1.nx
  ·rw[lo b hlt]at hb;exact h.hs.lt b i o hb
  ·unfold H9 at hb
   rw[bH1 hlt]at hb;split at hb
   ·exact h.hs.lt _ i o hb
   ·cases hb
 ·have aa:s1.nx+aR0 ps<=b:=hb
  unfold H9;rw[bH1 (by omega),bQ1 (by rw[h.lb];omega)]
 ·unfold fT at t
  rw[A0]at t;cases K:lk (aA7 (P3 ps ds s1.nx)) k with
  |some y=>
   rw[K]at t;simp only[bF1]at t;subst t;obtain⟨i,q,h1,h2,h3⟩:=al6 _ K;obtain⟨x,px,hv⟩:=ad i q h1;rw[h2]at px;rw[<-h3,<-show x=(tm.get k).getD undef from px];exact hv
  |none=>
   rw[K]at t;have T:=ad8 _ K;have:lk f k=lk f0 k:=h.fr k fun p hp e=>by
    obtain⟨q,q1,q2⟩:=aO3 ps ds s1.nx p hp;exact T q q1 (by rw[q2,e])
   exact(h.ht1 k a t).re (h.ht k a (by rw[this];exact t)) hk
 ·refine ⟨   M, h.ex.f, h.ex.nx, Nat.le_add_right _ _, fun b hb => ad7 hb, fun b x hb hlt => ?_, ⟨ah3 ps ds s1 bs0 kill, rfl, fun i hi   T => ?_, fun b i o hb  d => ?_, fun i y hi hy => ?_, fun hp => absurd rfl (hp (s1.nx, none) mark)⟩, ⟨[], rfl⟩⟩
  ·rcases A b x hb with⟨k,b0,x',rfl,_⟩| ⟨_,_,_,c,e,z,h2,_⟩| ⟨_,_,_,_,h2⟩| ⟨_,_,_,x',h2,_⟩
   ·omega
   ·exact⟨_,h2⟩
   ·exact⟨_,h2⟩
   ·exact h.ex.low b x' h2 hlt
  ·exact a2 i hi fun b x o hb d hm=>T b x o hb d (u b hm (h.hs1.bound hb))
  ·unfold H9 at  d
   rw[bH1 (by omega)]at d
   split at d
   ·rename_i b' hb'
    rcases(h.bf b' (bG1 hb')).2 with h1|h1
    ·rcases a3 b' i o h1 d with h2| ⟨b0,x,o0,h2,h3,h4⟩
     ·exact .inl h2
     ·exact .inr ⟨b0,x,o0,h2,h3,u b0 h4 (h.hs1.bound h2)⟩
    ·by_cases hlt : b' < s1.nx
     ·have hg : ∃ x, s.get b' = some x := by
       exact h.mt.live hb'
      obtain⟨x,hx⟩:=hg;obtain⟨y,hy⟩:=h.ex.low b' x hx hlt;rw[h.ex.st b' hlt]at d;exact .inr ⟨b',y,o,hy,d,ac b' h1⟩
     ·rcases a3 b' i o (bM9 hlt) d with h2| ⟨b0,x,o0,h2,h3,h4⟩
      ·exact .inl h2
      ·exact .inr ⟨b0,x,o0,h2,h3,u b0 h4 (h.hs1.bound h2)⟩
   ·cases d
  ·rcases a4 i y hi hy with h1| ⟨b,o,h1,h2⟩
   ·exact .inl h1
   ·by_cases hlt:b<s1.nx
    ·exact .inr ⟨b,o,by rw[lo b hlt];exact h1,u b h2 hlt⟩
    ·rcases a3 b i o (bM9 hlt) h1 with h3| ⟨b0,x,o0,h3,h4,O⟩
     ·omega
     ·have B:=h.hs1.bound h3
      exact .inr ⟨b0,o0,by rw[ad7 B];exact h4,u b0 O B⟩
end
end Go.Sx
namespace Go.Sx
open Go.Xe
structure M1 where
 name:String
 places:Code->Fm->SS->Option (List (At×G)×List Nat)
 inv:List Dat->Prop
 mu:List Dat->Nat
 gh:List (So×E):=[]
def bd8 (U:Nat->List Dat->Dat)(k:So)(e:E):Dat:=match k with
 | .i=>.int (e.toI U)
 | .b=>.bool (e.den U).toBool
 | .s=>.str (e.den U).toStr
 | .l=>.lst (e.toR U)
def l7 (U:Nat->List Dat->Dat):List So->List E->List Dat
 |k::ks,e::es=>bd8 U k e::l7 U ks es
 |_,_=>[]
def bi5 {α:Type}:List So->Nat->(List E->Tr α)->Tr α
 | [],_,k=>k []
 |so::l,n,k=>.all so n fun e=>bi5 l (n+1) fun es=>k (e::es)
def B8 (U:Nat->List Dat->Dat):List So->Nat->List E->List E
 |k::ks,n,e::es=>.dat n (bd8 U k e)::B8 U ks (n+1) es
 |_,_,_=>[]
def atv (f:Fm)(s:SS):At->Option SV
 | .tmp t=>match lk f t with
  |some v=>some v
  |none=>some .any
 | .cell b j=>match s.get b with
  |some (.cells l _ _)=>l[j]?
  |_=>none
 | .no=>some .any
def Q0 (f:Fm)(s:SS):List (At×G)->Option (List SV)
 | []=>some []
 |p::l=>match atv f s p.1 with
  |some v=>match Q0 f s l with
   |some vs=>some (v::vs)
   |none=>none
  |none=>none
def pls :List (At×G)->List SV->List Pl
 |p::l,v::vs=>⟨p.1,p.2,v⟩::pls l vs
 |_,_=>[]
def bq9 (t:Nat):At->Bool
 | .tmp t'=>Nat.beq t t'
 | .cell _ _=>false
 | .no=>false
def ae3 :List Nat->Bool
 | []=>true
 |b::l=> !J6 b l&&ae3 l
def N6 (s1 s:SS)(b:Nat):Bool:=match s1.get b with
 |some (.cells l e z)=>match s.get b with
  |some (.cells l' e' z')=>Nat.beq e e'&&Nat.beq z z'&&Nat.beq l.length l'.length
  |_=>false
 |_=>false
def aP2 (n:Nat)(f:Fm):List Nat:=match n,f with
 |n+1,(k,_)::f=>k::aP2 n f
 |_,_=>[]
section
variable (P :Program)(U:Nat->List Dat->Dat)
def mdone {α:Type}(l1 l2:Lab)(p q:Prop):M α:=fun _=>.need l1 p (.need l2 q .done)
def bv4 (an : M1) (pg : List (At × G)) (ps : List Pl) (bs0 kill : List Nat) (s1 : SS) (f0 : Fm) (ds : List E) (r : Exit × Fm) : M (Exit × Fm) := match r.1 with
 | .normal =>
  bif (aP2 (r.2.length - (fT ps ds s1 f0).length) r.2).all (fun t => pg.any (fun p => bq9 t p.1)) then
   i9 fun s=>match Q0 r.2 s pg with
   |none=>a7 "loop: a place is gone"
   | some vs0 => a8 (norm P U ps vs0) fun vs => a8 (mtP U ps vs) fun t => i9 fun s2 =>
    bif (I4 (s2.h.length - (sT ps ds s1 bs0 kill).h.length) s2.h).all (fun b => Nat.ble s1.nx b || J6 b bs0 || J6 b kill || J6 b (rbs ps)) && bs0.all (N6 s1 s2) && ae3 t.2 &&
      t.2.all (fun b=> !J6 b bs0&&(Nat.ble s1.nx b||J6 b kill))&&Nat.beq t.2.length (aR0 ps)then
     mdone (.pt (an.name++ "Inv") [an.gh,(sos ps).zip t.1]) (.mu (an.name++ "Mu") an.gh ((sos ps).zip t.1) ((sos ps).zip ds)) (an.inv (l7 U (sos ps) t.1)) (an.mu (l7 U (sos ps) t.1)<an.mu (l7 U (sos ps) ds))
    else a7 "loop: the head"
  else a7 "loop: a temporary"
 |e=>c6 (e,r.2)
def fvb (s:SS)(n:Nat):SS:= {s with fv:=s.fv+n}
def shead (an:M1)(pg:List (At×G))(ps:List Pl)(bs0:List Nat)(es:List E)(kill:List Nat)(body:Fm->M (Exit×Fm))(f0:Fm):M (Exit×Fm):=fun s=>
 .need (.pt (an.name++ "Inv") [an.gh,(sos ps).zip es]) (an.inv (l7 U (sos ps) es)) (bi5 (sos ps) s.fv fun ds=>.asm (.pt (an.name++ "Inv") [an.gh,(sos ps).zip ds]) (an.inv (l7 U (sos ps) ds))
  (a8 (body (fT ps ds (fvb s (sos ps).length) f0)) (bv4 P U an pg ps bs0 kill (fvb s (sos ps).length) f0 ds) (sT ps ds (fvb s (sos ps).length) bs0 kill)))
def bv7 (an:M1)(b:Code)(body:Fm->M (Exit×Fm))(f0:Fm):M (Exit×Fm):=i9 fun s0=>match an.places b f0 s0 with
 |none=>a7 "loop: places"
 |some (pg,bs0)=>match Q0 f0 s0 pg with
  |none=>a7 "loop: no such place"
  |some vs0=>a8 (norm P U (pls pg vs0) vs0) fun vs=>a8 (mtP U (pls pg vs0) vs) fun t=>i9 fun s1=>
   bif bs0.all (N6 s1 s1)&&ae3 t.2&&t.2.all (fun b=> !J6 b bs0)&&Nat.beq t.2.length (aR0 (pls pg vs0))&&(rbs (pls pg vs0)).all (fun b=> !J6 b bs0&& !J6 b t.2&&Nat.ble (b+1) s1.nx)then
    shead P U an pg (pls pg vs0) bs0 t.1 t.2 body f0
   else a7 "loop: the start"
end
section
variable {P :Program}{U:Nat->List Dat->Dat}{ov:FuncId->Option TypeId}{nt:Nat}
theorem ai6 {α:Type}{Q:α->Prop}:∀(l:List So) (n:Nat) (k:List E->Tr α),(bi5 l n k).vc U Q-> ∀es:List E,es.length=l.length->(k (B8 U l n es)).vc U Q
 | [],n,k,h,es,hl=>by
  cases es with
  |nil=>exact h
  |cons e es=>simp at hl
 |so::l,n,k,h,es,hl=>by
  cases es with
  |nil=>simp at hl
  |cons e es=>
   have d:es.length=l.length:=by grind
   have key:(bi5 l (n+1) fun es=>k (.dat n (bd8 U so e)::es)).vc U Q:=by
    cases so
    ·exact h (e.toI U)
    ·exact h (e.den U).toBool
    ·exact h (e.den U).toStr
    ·exact h (e.toR U)
   exact ai6 l (n+1) _ key es d
theorem B9 :∀(l:List So) (n:Nat) (es:List E),es.length=l.length->U1 U l es (B8 U l n es)
 | [],n,[],h=>trivial
 | [],n,e::es,h=>by simp at h
 |k::l,n,[],h=>by simp at h
 |k::l,n,e::es,h=>⟨by cases k<;>rfl,B9 l (n+1) es (by simpa using h)⟩
theorem G5 :∀(l:List So) (n:Nat) (es:List E),es.length=l.length->l7 U l (B8 U l n es)=l7 U l es
 | [],n,[],h=>rfl
 | [],n,e::es,h=>by simp at h
 |k::l,n,[],h=>by simp at h
 |k::l,n,e::es,h=>by
  unfold B8 l7;rw[G5 l (n+1) es (by simpa using h)]
  cases k<;>rfl
theorem aK3 {τ0 τ:Tau}{F:Nat->Option Blk}{s:SS}:∀ {ps:List Pl} {vs:List SV} {es:List E} {bs:List Nat},Y3 P U τ0 τ F s ps vs es bs->es.length=(sos ps).length
 | [],[],es,bs,h=>by rw[h.1];rfl
 | [],_::_,es,bs,h=>h.elim
 |p::ps,[],es,bs,h=>h.elim
 |p::ps,v::vs,es,bs,h=>by
  obtain⟨r,n,m,rfl,rfl,hm,j⟩:=h;have k:=aK3 j;unfold sos;cases d:p.g.so with
  |none=>rw[hm.2.1 d];exact k
  |some so=>
   obtain⟨e,he⟩:=hm.1 so d;rw[he];simp only[I6,bJ4,k]
theorem aa7 {b:Nat}:∀ {l:List Nat},J6 b l=true->b∈l
 | [],h=>by cases h
 |k::l,h=>by
  unfold J6 at h
  by_cases e:b=k
  ·grind
  ·rw[m8 e,bG9]at h
   exact bL0 _ (aa7 h)
theorem aa3 :∀ {l:List Nat},ae3 l=true-> ∀(k k':Nat) b,l[k]? =some b->l[k']? =some b->k=k'
 | [],_,k,k',b,h,_=>by simp at h
 |c::l,d,k,k',b,h,h'=>by
  unfold ae3 at d;rw[bF2,bJ7]at d;have hn:=F9 d.1;cases k with
  |zero=>grind
  |succ k=>
   cases k' with
   |zero=>grind
   |succ k'=>
    simp only[bG2]at h h';rw[aa3 d.2 k k' b h h']
theorem ak7 {s1 s:SS}{b:Nat}(h:N6 s1 s b=true):∃l l' e z,s1.get b=some (.cells l e z)/\s.get b=some (.cells l' e z)/\l'.length=l.length:=by
 unfold N6 at h;split at h
 ·rename_i l e z h1
  split at h
  ·rename_i l' e' d h2
   simp only[bF2,bJ1]at h
   grind
  ·cases h
 ·cases h
theorem aE8 {b:Nat}:∀(ps:List Pl) (ds:List E) (nb:Nat),b∈(Z1 ps ds nb).map Prod.fst->nb<=b\/b∈rbs ps
 | [],ds,nb,h=>by simp[Z1]at h
 |p::ps,ds,nb,h=>by
  have sub:∀b,b∈rbs ps->b∈rbs (p::ps):=fun b hb=>by
   unfold rbs
   grind
  have d:b∈(Z1 ps (pop p.g ds) (nb+p.g.na)).map Prod.fst->nb<=b\/b∈rbs (p::ps):=fun h=>by
   rcases aE8 ps _ _ h with h|h
   ·grind
   ·grind
  unfold Z1 at h;split at h
  ·grind
  ·split at h
   ·rename_i q hq
    simp only[bK2,bI9]at h
    rcases h with rfl|h
    ·obtain⟨X,e⟩:=G.fix_num hq (.int 0)
     right
     unfold rbs
     grind
    ·exact d h
   ·exact d h
theorem ay7 {s1:SS}{pv:List (At×SV)}{b:Nat}:∀(l:List Nat),b∈(ovB s1 pv l).map Prod.fst->b∈l
 | [],h=>by simp[ovB]at h
 |c::l,h=>by
  unfold ovB at h;split at h
  ·simp only[bK2,bI9]at h
   rcases h with rfl|h
   ·simp
   ·exact bL0 _ (ay7 l h)
  ·exact bL0 _ (ay7 l h)
theorem ax5 {b:Nat}:∀(l:List Nat),b∈(Q3 l).map Prod.fst->b∈l
 | [],h=>by simp[Q3]at h
 |c::l,h=>by
  simp only[Q3,bK2,bI9]at h
  rcases h with rfl|h
  ·simp
  ·exact bL0 _ (ax5 l h)
theorem bf6 :∀ {pg:List (At×G)} {vs:List SV} {i:Nat} {p:Pl},(pls pg vs)[i]? =some p-> ∃q v,pg[i]? =some q/\vs[i]? =some v/\p.at_=q.1/\p.a=v
 | [],vs,i,p,h=>by simp[pls]at h
 |q::l,[],i,p,h=>by simp[pls]at h
 |q::l,v::vs,0,p,h=>by simp only[pls,bG7,bF1]at h;exact⟨q,v,rfl,rfl,by rw[<-h],by rw[<-h]⟩
 |q::l,v::vs,i+1,p,h=>by
  simp only[pls,bG2]at h;obtain⟨d,v',h1,h2,h3⟩:=bf6 (pg:=l) (vs:=vs) (i:=i) h
  grind
theorem bt8 :∀ {pg:List (At×G)} {vs:List SV},pg.length=vs.length->(pls pg vs).map Pl.at_=pg.map Prod.fst
 | [],[],_=>rfl
 | [],_::_,h=>by simp at h
 |_::_,[],h=>by simp at h
 |q::l,v::vs,h=>by
  simp only[pls,bK2];rw[bt8 (by simpa using h)]
variable {hp:Hp}{tm:T Value}
theorem bD1 {τ:Tau}{F:Nat->Option Blk}{s:SS}{f:Fm}(ht:TD P U τ F f tm)(hs:SD P U τ F s hp){p:At}{v:SV}(h:atv f s p=some v):∃x,VD P U τ F v x/\PX τ tm hp p x:=by
 cases p with
 |tmp t=>
  simp only[atv]at h;split at h
  ·rename_i v' d
   simp only[bF1]at h;subst h;exact⟨_,ht t v' d,rfl⟩
  ·simp only[bF1]at h
   subst h;exact⟨_,.any _,rfl⟩
 |cell b j=>
  simp only[atv]at h;split at h
  ·rename_i l e z hb
   rcases hs.live b _ hb with⟨i,o,y,h1,h2,h3,cs,n,rfl,h4,g⟩| ⟨_,L,e',k,ph,h2,_⟩
   ·obtain⟨x,hx,d⟩:=g j v h
    exact⟨x,d,i,o,cs,n,e,z,h1,h2,hx⟩
   ·cases h2
  ·cases h
 |no=>
  simp only[atv,bF1]at h;subst h;exact⟨undef,.any _,trivial⟩
theorem ag1 {τ : Tau} {F : Nat → Option Blk} {s : SS} {hp : Hp} {f : Fm} {tm : T Value} (ht : TD P U τ F f tm) (hs : SD P U τ F s hp) : ∀ {pg : List (At × G)} {vs : List SV}, Q0 f s pg = some vs →
  pg.length=vs.length/\ ∃xs,VDL P U τ F vs xs/\ ∀(i:Nat) q x,pg[i]? =some q->xs[i]? =some x->PX τ tm hp q.1 x
 | [],vs,h=>by
  simp only[Q0,bF1]at h;subst h;exact⟨rfl,[],.nil,fun i q x h=>by simp at h⟩
 |p::l,vs,h=>by
  unfold Q0 at h;split at h
  ·rename_i v e
   split at h
   ·rename_i g d
    cases h;obtain⟨x,h1,h2⟩:=bD1 ht hs e;obtain⟨h3,xs,h4,j⟩:=ag1 ht hs d;refine⟨by simp[h3],x::xs,.cons h1 h4,fun i q y hq hy=>?_⟩
    grind
   ·cases h
  ·cases h
theorem PX.mono {τ τ':Tau}{p:At}{x:Value}(ht:Tle τ τ')(h:PX τ tm hp p x):PX τ' tm hp p x:=by
 cases p with
 |tmp t=>exact h
 |cell b j=>obtain⟨i,o,cs,n,e,z,h1,h2⟩:=h;exact⟨i,o,cs,n,e,z,ht _ _ h1,h2⟩
 |no=>trivial
theorem bj0 (l f:Fm):aP2 l.length (l++f)=l.map Prod.fst:=by
 induction l with
 |nil=>cases f<;>rfl
 |cons a l d=>obtain⟨k,x⟩:=a;simp only[bJ4,bL3,aP2,bK2,d]
variable {ar :Option Nat}
variable {tm':T Value}
theorem XC.loop_next {b : Code} {tm1:T Value} {hp1 hp':Hp} {e : Exit} (h1 : XC P ov ar nt b tm hp .normal tm1 hp1) (h2 : XC P ov ar nt (.loop b) tm1 hp1 e tm' hp') (  d : hp.nx ≤ hp1.nx) (  g : hp1.nx ≤ hp'.nx)
  (hk:∀r,r<hp1.nx->hp1.m.get r=some .dfr->hp'.m.get r=some .dfr):XC P ov ar nt (.loop b) tm hp e tm' hp':=
 h1.comp h2 d g hk fun n m ds h j q1 q2=>by
  simp only[f6,q1];exact q2
theorem XC.loop_end {b:Code}{hp':Hp}{e:Exit}(h1:XC P ov ar nt b tm hp e tm' hp')(g:e≠ .normal):XC P ov ar nt (.loop b) tm hp e tm' hp':=
 h1.map fun n m ds d hk=>by
  simp only[f6,hk]
  grind
end
end Go.Sx
namespace Go.Sx
open Go.Xe
section
variable {P :Program}{U:Nat->List Dat->Dat}{ov:FuncId->Option TypeId}{nt:Nat}{ar:Option Nat}
variable {b :Code}{body:Fm->M (Exit×Fm)}{an:M1}{pg:List (At×G)}{ps:List Pl}{bs0 kill:List Nat}{s1:SS}{f0:Fm}{tm1:T Value}{τ1:Tau}{F1:Nat->Option Blk}{hp1:Hp}{n0:Nat}{Q:(Exit×Fm)×SS->Prop}
variable (P U ov) in
def bp1 (ar:Option Nat)(nt:Nat)(b:Code)(τ1:Tau)(F1:Nat->Option Blk)(s1:SS)(hp1:Hp)(f0:Fm)(Q:(Exit×Fm)×SS->Prop)(tm:T Value)(hp:Hp):Prop:=
 ∃ex f' s',Q ((ex,f'),s')/\ ∃τ' F' hp',Ext τ1 F1 s1 hp1 τ' F' s' hp'/\SD P U τ' F' s' hp'/\ ∃tm',XC P ov ar nt (.loop b) tm hp ex tm' hp'/\TD P U τ' F' f' tm'/\(∃pre,f'=pre++f0)/\hp.nx<=hp'.nx/\ ∀r,r<hp.nx->hp.m.get r=some .dfr->hp'.m.get r=some .dfr
theorem aP6 (    n : ∀  A, Z6 P U ov ar nt (body  A) b  A) (hs1 : SD P U τ1 F1 s1 hp1) (ht1 : TD P U τ1 F1 f0 tm1) (  B : ps.map Pl.at_ = pg.map Prod.fst) (pa : ∀ p ∈ ps, ∃ F0 x0, VD P U τ1 F0 p.a x0)
  (Y:∀c∈bs0,c∉kill) (ah:∀c∈rbs ps,c∉bs0/\c∉kill/\c<s1.nx) (hB:∀es:List E,es.length=(sos ps).length->an.inv (l7 U (sos ps) es)->
   (a8 (body (fT ps (B8 U (sos ps) n0 es) s1 f0)) (bv4 P U an pg ps bs0 kill s1 f0 (B8 U (sos ps) n0 es)) (sT ps (B8 U (sos ps) n0 es) s1 bs0 kill)).vc U Q):
  ∀(N:Nat) (es:List E),an.mu (l7 U (sos ps) es)<N->es.length=(sos ps).length->an.inv (l7 U (sos ps) es)-> ∀(τ:Tau) (F:Nat->Option Blk) (hp:Hp) (tm:T Value),
   SD P U τ F (sT ps (B8 U (sos ps) n0 es) s1 bs0 kill) hp->TD P U τ F (fT ps (B8 U (sos ps) n0 es) s1 f0) tm->Ext τ1 F1 s1 hp1 τ F (sT ps (B8 U (sos ps) n0 es) s1 bs0 kill) hp->
   bp1 P U ov ar nt b τ1 F1 s1 hp1 f0 Q tm hp
 |0,es,h,_,_=>absurd h (Nat.not_lt_zero _)
 | N + 1, es,  bk,    J,   aa => by
  intro τ F hp tm z ai L;have hq:=hB es J aa;rw[p9]at hq;generalize ao:B8 U (sos ps) n0 es=ds at hq z ai L;obtain⟨⟨e,A⟩,s',hq,τ',F',hp',d,D,tm',hx,W,pre,ae⟩:=n (fT ps ds s1 f0) τ F _ hp tm ai z _ hq z;have O:A=pre++fT ps ds s1 f0:=ae;have u:e≠ .normal->Q ((e,A),s')->bp1 P U ov ar nt b τ1 F1 s1 hp1 f0 Q tm hp:=fun ax hQ=>
   ⟨e,A,s',hQ,τ',F',hp',L.trans d,D,tm',hx.loop_end ax,W,⟨pre++aA7 (P3 ps ds s1.nx),by rw[O,fT,bG5]⟩,d.nx,fun r hr hg=>d.dfr z hr hg (.inl rfl)⟩
  cases e with
  |exit j=>exact u (by simp) hq
  |ret=>exact u (by simp) hq
  | normal =>
   simp only[bv4]at hq;cases c1:(aP2 (A.length-(fT ps ds s1 f0).length) A).all (fun t=>pg.any (fun p=>bq9 t p.1))with
   |false=>rw[c1]at hq;exact hq.elim
   | true =>
    rw[c1,bG8]at hq;simp only[i9]at hq;cases c2:Q0 A s' pg with
    |none=>rw[c2]at hq;exact hq.elim
    | some  bi =>
     rw[c2]at hq;simp only at hq;obtain⟨aq,xs,aj,ba⟩:=ag1 W D c2;rw[p9]at hq;obtain⟨vs,s2,hq,τ2,F2,C,m,G,rfl,ak⟩:=aK5 ps bi xs τ' F' s' hp' aj D _ hq D;rw[p9]at hq;obtain⟨⟨k,bs⟩,X,hq,o3,ap,aw⟩:=aY9 (P:=P) (τ:=τ2) (F:=F2) τ1 ps vs s2 _ hq G.fc;have bc:=G.only o3 ap;have Z:Ext τ1 F1 s1 hp1 τ2 F2 X C:=((L.trans d).trans m).trans (Ext.only G o3);simp only[i9]at hq;cases c3:(I4 (X.h.length-(sT ps ds s1 bs0 kill).h.length) X.h).all (fun b=>Nat.ble s1.nx b||J6 b bs0||J6 b kill||J6 b (rbs ps))&&bs0.all (N6 s1 X)&&ae3 bs&&
      bs.all (fun b=> !J6 b bs0&&(Nat.ble s1.nx b||J6 b kill))&&Nat.beq bs.length (aR0 ps)with
     |false=>rw[c3]at hq;exact hq.elim
     | true =>
      rw [c3,bG8] at hq;simp only [bF2] at c3;obtain ⟨⟨⟨⟨k1,k2⟩,k3⟩,k4⟩,k5⟩:=c3;rw [bI1] at k1 k2 k4;have M : an.inv (l7 U (sos ps) k):=hq.1;have ac : an.mu (l7 U (sos ps) k) < an.mu (l7 U (sos ps) ds):=(hq.2 hq.1).1;have K:=aw X o3.h;have y:=aK3 K;have head : aJ0 P U τ1 F1 s1 hp1 f0 tm1 ps bs0 kill τ2 F2  X   C  A tm' vs   k bs xs := by
       refine⟨hs1,ht1,bc,W.mono m.t m.f,Z,K,ak,fun i p x hp bg=>?_,?_,pa,fun t ht=>?_,fun l hl c hc hlt=>?_,ah,fun c hc=>⟨Y c hc,ak7 (k2 c hc)⟩,aa3 k3,fun c hc=>?_,bF6 k5⟩
       ·have h1:=congrArg (fun l=>l[i]?) B
        simp only[bK1,hp,bJ6]at h1;cases R:pg[i]? with
        |none=>rw[R]at h1;cases h1
        |some q=>
         rw[R]at h1;simp only[bJ6,bF1]at h1;rw[h1];exact(ba i q x R bg).mono m.t
       ·have h1:=congrArg List.length B
        simp only[bH0]at h1;rw[h1,aq];exact aj.1.symm
       ·have  ay : t ∉ pre.map Prod.fst := by
         intro hm;rw[bI1,O,bH8,Nat.add_sub_cancel,bj0]at c1;have:=c1 t hm;rw[List.any_eq_true]at this;obtain⟨q,bb,g⟩:=this;have ab:q.1∈ps.map Pl.at_:=by rw[B];exact bN4.2 ⟨q,bb,rfl⟩
         obtain⟨p,hp1,C⟩:=bN4.1 ab;refine ht p hp1 ?_;rw[C];cases V:q.1 with
         |tmp t'=>rw[V]at g;simp only[bq9]at g;rw[bF6 g]
         |cell b j=>rw[V]at g;cases g
         |no=>rw[V]at g;cases g
        rw[O,au6 _ _ ay,fT,A0];cases au:lk (aA7 (P3 ps ds s1.nx)) t with
        |none=>rfl
        |some a=>
         obtain⟨i,q,q1,q2,_⟩:=al6 _ au;obtain⟨p,p1,p2⟩:=aJ3 _ _ _ _ _ q1;exact absurd (by rw[<-p2,q2]) (ht p (bG1 p1))
       ·obtain⟨l2,e2,_⟩:=(d.trans (m.trans (Ext.only G o3))).hh
        have be:(sT ps ds s1 bs0 kill).h=ah3 ps ds s1 bs0 kill++s1.h:=rfl;have av:l=l2++ah3 ps ds s1 bs0 kill:=by
         rw[e2,be,<-bG5]at hl;exact(List.append_cancel_right hl).symm
        rw[av,bJ8,bI8]at hc
        rcases hc with hc|hc
        ·rw[e2,bH8,Nat.add_sub_cancel,ar4]at k1
         have:=k1 c hc;simp only[bM8,bK5]at this
         rcases this with((h1|h1)|h1)|h1
         ·omega
         ·exact .inl (aa7 h1)
         ·exact .inr (.inl (aa7 h1))
         ·exact .inr (.inr (aa7 h1))
        ·unfold ah3 at hc
         simp only[bJ8,bI8]at hc
         rcases hc with h1|h1|h1
         ·rcases aE8 _ _ _ h1 with h2|h2
          ·omega
          ·exact .inr (.inr h2)
         ·exact .inl (ay7 _ h1)
         ·have:=ax5 _ h1
          rcases bI8.1 this with h2|h2
          ·exact .inr (.inl h2)
          ·simp at h2;omega
       ·have:=k4 c hc
        simp only[bF2,bJ7,bM8,bK5]at this;refine⟨F9 this.1,?_⟩
        rcases this.2 with h1|h1
        ·exact .inl h1
        ·exact .inr (aa7 h1)
      obtain⟨g1,g2,g3⟩:=head.head (B9 (sos ps) n0 k y);have ad:an.mu (l7 U (sos ps) k)<N:=by
       have:l7 U (sos ps) ds=l7 U (sos ps) es:=by rw[<-ao];exact G5 _ _ _ J
       rw[this]at ac;omega
      obtain⟨al,f4,s4,w1,bj,F4,az,w2,w3,bh,w4,w5,w6,w7,w8⟩:=aP6 n hs1 ht1 B pa Y ah hB N k ad y M _ _ _ _ g1 g2 g3;exact⟨al,f4,s4,w1,bj,F4,az,w2,w3,bh,hx.loop_next w4 d.nx w7 w8,w5,w6,bK9 d.nx w7,fun r hr hg=>w8 r (bK4 hr d.nx) (d.dfr z hr hg (.inl rfl))⟩
  |_=>exact u (by simp) hq
end
end Go.Sx
namespace Go.Sx
open Go.Xe
def annOf (l:List (Nat×(Fm->SS->M1)))(id:Nat):Option (Fm->SS->M1):=lk l id
def slp (P:Program)(U:Nat->List Dat->Dat)(l:List (Nat×(Fm->SS->M1))):ai5:=fun id b body f=>match annOf l id with
 |some an=>some (i9 fun s=>bv7 P U (an f s) b body f)
 |none=>none
def aX5 (U:Nat->List Dat->Dat):List (So×E)->List Dat
 | []=>[]
 | (k,e)::l=>bd8 U k e::aX5 U l
def y5 (U:Nat->List Dat->Dat)(name:String)(places:Code->Fm->SS->Option (List (At×G)×List Nat))(gh:Fm->SS->List (So×E))(inv:List Dat->List Dat->Prop)(mu:List Dat->List Dat->Nat):Fm->SS->M1:=
 fun f s=>⟨name,places,inv (aX5 U (gh f s)),mu (aX5 U (gh f s)),gh f s⟩
section
variable {P :Program}{U:Nat->List Dat->Dat}{ov:FuncId->Option TypeId}{nt:Nat}{ar:Option Nat}
theorem SD.fvb {τ:Tau}{F:Nat->Option Blk}{s:SS}{hp:Hp}(h:SD P U τ F s hp)(n:Nat):SD P U τ F (fvb s n) hp:=⟨h.live,h.inj,h.frz,h.lt,h.flt,h.new,h.fc,h.fz⟩
theorem Ext.fvb {τ τ':Tau}{F F':Nat->Option Blk}{s s':SS}{hp hp':Hp}(h:Ext τ F s hp τ' F' s' hp')(n:Nat):Ext τ F s hp τ' F' (fvb s' n) hp':=⟨h.t,h.f,h.nx,h.snx,h.st,h.low,h.hh,h.hf⟩
theorem bv8 {b : Code} {body : Fm → M (Exit × Fm)} (    r : ∀ f', Z6 P U ov ar nt (body f') b f') (an : M1) (f0 : Fm) : Z6 P U ov ar nt (bv7 P U an b body f0) (.loop b) f0 := by
 intro τ F s hp tm ht hs Q hq _;unfold bv7 at hq;simp only[i9]at hq;cases c1:an.places b f0 s with
 |none=>rw[c1]at hq;exact hq.elim
 | some pp =>
  obtain⟨pg,bs0⟩:=pp;rw[c1]at hq;simp only at hq;cases V:Q0 f0 s pg with
  |none=>rw[V]at hq;exact hq.elim
  | some   O =>
   rw[V]at hq;simp only at hq;obtain⟨G,xs,A,ad⟩:=ag1 ht hs V;generalize K:pls pg O=ps at hq;have m:ps.map Pl.at_=pg.map Prod.fst:=by rw[<-K];exact bt8 G
   rw[p9]at hq;obtain⟨vs,s2,hq,τ2,R,J,d,y,rfl,N⟩:=aK5 ps O xs τ F s hp A hs _ hq hs;rw[p9]at hq;obtain⟨⟨es,bs⟩,g,hq,o3,Z,ab⟩:=aY9 (P:=P) (τ:=τ2) (F:=R) τ2 ps vs s2 _ hq y.fc;have ae:=y.only o3 Z;have B:=d.trans (Ext.only y o3);simp only[i9]at hq;cases T:bs0.all (N6 g g)&&ae3 bs&&bs.all (fun b=> !J6 b bs0)&&Nat.beq bs.length (aR0 ps)&&(rbs ps).all (fun b=> !J6 b bs0&& !J6 b bs&&Nat.ble (b+1) g.nx)with
   |false=>rw[T]at hq;exact hq.elim
   | true =>
    rw[T,bG8]at hq;simp only[bF2]at T;obtain⟨⟨⟨⟨k2,k3⟩,k4⟩,k5⟩,k6⟩:=T;rw[bI1]at k2 k4 k6;have L:∀c∈rbs ps,c∉bs0/\c∉bs/\c<g.nx:=fun c hc=>by
     have:=k6 c hc;simp only[bF2,bJ7,bK5]at this;exact⟨F9 this.1.1,F9 this.1.2,this.2⟩
    have e:=ae.fvb (sos ps).length;have C:=B.fvb (sos ps).length;have z:=ht.mono d.t d.f;have k:=ab (fvb g (sos ps).length) o3.h;have j:=aK3 k;have D:an.inv (l7 U (sos ps) es):=hq.1;have hB:=ai6 (U:=U) _ _ _ (hq.2 hq.1);have n:∀c∈bs0,c∉bs:=fun c hc hb=>by
     have:=k4 c hb;rw[bJ7]at this;exact F9 this hc
    have pa:∀p∈ps,∃F0 x0,VD P U τ2 F0 p.a x0:=by
     intro p hp;obtain⟨i,hi⟩:=bK6.1 hp;rw[<-K]at hi;obtain⟨q,v,g1,Y,g3,g4⟩:=bf6 hi;obtain⟨x,al,ah⟩:=A.get Y;exact⟨R,x,by rw[g4];exact ah.mono d.t d.f⟩
    have head : aJ0 P U τ2  R (fvb  g (sos ps).length)   J f0 tm ps bs0 bs τ2  R (fvb  g (sos ps).length)   J f0 tm vs es bs xs := by
     refine⟨e,z,e,z,Ext.refl e,k,N,fun i p x hp ai=>?_,?_,pa,fun t _=>rfl,fun l hl c hc hlt=>?_,L,fun c hc=>⟨n c hc,ak7 (k2 c hc)⟩,aa3 k3,fun c hc=>⟨fun h=>n c h hc,.inr hc⟩,bF6 k5⟩
     ·have h1:=congrArg (fun l=>l[i]?) m
      simp only[bK1,hp,bJ6]at h1;cases u:pg[i]? with
      |none=>rw[u]at h1;cases h1
      |some q=>
       rw[u]at h1;simp only[bJ6,bF1]at h1;rw[h1];exact(ad i q x u ai).mono d.t
     ·have h1:=congrArg List.length m
      simp only[bH0]at h1;rw[h1,G];exact A.1.symm
     ·have : l = [] := by
       have:=congrArg List.length hl;rw[bH8]at this;cases l with
       |nil=>rfl
       |cons a l=>simp at this
      subst this;simp at hc
    obtain⟨g1,Y,g3⟩:=head.head (B9 (sos ps) g.fv es j);obtain⟨X,f4,s4,w1,ak,F4,ac,w2,w3,aj,w4,w5,⟨pre,w6⟩,_⟩:=aP6 (U:=U) (an:=an) (pg:=pg) (kill:=bs) (n0:=g.fv) r e z m pa n L (fun W E aa=>hB W E (by rw[G5 _ _ _ E];exact aa))
     (an.mu (l7 U (sos ps) es)+1) es (bL2 _) j D _ _ _ _ g1 Y g3
    exact⟨(X,f4),s4,w1,ak,F4,ac,C.trans w2,w3,aj,w4,w5,pre,w6⟩
theorem bv9 (l:List (Nat×(Fm->SS->M1))):S7 P U ov ar nt (slp P U l):=by
 intro e b body f r d hr;unfold slp at hr;split at hr
 ·rename_i an _
  simp only[bF1]at hr;subst hr;exact fun τ F s hp tm ht hs=>bv8 d (an f s) f τ F s hp tm ht hs
 ·cases hr
end
def bq0 :List Oper->List Nat
 | []=>[]
 |o::os=>match o.dst with
  |some d=>d::bq0 os
  |none=>bq0 os
def ar0 :Code->List Nat
 | .region _ ops _=>bq0 ops.toList
 | .seq x y=>ar0 x++ar0 y
 | .cond _ x y=>ar0 x++ar0 y
 | .block _ b=>ar0 b
 | .loop b=>ar0 b
 | .scope b=>ar0 b
 |_=>[]
def anys (own:List (Nat×G)):List Nat->List Nat->List (At×G)
 |_,[]=>[]
 |seen,t::l=>bif J6 t seen then anys own seen l else match lk own t with
  |some _=>anys own (t::seen) l
  |none=>(.tmp t,.any)::anys own (t::seen) l
def ownT :List (Nat×G)->List (At×G)
 | []=>[]
 | (t,g)::l=>(.tmp t,g)::ownT l
def bp9 (b:Nat):Nat->List G->List (At×G)
 |_,[]=>[]
 |j,g::l=>(.cell b j,g)::bp9 b (j+1) l
def y7 (own:List (Nat×G))(blks:Fm->SS->Option (List (Nat×List G))):Code->Fm->SS->Option (List (At×G)×List Nat):=fun c f s=>match blks f s with
 |some bl=>some (ownT own++(bl.map fun p=>bp9 p.1 0 p.2).flatten++anys own [] (ar0 c),bl.map Prod.fst)
 |none=>none
def mkPr (rs:Fm->SS->List (At×G))(own:List (Nat×G))(blks:Fm->SS->Option (List (Nat×List G))):Code->Fm->SS->Option (List (At×G)×List Nat):=fun c f s=>match y7 own blks c f s with
 |some r=>some (rs f s++r.1,r.2)
 |none=>none
end Go.Sx
namespace Go.Sx
open Go.Xe
def sx (P:Program)(U:Nat->List Dat->Dat)(anns:FuncId->List (Nat×(Fm->SS->M1)))(con:FuncId->Option (List SV->M SV))(n:Nat):B7:=
 N3 P U (fun call nt=>bg6 P U call nt) (fun _ g _=>slp P U (anns g)) con n
def sxF (P:Program)(U:Nat->List Dat->Dat)(anns:FuncId->List (Nat×(Fm->SS->M1)))(con:FuncId->Option (List SV->M SV))(n:Nat)(g:FuncId):List SV->M SV:=
 sfun P U (sx P U anns con n) (fun nt=>bg6 P U (sx P U anns con n) nt) (fun g _=>slp P U (anns g)) n g
section
variable {P :Program}{U:Nat->List Dat->Dat}{ov:FuncId->Option TypeId}
theorem bC9 (d:FuncId->List (Nat×(Fm->SS->M1))){con:FuncId->Option (List SV->M SV)}(h:∀g k,con g=some k->y8 P U ov k g)(j:∀g,isT (ov g)=true->con g≠none)(n:Nat):y4 P U ov (sx P U d con n):=
 az5 (fun _ e _=>aT1 e) (fun _ _ _ g _=>bv9 (d g)) h j n
theorem bE6 (d:FuncId->List (Nat×(Fm->SS->M1))){con:FuncId->Option (List SV->M SV)}(e:∀g k,con g=some k->y8 P U ov k g)(h:∀g,isT (ov g)=true->con g≠none)(n:Nat)(g:FuncId)(j:isT (ov g)=false):y8 P U ov (sxF P U d con n g) g:=
 bg9 (bC9 d e h n) (fun _=>aT1 (bC9 d e h n)) (fun _ g _=>bv9 (d g)) n g j
end
end Go.Sx
noncomputable section PartSm31
namespace Go.Sx
open Go.Xe Go.RowKit
def aJ2 (w:World)(v:Value):Option Value:=match v with
 | .bool _| .int _ _| .string _=>some v
 | .slice none _ _=>some v
 | .slice (some ⟨i,_,none⟩) (l+1) c=>match w.heap[i]? with
  |some (.cells _ _ _)=>if l+1<=c/\c<unk then some v else none
  |_=>none
 | .slice (some _) 0 _=>some (.slice (some ⟨0,0,some 0⟩) 0 unk)
 |_=>none
def roT (w:World):Nat->List Value->T Value
 |_,[]=>.e
 |k,v::vs=>(roT w (k+1) vs).set k (aJ2 w v)
theorem aK7 (w:World):∀(vs:List Value) (k j:Nat),(roT w k vs).get j=if k<=j then(vs[j-k]?).bind (aJ2 w)else none
 | [],k,j=>by simp[roT,T.get_e]
 |v::vs,k,j=>by
  have g:=aK7 w vs (k+1) j;unfold roT;rw[T.get_set]
  by_cases d:j=k
  ·subst d;rw[bH3 rfl,bH3 (bH4 _)];simp
  ·rw[bH1 d,g]
   by_cases e:k+1<=j
   ·rw[bH3 e,bH3 (by omega),show j-k=(j-(k+1))+1 by omega,bG2]
   ·rw[bH1 e,bH1 (by omega)]
def roB (w:World):Obj->Option Blk
 | .cells C e _=>some (.ro (roT w 0 C.toList) C.size e 0)
 |_=>none
def roM (w:World):Nat->List Obj->T Blk
 |_,[]=>.e
 |k,o::os=>(roM w (k+1) os).set k (roB w o)
theorem bf9 (w:World):∀(os:List Obj) (k j:Nat),(roM w k os).get j=if k<=j then(os[j-k]?).bind (roB w)else none
 | [],k,j=>by simp[roM,T.get_e]
 |o::os,k,j=>by
  have g:=bf9 w os (k+1) j;unfold roM;rw[T.get_set]
  by_cases d:j=k
  ·subst d;rw[bH3 rfl,bH3 (bH4 _)];simp
  ·rw[bH1 d,g]
   by_cases e:k+1<=j
   ·rw[bH3 e,bH3 (by omega),show j-k=(j-(k+1))+1 by omega,bG2]
   ·rw[bH1 e,bH1 (by omega)]
def aS7 (w:World):Hp:=⟨roM w 0 w.heap.toList,w.heap.size⟩
def ag6 (w:World):Sg:=fun i=>match w.heap[i]? with
 |some (.cells C _ _)=>some ⟨i,0,C.size,0⟩
 |_=>none
def BS.ro (w:World):BS:=⟨(· <w.heap.size),(· <w.heap.size),fun _ h=>h⟩
theorem az1 (w:World)(i:Nat):(aS7 w).m.get i=(w.heap[i]?).bind (roB w):=by
 show(roM w 0 w.heap.toList).get i=_;rw[bf9,bH3 (bO6 _)];simp
variable {w:World}
theorem ba0 {i:Nat}{C:Array Value}{e:TypeId}{f:Nat×Nat}(h:w.heap[i]? =some (.cells C e f)):(aS7 w).m.get i=some (.ro (roT w 0 C.toList) C.size e 0):=by
 rw[az1,h];rfl
theorem au1 {v a:Value}(h:aJ2 w v=some a):VR (ag6 w) a v:=by
 unfold aJ2 at h;split at h
 ·cases h;exact .bool _
 ·cases h;exact .int _ _
 ·cases h;exact .string _
 ·cases h;exact .nils _ _
 ·rename_i i o l c
  split at h
  ·rename_i C e f hh
   split at h
   ·rename_i hc
    cases h;have hs:ag6 w i=some ⟨i,0,C.size,0⟩:=by unfold ag6;rw[hh]
    have:=VR.slice (σ:=ag6 w) i o _ (l+1) c c hs (.inl ⟨rfl,hc.2⟩) hc.1
    simpa using this
   ·cases h
  ·cases h
 ·cases h;exact .vague _ _
 ·cases h
theorem HR.ro (w : World) : HR (BS.ro w) w (ag6 w) (aS7 w) w := by
 refine⟨rfl,rfl,rfl,bH4 _,fun _ h=>h,fun _ _=>rfl,fun i hi=>?_,fun i b k=>?_,fun i j b b' p q hi hj d hp hq=>?_⟩
 ·have hi:w.heap.size<=i:=hi
  unfold ag6;rw[Array.getElem?_eq_none hi]
 ·rw[az1,Option.bind_eq_some_iff]at k
  obtain⟨o,g,hb⟩:=k;cases o with
  |cells C e f=>
   simp only[roB,bF1]at hb;subst hb;refine⟨⟨i,0,C.size,0⟩,_,by unfold ag6;rw[g],(bG6.1 g).1,g,C,f,rfl,rfl,rfl,by simp,fun j v hj m=>?_⟩
   rw[aK7,bH3 (bO6 _),bN3,Option.bind_eq_some_iff]at m;obtain⟨u,h1,h2⟩:=m;exact⟨u,by simpa using h1,au1 h2⟩
  |_=>cases hb
 ·have key : ∀ {i : Nat} {p : Xe.Pl}, ag6 w i = some p → p.blk = i := by
   intro i p h;unfold ag6 at h;split at h
   ·simp only[bF1]at h;rw[<-h]
   ·cases h
  rw[key hp,key hq];exact d
def roF (w:World):Nat->Option Blk:=fun i=>(aS7 w).m.get i
theorem bu6 (w:World):∀i b,roF w i=some b->(aS7 w).m.get i=some b/\i<(aS7 w).nx:=by
 intro i b h;refine⟨h,?_⟩;rw[roF,az1,Option.bind_eq_some_iff]at h;obtain⟨o,d,_⟩:=h;exact(bG6.1 d).1
def aQ0 (f:TypeId->Nat->List (Nat×TypeId))(o:Nat):List Field->List (Nat×TypeId)
 | []=>[]
 |x::xs=>f x.type (o+x.offset)++aQ0 f o xs
def T5 (P:Program):Nat->TypeId->Nat->List (Nat×TypeId)
 |0,_,_=>[]
 |d+1,t,o=>match P.underlying t with
  |some (.struct fs)=>aQ0 (T5 P d) o fs.toList
  |some (.array n e)=>((List.range n).map fun i=>T5 P d e (o+i*P.cellsOf e)).flatten
  |_=>[(o,t)]
def isAgg (P:Program)(t:TypeId):Bool:=match P.underlying t with
 |some (.struct _)=>true
 |some (.array _ _)=>true
 |_=>false
section
variable {H :Type}{enc:TypeId×Value->H}{P:Program}{w:World}{spare:Nat->Bool}{held:Bool}
theorem Y5 {α:Type}{cs:List α}{a n j:Nat}{v:α}(h:((cs.drop a).take n)[j]? =some v):cs[a+j]? =some v:=by
 rw[bI4]at h;split at h
 ·rw[bJ0]at h;exact h
 ·cases h
theorem aF8 {f:TypeId->Nat->List (Nat×TypeId)}{o:Nat}{p:Nat×TypeId}:∀ {l:List Field},p∈aQ0 f o l-> ∃x∈l,p∈f x.type (o+x.offset)
 | [],h=>by simp[aQ0]at h
 |x::xs,h=>by
  unfold aQ0 at h
  rcases bI8.1 h with h|h
  ·exact⟨x,by simp,h⟩
  ·obtain⟨y,h1,h2⟩:=aF8 h
   exact⟨y,by simp[h1],h2⟩
theorem ad9 : ∀ (d : Nat) {   p : Nat} {t : TypeId} {cs : List Value} {x : DataW H × List MemPlace}, DataW.trod enc P w 0 spare held    p t cs = some x → ∀ (a o : Nat) (u : TypeId), (o, u) ∈ T5 P d t a →
  ∃(j:Nat) (q:List Value) (g:Nat) (x':DataW H×List MemPlace),o=a+j/\g<=p/\isAgg P u=false/\DataW.trod enc P w 0 spare held g u q=some x'/\ ∀(k:Nat) v,q[k]? =some v->cs[j+k]? =some v
 |0,p,t,cs,x,h,a,o,u,hm=>by simp[T5]at hm
 |d+1,p,t,cs,x,h,a,o,u,hm=>by
  unfold T5 at hm;split at hm
  ·rename_i fs ht
   obtain⟨xs,n,rfl,_,_,_,hf⟩:=DataW.trod_struct ht h;obtain⟨f,z,A⟩:=aF8 hm;obtain⟨i,hi⟩:=bK6.1 z;have B:fs[i]? =some f:=by simpa using hi
   have:=hf i f B;have hlt:i<xs.length:=by
    have:=(bF4.1 hi).1
    simp_all
   rw[bG3 hlt]at this;obtain⟨j,q,g,x',h1,h2,h3,h4,y⟩:=ad9 d this (a+f.offset) o u A;exact⟨f.offset+j,q,g,x',by omega,by omega,h3,h4,fun k v r=>by rw[bL1];exact Y5 (y k v r)⟩
  ·rename_i n e ht
   obtain⟨i,hi,hm⟩:∃i,i<n/\(o,u)∈T5 P d e (a+i*P.cellsOf e):=by
    simp only[List.mem_flatten,bN4,List.mem_range]at hm;obtain⟨l,⟨i,hi,rfl⟩,hm⟩:=hm;exact⟨i,hi,hm⟩
   obtain⟨m,x',h1,h2⟩:∃m x',p=m+1/\DataW.trod enc P w 0 spare held m e ((cs.drop (i*P.cellsOf e)).take (P.cellsOf e))=some x':=by
    cases p with
    |zero=>simp[DataW.trod]at h
    |succ m=>
     unfold DataW.trod at h;rw[ht]at h;simp only at h;split at h
     ·rw[bN5]at h
      obtain⟨xs,hx,_⟩:=h;have:=mapM_some_get hx i i (by simp[hi])
      have hl:=mapM_some_length hx;have hlt:i<xs.length:=by simp at hl;omega
      rw[bG3 hlt]at this;exact⟨m,_,rfl,this⟩
     ·cases h
   subst h1;obtain⟨j,q,g,C,h1,h2,h3,h4,y⟩:=ad9 d h2 _ o u hm;exact⟨i*P.cellsOf e+j,q,g,C,by omega,by omega,h3,h4,fun k v r=>by rw[bL1];exact Y5 (y k v r)⟩
  ·rename_i h1 h2
   simp only[bL6,bF3]at hm;obtain⟨rfl,rfl⟩:=hm;refine⟨0,cs,p,x,by omega,bH4 _,?_,h,fun k v r=>by simpa using r⟩
   unfold isAgg;split
   ·rename_i fs hh;exact absurd hh (h1 fs)
   ·rename_i n e hh;exact absurd hh (h2 n e)
   ·rfl
end
end Go.Sx
end PartSm31
noncomputable section PartSm32
namespace Go.Sx
open Go.Xe Go.RowKit
inductive DW (P : Program) : Kd → Dat → Prop
 |int (k:IntKind) (n:Int) (h:k.min<=n/\n<=k.max):DW P (.int k) (.int n)
 |bool (b:Bool):DW P .bool (.bool b)
 |str (s:List UInt8) (h:s.length<=maxLen):DW P .str (.str s)
 | sl (e : TypeId) (rows : Rows) (hl : rows.length ≤ maxLen) (hz : ∀ r ∈ rows, r.length = (kf P e).length)
   (h:∀(r k:Nat) (row:List Dat) (kd:Kd) (d:Dat),rows[r]? =some row->row[k]? =some d->(kf P e)[k]? =some kd->DW P kd d):DW P (.sl e) (.lst rows)
def aY0 (P:Program)(e:TypeId):Bool:=
 Nat.beq (T5 P 20 e 0).length (kf P e).length&&Nat.beq (P.cellsOf e) (kf P e).length&&Nat.ble 1 (kf P e).length&&
  ((T5 P 20 e 0).zipIdx.all fun p=>Nat.beq p.1.1 p.2)&&((T5 P 20 e 0).zip (kf P e)).all fun p=>decide (kd1 P p.1.2=p.2)
def ax3 (P:Program):Nat->Kd->Bool
 |_,.int _=>true
 |_,.bool=>true
 |_,.str=>true
 |n+1,.sl e=>aY0 P e&&(kf P e).all (ax3 P n)
 |_,_=>false
def bo9 (P:Program)(S:Kd->Prop):Prop:=∀kd,S kd->match kd with
 | .int _=>True
 | .bool=>True
 | .str=>True
 | .sl e=>aY0 P e=true/\ ∀k∈kf P e,S k
 |_=>False
def inL (es:List TypeId):Kd->Bool
 | .int _=>true
 | .bool=>true
 | .str=>true
 | .sl e=>J6 e es
 |_=>false
theorem be1 (P:Program):bo9 P fun kd=>∃m,ax3 P m kd=true:=by
 rintro kd ⟨m,h⟩
 cases kd with
 |sl e=>
  cases m with
  |zero=>cases h
  |succ m=>
   simp only[ax3,bF2,bI1]at h;exact⟨h.1,fun k hk=>⟨m,h.2 k hk⟩⟩
 |_=>first|trivial| (cases m<;>cases h)
section
variable {H :Type}{enc:TypeId×Value->H}{P:Program}{w:World}{spare:Nat->Bool}{held:Bool}
theorem ax7 {e:TypeId}(h:aY0 P e=true):P.cellsOf e=(kf P e).length/\1<=(kf P e).length/\ ∀k kd,(kf P e)[k]? =some kd-> ∃u,(k,u)∈T5 P 20 e 0/\kd1 P u=kd:=by
 simp only[aY0,bF2,bJ1,bK5]at h;obtain⟨⟨⟨⟨h1,h2⟩,h3⟩,h4⟩,d⟩:=h;refine⟨h2,h3,fun k kd hk=>?_⟩
 have hlt:k<(kf P e).length:=(bF4.1 hk).1;have hl:k<(T5 P 20 e 0).length:=by omega
 have g:=bG3 hl;rw[bI1]at h4 d;have j:=h4 ((T5 P 20 e 0)[k],k) (by rw[List.mem_zipIdx_iff_getElem?];exact g)
 have m:=d ((T5 P 20 e 0)[k],kd) (bG1 (i:=k) (by rw[List.getElem?_zip_eq_some];exact⟨g,hk⟩))
 simp only[bJ1,bH2]at j m
 grind
theorem bp2 (a:Addr)(i j:Nat):(a.add i).add j=a.add (i+j):=by
 unfold Addr.add
 by_cases hi:i=0
 ·subst hi;simp
 ·by_cases hj:j=0
  ·subst hj;simp
  ·rw[bH1 hi,bH1 hj,bH1 (by omega)];simp[bL1]
variable (P w) in
def ae9 (kd:Kd)(v:Value)(d:Dat):Prop:=∃a,aJ2 w v=some a/\PV P (roF w) kd a d/\DW P kd d
theorem av9 {S:Kd->Prop}(hS:bo9 P S):∀(N t:Nat),t<N-> ∀(u:TypeId) (cs:List Value) (x:DataW H×List MemPlace),DataW.trod enc P w 0 spare held t u cs=some x->S (kd1 P u)-> ∃v d,cs=[v]/\ae9 P w (kd1 P u) v d
 |0,_,h,_,_,_,_,_=>absurd h (Nat.not_lt_zero _)
 |N+1,t,hN,u,cs,x,ht,hg=>by
  unfold kd1 at hg⊢;split at hg
  ·rename_i k R
   clear hg;obtain⟨n,rfl,_,hw⟩:=DataW.trod_int R ht;refine⟨.int k n,.int n,rfl,.int k n,rfl,.int k n,.int k n ?_⟩;unfold Lit.wf at hw
   grind
  ·rename_i R
   obtain⟨b,rfl,_⟩:=DataW.trod_bool R ht;exact⟨.bool b,.bool b,rfl,.bool b,rfl,.bool b,.bool b⟩
  ·rename_i R
   obtain⟨s,rfl,_,hs⟩:=DataW.trod_string R ht;refine⟨.string s,.str s.data.toList,rfl,.string s,rfl,?_,.str _ ?_⟩
   ·exact .str s.data.toList
   ·simp_all
  ·rename_i e R
   obtain⟨ac,aq⟩:=hS _ hg;obtain⟨l1,l2,l3⟩:=ax7 ac
   rcases DataW.trod_slice R ht with⟨rfl,_⟩| ⟨a,len,cap,K,rest,n,rfl,rfl,_,_,au,ao,bb,ap,_,_⟩
   ·exact⟨.slice none 0 0,.lst [],rfl,.slice none 0 0,rfl,.nils e,.sl e [] (bO6 _) (fun r h=>by simp at h) (fun r k row kd d h=>by simp at h)⟩
   ·cases len with
    |zero=>
     refine⟨.slice (some a) 0 cap,.lst [],rfl,.slice (some ⟨0,0,some 0⟩) 0 unk,?_,.vague e,.sl e [] (bO6 _) (fun r h=>by simp at h) (fun r k row kd d h=>by simp at h)⟩
     obtain⟨i,o,sp⟩:=a;cases sp<;>rfl
    |succ len=>
    have cell:∀r k,r<len+1->k<(kf P e).length-> ∀kd,(kf P e)[k]? =some kd-> ∃v d,w.cell? (a.add (r*P.cellsOf e+k))=some v/\ae9 P w kd v d:=by
     intro r k hr hk kd g;have h1:=ap r hr;have hlt:r<K.length:=by omega
     rw[bG3 hlt,Option.bind_eq_some_iff]at h1;obtain⟨cs,ai,aj⟩:=h1;obtain⟨_,ay,ak⟩:=World.cells?_some ai;obtain⟨u',aw,ad⟩:=l3 k kd g;obtain⟨j,ah,L,x',q1,q2,q3,q4,q5⟩:=ad9 20 aj 0 k u' aw;obtain⟨v,d,rfl,hv⟩:=av9 hS N L (by omega) u' ah x' q4 (by rw[ad];exact aq kd (bG1 g))
     refine⟨v,d,?_,by rw[ad]at hv;exact hv⟩
     have:=q5 0 v rfl;have hj:j=k:=by omega
     subst hj;rw[bL7]at this;rw[<-this,<-ak j (by omega)]
     congr 1
     exact(bp2 a _ _).symm
    have first:∃kd,(kf P e)[0]? =some kd:=⟨_,bG3 (by omega)⟩
    obtain⟨ax,ab⟩:=first
    obtain⟨v0,_,m,_⟩:=cell 0 0 (by omega) (by omega) ax ab
    obtain⟨i,o,sp⟩:=a;have av:sp=none:=by
     cases sp with
     |none=>rfl
     |some q=>
      have hb:((⟨i,o,some q⟩:Addr).add (0*P.cellsOf e+0)).block=i:=by unfold Addr.add;split<;>rfl
      unfold World.cell? at m;rw[hb]at m;split at m
      ·rename_i hh
       have:((⟨i,o,some q⟩:Addr).add (0*P.cellsOf e+0)).spot.isSome=true:=by unfold Addr.add;simp
       grind
      ·cases m
    subst av;have E:∀j,(⟨i,o,none⟩:Addr).add j=⟨i,o+j,none⟩:=fun j=>bO4 _ _ _
    obtain⟨C,e',f,hh⟩:∃C e' f,w.heap[i]? =some (.cells C e' f):=by
     rw[E]at m;unfold World.cell? at m
     grind
    have G:∀r k,r<len+1->k<(kf P e).length-> ∀kd,(kf P e)[k]? =some kd-> ∃v d,C[o+r*(kf P e).length+k]? =some v/\ae9 P w kd v d:=by
     intro r k hr hk kd g;obtain⟨v,d,h1,h2⟩:=cell r k hr hk kd g;refine⟨v,d,?_,h2⟩;rw[E,cell_of_row w i _ C e' f hh,l1]at h1
     grind
    clear cell;have J:∀p:Nat×Nat,∃q:Value×Dat,p.1<len+1-> ∀kd,(kf P e)[p.2]? =some kd->C[o+p.1*(kf P e).length+p.2]? =some q.1/\ae9 P w kd q.1 q.2:=by
     intro⟨r,k⟩;simp only
     by_cases hr:r<len+1
     ·cases hk:(kf P e)[k]? with
      |none=>exact⟨(undef,.int 0),fun _ kd h=>by cases h⟩
      |some kd=>
       obtain⟨v,d,h1,h2⟩:=G r k hr (bF4.1 hk).1 kd hk;exact⟨(v,d),fun _ be h=>by cases h;exact⟨h1,h2⟩⟩
     ·exact⟨(undef,.int 0),fun h=>absurd h hr⟩
    obtain⟨ch,az⟩:=Classical.axiomOfChoice J;obtain⟨vv,bc⟩:∃vv:Nat->Nat->Value,∀r k,vv r k=(ch (r,k)).1:=⟨fun r k=>(ch (r,k)).1,fun _ _=>rfl⟩
    obtain⟨T,ba⟩:∃T:Nat->Nat->Dat,∀r k,T r k=(ch (r,k)).2:=⟨fun r k=>(ch (r,k)).2,fun _ _=>rfl⟩
    have y:∀r k,r<len+1-> ∀kd,(kf P e)[k]? =some kd->C[o+r*(kf P e).length+k]? =some (vv r k)/\ae9 P w kd (vv r k) (T r k):=by simp_all
    have z1:=l2;generalize hz:(kf P e).length=z at*;have Z:o+(len+1)*z<=C.size:=by
     have hk:(kf P e)[z-1]? =some ((kf P e)[z-1]'(by omega)):=bG3 (by omega)
     have:=(y len (z-1) (by omega) _ hk).1
     grind
    let rows:Rows:=(List.range (len+1)).map fun r=>(List.range z).map fun k=>T r k
    have B:∀(r k:Nat) (row:List Dat) (d:Dat),rows[r]? =some row->row[k]? =some d->r<len+1/\k<z/\d=T r k:=by grind
    have D:rows.length=len+1:=by simp[rows]
    have rz:∀r∈rows,r.length=z:=by
     intro r hr;simp only[rows,bN4]at hr;obtain⟨i,_,rfl⟩:=hr;simp
    have O:cap<unk:=by have:=ao;unfold maxLen at this;unfold unk;omega
    have Y:aJ2 w (.slice (some ⟨i,o,none⟩) (len+1) cap)=some (.slice (some ⟨i,o,none⟩) (len+1) cap):=by
     unfold aJ2;simp only[hh];rw[bH3 ⟨au,O⟩]
    have A:∀k,k<z-> ∃kd,(kf P e)[k]? =some kd:=fun k hk=>⟨_,bG3 (by omega)⟩
    have ae:∀p:Nat×Nat,∃a,p.1<len+1->p.2<z->aJ2 w (vv p.1 p.2)=some a:=by
     intro⟨r,k⟩;simp only
     by_cases h:r<len+1/\k<z
     ·obtain⟨kd,g⟩:=A k h.2
      obtain⟨_,a,ha,_⟩:=y r k h.1 kd g;exact⟨a,fun _ _=>ha⟩
     ·exact⟨undef,fun h1 h2=>absurd ⟨h1,h2⟩ h⟩
    obtain⟨ca,al⟩:=Classical.axiomOfChoice ae;obtain⟨aa,X⟩:∃aa:Nat->Nat->Value,∀r k,aa r k=ca (r,k):=⟨fun r k=>ca (r,k),fun _ _=>rfl⟩
    have W:∀r k,r<len+1->k<z->aJ2 w (vv r k)=some (aa r k):=by
     intro r k h1 h2;rw[X];exact al (r,k) h1 h2
    refine⟨_,.lst rows,rfl,_,Y,?_,?_⟩
    ·rw[<-D]
     refine .sl e i o cap (.ro (roT w 0 C.toList) C.size e' 0) (roT w 0 C.toList) C.size z (zb:=0) rows aa (ba0 hh) rfl ⟨.inl ⟨O,by omega⟩,fun _=>O,fun h=>by cases h⟩ (by rw[D];exact Z) hz.symm rz ?_ ?_
     ·intro r k row d h1 h2
      obtain⟨M,V,rfl⟩:=B r k row d h1 h2;obtain⟨kd,g⟩:=A k V;have:=(y r k M kd g).1;rw[aK7,bH3 (bO6 _),bN3];have e1:C.toList[o+r*z+k]? =some (vv r k):=by rw[<-this];simp
      rw[e1];exact W r k M V
     ·intro r k row kd d h1 h2 g
      obtain⟨M,V,rfl⟩:=B r k row d h1 h2;obtain⟨_,a,ha,hp,_⟩:=y r k M kd g;have:=W r k M V;rw[ha]at this;cases this;exact hp
    ·refine .sl e rows (by rw[D];omega) (fun r hr=>by rw[hz];exact rz r hr) ?_
     intro r k row kd d h1 h2 g;obtain⟨M,V,rfl⟩:=B r k row d h1 h2;exact(y r k M kd g).2.choose_spec.2.2
  ·exact(hS _ hg).elim
variable {ps:List MemPlace}
theorem bz0 {u:TypeId}{v:Value}{d:DataW H}(h:DataW.Trod enc P w 0 spare held u v d ps){m:Nat}(g:ax3 P m (kd1 P u)=true)(j:v.cells.toList=[v]):∃d,ae9 P w (kd1 P u) v d:=by
 obtain⟨e,h⟩:=h;obtain⟨v',d,h1,h2⟩:=av9 (be1 P) (e+1) e (bL2 _) u _ _ h ⟨m,g⟩
 grind
variable {xs:Array Value}
theorem bp5 {S : Kd → Prop} ( x : bo9 P S) {u : TypeId}  {d : DataW H}  (h : DataW.Trod enc P w 0 spare held u (.agg xs) d ps) (hl : aY0 P u = true) ( y : ∀ kd ∈ kf P u, S kd) :
  ∀(k:Nat) (kd:Kd),(kf P u)[k]? =some kd-> ∃(v:Value) (d:Dat),xs[k]? =some v/\ae9 P w kd v d:=by
 intro k kd g;obtain⟨q,h⟩:=h;obtain⟨C,D,z⟩:=ax7 hl;obtain⟨t,p,m⟩:=z k kd g;obtain⟨j,n,e,x',q1,q2,E,A,B⟩:=ad9 20 h 0 k t p;obtain⟨v,d,rfl,r⟩:=av9 x (e+1) e (bL2 _) t n x' A (by rw[m];exact y kd (bG1 g))
 have:=B 0 v rfl;have hj:j=k:=by omega
 subst hj;refine⟨v,d,by simpa [Value.cells]using this,by rw[m]at r;exact r⟩
theorem by9 {u : TypeId}  {d : DataW H}  (h : DataW.Trod enc P w 0 spare held u (.agg xs) d ps) {m : Nat} (hl : aY0 P u = true) ( e : (kf P u).all (ax3 P m) = true) :
  ∀(k:Nat) (kd:Kd),(kf P u)[k]? =some kd-> ∃(v:Value) (d:Dat),xs[k]? =some v/\ae9 P w kd v d:=
 bp5 (be1 P) h hl fun kd hk=>⟨m,bI1.1 e kd hk⟩
end
section
variable {P :Program}{U:Nat->List Dat->Dat}{ov:FuncId->Option TypeId}
theorem HR.roBelow {σ:Sg}{hp:Hp}{w w':World}(h:HR (BS.ro w) w σ hp w'):Below w.heap.size w w':=
 ⟨h.os,h.tape,h.output,h.size,h.kept⟩
end
end Go.Sx
end PartSm32
noncomputable section PartSm33
namespace Go.Sx
open Go.Xe
inductive Lf where
 |g (k:G)
 |ptr (i z:Nat)
 |nilp
 |clo (g:FuncId) (is:List (Nat×Nat))
 |cst (k:G) (e:E)
def Lf.so :Lf->Option So
 | .g k=>k.so
 |_=>none
def Lf.na :Lf->Nat
 | .g k=>k.na
 |_=>0
def Lf.blk (x:Lf)(d:E):Option p7:=match x with
 | .g k=>k.blk .any d
 |_=>none
def lvv (num:Nat->Nat)(x:Lf)(e:E)(nb:Nat):SV:=match x with
 | .g k=>tv k .any e nb
 | .ptr i z=>.ptr (num i) z (.int 0) 0
 | .nilp=>.nilp
 | .clo g is=>.fn (.func g) [] (is.map fun p=>.ptr (num p.1) p.2 (.int 0) 0)
 | .cst k e=>tv k .any e nb
def aR9 (x:Lf)(es:List E):List E:=match x.so with
 |some _=>tl1 es
 |none=>es
def bp6 (num:Nat->Nat):List Lf->List E->Nat->List SV
 | [],_,_=>[]
 |x::l,es,nb=>lvv num x (hd1 es) nb::bp6 num l (aR9 x es) (nb+x.na)
def Z0 :List Lf->List E->Nat->List (Nat×Option p7)
 | [],_,_=>[]
 |x::l,es,nb=>match x.blk (hd1 es)with
  |some X=>(nb,some X)::Z0 l (aR9 x es) (nb+x.na)
  |none=>Z0 l (aR9 x es) (nb+x.na)
def n8 :List Lf->List So
 | []=>[]
 |x::l=>I6 x.so (n8 l)
def z9 :List Lf->Nat
 | []=>0
 |x::l=>x.na+z9 l
section
variable (P :Program)(U:Nat->List Dat->Dat)
def bt3 (x:Lf)(v:SV):M SV:=match x with
 | .g k=>ar5 P U k v
 | .cst k _=>ar5 P U k v
 |_=>c6 v
def eqS (so:So)(d e:E):Option E:=match so with
 | .i=>some (z8 d e)
 | .s=>some (ak2 d e)
 | .b=>some (be8 d e)
 | .l=>match e with
  | .op .nil []=>some (z8 (p8 d) (.int 0))
  |_=>none
def aR2 :List Lf->List SV->M (List SV)
 |x::l,v::vs=>a8 (bt3 P U x v) fun v'=>a8 (aR2 l vs) fun vs'=>c6 (v'::vs')
 | [],[]=>c6 []
 |_,_=>a7 "contract: places"
def bq7 (bl:List Nat)(i b:Nat):Bool:=match bl[i]? with
 |some b'=>Nat.beq b b'
 |none=>false
def mtC (bl:List Nat):List (Nat×Nat)->List SV->Bool
 | [],[]=>true
 |p::is,.ptr b z (.int m) f::l=>bq7 bl p.1 b&&Nat.beq p.2 z&&decide (m=0)&&Nat.beq f 0&&mtC bl is l
 |_,_=>false
def bk3 (bl : List Nat) (x : Lf) (v : SV) : M (Option E × Option Nat) := match x with
 | .g k=>mt1 U k .any v
 | .ptr i z=>match v with
  | .ptr b z' (.int m) f=>bif bq7 bl i b&&Nat.beq z z'&&decide (m=0)&&Nat.beq f 0 then c6 (none,none)else a7 "contract: another pointer"
  |_=>a7 "contract: no pointer"
 | .nilp=>match v with
  | .nilp=>c6 (none,none)
  |_=>a7 "contract: not nil"
 | .clo g is=>match v with
  | .fn (.func g') [] l=>bif Nat.beq g g'&&mtC bl is l then c6 (none,none)else a7 "contract: another function"
  |_=>a7 "contract: no function"
 | .cst k e => bif Nat.beq k.na 0 then a8 (mt1 U k .any v) fun r => match r.1, k.so with
   |some d,some so=>match eqS so d e with
    |some c=>a8 (f7 U c) fun _=>c6 (none,none)
    |none=>a7 "contract: known"
   |_,_=>a7 "contract: known"
  else a7 "contract: known"
def mtL (bl:List Nat):List Lf->List SV->M (List E×List Nat)
 |x::l,v::vs=>a8 (bk3 U bl x v) fun r=>a8 (mtL bl l vs) fun t=>c6 (I6 r.1 t.1,I6 r.2 t.2)
 | [],[]=>c6 ([],[])
 |_,_=>a7 "contract: places"
end
section
variable {P :Program}{U:Nat->List Dat->Dat}
variable {τ:Tau}{F:Nat->Option Blk}{hp:Hp}
theorem bk5   {s : SS}  (x : Lf) {v : SV} {u : Value} ( d : VD P U τ F v u) (hs : SD P U τ F s hp) :
  OKh P U (bt3 P U x v) τ F s hp fun v' τ' F' hp'=>hp'=hp/\VD P U τ' F' v' u:=by
 cases x with
 |g k=>exact ay4 k d hs
 |cst k e=>exact ay4 k d hs
 |_=>exact OKh.ret ⟨rfl,d⟩
theorem ak3 : ∀ (ps : List Lf) (vs : List SV) (xs : List Value) (τ : Tau) (F : Nat → Option Blk) (s : SS) (hp : Hp), VDL P U τ F vs xs → SD P U τ F s hp →
  OKh P U (aR2 P U ps vs) τ F s hp fun g τ' F' hp'=>hp'=hp/\VDL P U τ' F' g xs
 | [],[],xs,τ,F,s,hp,e,hs=>OKh.ret ⟨rfl,e⟩
 | [],v::vs,xs,τ,F,s,hp,e,hs=>OKh.fail
 |p::ps,[],xs,τ,F,s,hp,e,hs=>OKh.fail
 |p::ps,v::vs,xs,τ,F,s,hp,e,hs=>by
  obtain⟨y,ys,rfl,h1,h2⟩:=e.uncons;unfold aR2;refine(bk5 p h1 hs).bind fun v' τ1 F1 s1 hp1 ex hs1 ⟨h,j⟩=>(ak3 ps vs ys τ1 F1 s1 hp1 (h2.mono ex.t ex.f) hs1).bind fun g τ2 n s2 k d m ⟨k1,k2⟩=>OKh.ret ⟨by rw[k1,h],.cons (j.mono d.t d.f) k2⟩
theorem bD4 {so:So}{d e c:E}(h:eqS so d e=some c)(hp:c.pr U):ak8 U so d e:=by
 unfold eqS at h;split at h
 ·cases h;exact N0 hp
 ·cases h
  rw[E.pr_iff,K1]at hp;show(d.den U).toStr=(e.den U).toStr
  simpa using hp
 ·cases h
  rw[E.pr_iff,aG5]at hp;show(d.den U).toBool=(e.den U).toBool
  simpa using hp
 ·split at h
  ·cases h
   have:=N0 hp;rw[d5,q7]at this;show d.toR U=_;have h0:d.toR U=[]:=List.length_eq_zero_iff.1 (by omega)
   rw[h0];rfl
  ·cases h
variable (P U) in
def LOK (bl:List Nat)(τ:Tau)(F:Nat->Option Blk)(s:SS)(x:Lf)(v:SV)(r:Option E×Option Nat):Prop:=
 (∀so,x.so=some so-> ∃e,r.1=some e)/\(x.so=none->r.1=none)/\(x.na=0->r.2=none)/\
 (∀u,VD P U τ F v u-> ∀(τ2:Tau) (num:Nat->Nat) (nb:Nat) (d:E),(∀i b,bl[i]? =some b->τ2 (num i)=τ b)->(∀e so,r.1=some e->x.so=some so->ak8 U so e d)->(∀b,r.2=some b->τ2 nb=τ b)->VD P U τ2 F (lvv num x d nb) u)/\
 (x.na≠0-> ∃so,x.so=some so/\bo6 P U τ F s so x.blk r)
theorem bf1 {bl:List Nat}:∀ {is:List (Nat×Nat)} {l:List SV} {num:Nat->Nat},mtC bl is l=true->(is.map fun p=>SV.ptr (num p.1) p.2 (.int 0) 0).length=l.length
 | [],[],num,_=>rfl
 | [],_::_,num,h=>by simp[mtC]at h
 |p::is,[],num,h=>by simp[mtC]at h
 |p::is,a::l,num,h=>by
  unfold mtC at h;split at h
  ·grind
  ·rename_i d e
   cases d;cases e;simp only[bF2]at h;have:=bf1 (num:=num) h.2
   grind
  ·cases h
theorem bf0 {bl : List Nat} {τ τ2 : Tau} {F : Nat → Option Blk} {num : Nat → Nat} : ∀ {is : List (Nat × Nat)} {l : List SV} {ys : List Value}, mtC bl is l = true → (∀ i b, bl[i]? = some b → τ2 (num i) = τ b) → VDL P U τ F l ys →
  ∀ {i:Nat} {a:SV} {x:Value},(is.map fun p=>SV.ptr (num p.1) p.2 (.int 0) 0)[i]? =some a->ys[i]? =some x->VD P U τ2 F a x
 | [],l,ys,h,hb,e,i,a,x,d,hx=>by simp at d
 |p::is,[],ys,h,hb,e,i,a,x,d,hx=>by simp[mtC]at h
 |p::is,b0::l,ys,h,hb,e,i,a,x,d,hx=>by
  unfold mtC at h;split at h
  ·grind
  ·rename_i g j
   cases g;cases j;simp only[bF2,bJ1,bH2]at h;obtain⟨⟨⟨⟨h1,h2⟩,h3⟩,h4⟩,k⟩:=h;subst h3;subst h4;obtain⟨y,n,rfl,k1,k2⟩:=e.uncons;cases i with
   |zero=>
    simp only[bK2,bG7,bF1]at d hx;subst d;subst hx;unfold bq7 at h1;split at h1
    ·rename_i b' hb'
     have:=bF6 h1;subst this;cases k1 with
     |ptr _ _ _ _ m o' h h0=>rw[h2];exact .ptr _ _ (.int 0) 0 m o' (by rw[hb _ _ hb'];exact h) h0
    ·cases h1
   |succ i=>
    simp only[bK2,bG2]at d hx;exact bf0 k hb k2 d hx
  ·cases h
theorem bA0 {s:SS}(bl:List Nat)(x:Lf)(v:SV):OKp U (bk3 U bl x v) s fun r=>∀s',s'.h=s.h->LOK P U bl τ F s' x v r:=by
 cases x with
 |g k=>
  refine(aY8 (P:=P) (τ:=τ) (F:=F) (fun _=>none) k .any v).mono fun r h s' q=>?_
  obtain⟨h1,h2,h3,h4,C⟩:=h s' q;refine⟨h1,h2,h3,fun u j τ2 num nb d _ y hb=>h4 u j τ2 nb d (fun b p e=>by cases e) ⟨fun _=>none,undef,.any _⟩ y hb,fun A=>C.1 A⟩
 |ptr i z=>
  simp only[bk3];split
  ·rename_i b K m f
   cases hc:bq7 bl i b&&Nat.beq z K&&decide (m=0)&&Nat.beq f 0 with
   |false=>exact OKp.fail
   |true=>
    simp only[bF2,bJ1,bH2]at hc;obtain⟨⟨⟨hi,rfl⟩,rfl⟩,rfl⟩:=hc;refine OKp.ret fun s' _=>⟨fun so h=>(by cases h),fun _=>rfl,fun _=>rfl,fun u j τ2 num nb d hb _ _=>?_,fun h=>absurd rfl h⟩
    unfold bq7 at hi;split at hi
    ·rename_i b' hb'
     have:=bF6 hi;subst this;cases j with
     |ptr _ _ _ _ G o' h h0=>exact .ptr (num i) z (.int 0) 0 G o' (by rw[hb i b hb'];exact h) h0
    ·cases hi
  ·exact OKp.fail
 |clo g is=>
  simp only[bk3];split
  ·rename_i D l
   cases hc:Nat.beq g D&&mtC bl is l with
   |false=>exact OKp.fail
   |true=>
    rw[bF2]at hc;have:=bF6 hc.1;subst this;refine OKp.ret fun s' _=>⟨fun so h=>(by cases h),fun _=>rfl,fun _=>rfl,fun u j τ2 num nb d hb _ _=>?_,fun h=>absurd rfl h⟩
    cases j with
    |fn _ _ _ xs ys h1 h2 h3 h4=>
     refine .fn _ _ _ xs ys h1 (fun i a x t hx=>by simp at t) (by rw[<-h3];exact bf1 hc.2) fun i a x t hx=>?_
     exact bf0 hc.2 hb ⟨h3,h4⟩ t hx
  ·exact OKp.fail
 |nilp=>
  simp only[bk3];split
  ·refine OKp.ret fun s' _=>⟨fun so h=>(by cases h),fun _=>rfl,fun _=>rfl,fun u j τ2 num nb d _ _ _=>?_,fun h=>absurd rfl h⟩
   cases j;exact .nilp
  ·exact OKp.fail
 |cst k e=>
  simp only[bk3];cases hn:Nat.beq k.na 0 with
  |false=>exact OKp.fail
  |true=>
   have hn:=bF6 hn;rw[bG8];refine(aY8 (P:=P) (τ:=τ) (F:=F) (fun _=>none) k .any v).bind fun r s1 M _ hr=>?_
   split
   ·rename_i d so y B
    split
    ·rename_i c hc
     refine OKp.need.bind fun _ s2 N E hp=>OKp.ret fun s' q=>?_
     obtain⟨h1,h2,h3,h4,C⟩:=hr s' q;refine⟨fun so h=>(by cases h),fun _=>rfl,fun _=>rfl,fun u j τ2 num nb L _ _ _=>?_,fun h=>absurd rfl h⟩
     refine h4 u j τ2 nb e (fun b p e=>by cases e) ⟨fun _=>none,undef,.any _⟩ (fun e' J he n=>?_) fun b hb=>?_
     ·rw[y]at he;cases he
      rw[B]at n;cases n;exact bD4 hc hp
     ·rw[h3 hn]at hb;cases hb
    ·exact OKp.fail
   ·exact OKp.fail
variable (P U) in
def af9 (bl:List Nat)(τ:Tau)(F:Nat->Option Blk)(s:SS):List Lf->List SV->List E->List Nat->Prop
 | [],[],es,bs=>es=[]/\bs=[]
 |x::l,v::vs,es,bs=>∃r es' bs',es=I6 r.1 es'/\bs=I6 r.2 bs'/\LOK P U bl τ F s x v r/\af9 bl τ F s l vs es' bs'
 |_,_,_,_=>False
theorem aK2 {τ:Tau}{F:Nat->Option Blk}(bl:List Nat):∀(ps:List Lf) (vs:List SV) (s:SS),OKp U (mtL U bl ps vs) s fun r=>∀s',s'.h=s.h->af9 P U bl τ F s' ps vs r.1 r.2
 | [],[],s=>OKp.ret fun _ _=>⟨rfl,rfl⟩
 | [],_::_,s=>OKp.fail
 |_::_,[],s=>OKp.fail
 |p::ps,v::vs,s=>by
  unfold mtL;refine(bA0 (P:=P) (τ:=τ) (F:=F) bl p v).bind fun r s1 e _ h1=>(aK2 (τ:=τ) (F:=F) bl ps vs s1).bind fun t s2 g _ h2=>OKp.ret fun s' d=>?_
  exact⟨r,t.1,t.2,rfl,rfl,h1 s' d,h2 s' (by rw[d,e.h])⟩
section
variable {bl :List Nat}{τ:Tau}{F:Nat->Option Blk}{s:SS}
theorem Lf.blk_none {x:Lf}(h:x.na=0)(d:E):x.blk d=none:=by
 cases x with
 |g k=>exact G.blk_none h .any d
 |_=>rfl
theorem aQ2 {x : Lf} {ps : List Lf} {v : SV} {r : Option E × Option Nat} {  n ds : List E} (h : LOK P U bl τ F s x v r) ( m : U1 U (n8 (x :: ps)) (I6 r.1   n) ds) :
  (∀e so,r.1=some e->x.so=some so->ak8 U so e (hd1 ds))/\U1 U (n8 ps) n (aR9 x ds)/\(∀b,r.2=some b->x.na=1)/\(x.na=0\/x.na=1):=by
 obtain⟨q,t,u,y,z⟩:=h;have p:x.na=0\/x.na=1:=by
  cases x with
  |g k=>exact k.na_le
  |_=>exact .inl rfl
 refine⟨?_,?_,fun b hb=>?_,p⟩
 ·intro e so he j
  unfold n8 at m;rw[j,he]at m;cases ds with
  |nil=>exact m.elim
  |cons d ds=>exact m.1
 ·unfold n8 at m
  cases j:x.so with
  |none=>
   rw[j,t j]at m;unfold aR9;rw[j];exact m
  |some so=>
   obtain⟨e,he⟩:=q so j;rw[j,he]at m;cases ds with
   |nil=>exact m.elim
   |cons d ds=>unfold aR9;rw[j];exact m.2
 ·grind
theorem af9.vals : ∀ {ps : List Lf} {vs : List SV} {es : List E} {bs : List Nat} {ds : List E} {xs : List Value} {τ2 : Tau} {num : Nat → Nat} {nb : Nat}, af9 P U bl τ F s ps vs es bs → U1 U (n8 ps) es ds →
  (∀i b,bl[i]? =some b->τ2 (num i)=τ b)->(∀k b,bs[k]? =some b->τ2 (nb+k)=τ b)->VDL P U τ F vs xs->VDL P U τ2 F (bp6 num ps ds nb) xs
 | [], [], es, bs, ds, xs, τ2, num, nb, h,  e, hk, hb, hx => by
   have:xs=[]:=bF7 hx.1.symm;subst this;exact VDL.nil
 | [],_::_,es,bs,ds,xs,τ2,num,nb,h,e,hk,hb,hx=>h.elim
 |x::ps,[],es,bs,ds,xs,τ2,num,nb,h,e,hk,hb,hx=>h.elim
 |x::ps,v::vs,es,bs,ds,xs,τ2,num,nb,h,e,hk,hb,hx=>by
  obtain⟨r,m,j,rfl,rfl,hm,g⟩:=h;obtain⟨y,ys,rfl,h1,h2⟩:=hx.uncons;obtain⟨s1,s2,p,n⟩:=aQ2 hm e;unfold bp6;refine .cons (hm.2.2.2.1 y h1 τ2 num nb (hd1 ds) hk s1 fun b hr=>?_) (af9.vals g s2 hk (fun k b d=>?_) h2)
  ·have:=hb 0 b (by rw[hr];rfl)
   grind
  ·rcases n with h0|h0
   ·rw[h0,bL7]
    have hr:r.2=none:=hm.2.2.1 h0;rw[hr]at hb;exact hb k b d
   ·obtain⟨so,_,b',L,x',hr,_⟩:=hm.2.2.2.2 (by omega)
    rw[hr]at hb;have:=hb (k+1) b d
    grind
theorem af9.blks : ∀ {ps : List Lf} {vs : List SV} {es : List E} {bs : List Nat} {ds : List E} {nb : Nat}, af9 P U bl τ F s ps vs es bs → U1 U (n8 ps) es ds →
  ∀b' y,lk (Z0 ps ds nb) b'=some y-> ∃k b X x',b'=nb+k/\bs[k]? =some b/\y=some X/\s.get b=some x'/\(∀(τ2:Tau) o z,BD P U τ F o x' z->BD P U τ2 F o X z)/\(C3 P U x'->C3 P U X)
 | [],vs,es,bs,ds,nb,h,j=>fun b' y hy=>by simp[Z0,lk]at hy
 |x::ps,[],es,bs,ds,nb,h,j=>h.elim
 |x::ps,v::vs,es,bs,ds,nb,h,j=>by
  obtain⟨r,D,B,rfl,rfl,hm,m⟩:=h;obtain⟨s1,s2,K,G⟩:=aQ2 hm j;intro b' y hy;have u:=af9.blks (nb:=nb+x.na) m s2
  by_cases e:x.na=0
  ·have hr:r.2=none:=hm.2.2.1 e
   have d:lk (Z0 ps (aR9 x ds) (nb+x.na)) b'=some y:=by
    unfold Z0 at hy;rw[Lf.blk_none e]at hy;exact hy
   obtain⟨k,b,X,x',h1,h2⟩:=u b' y d;exact⟨k,b,X,x',by rw[h1,e,bL7],by rw[hr];exact h2⟩
  ·have n:x.na=1:=G.resolve_left e
   obtain⟨so,q,b0,L,x',hr,p,hx,g⟩:=hm.2.2.2.2 e;obtain⟨A,J,k1,k2⟩:=g (hd1 ds) (s1 L so p q);have d:lk ((nb,some A)::Z0 ps (aR9 x ds) (nb+x.na)) b'=some y:=by
    unfold Z0 at hy
    grind
   rw[k9]at d;split at d
   ·rename_i C
    simp only[bF1]at d;exact⟨0,b0,_,x',C.symm,by rw[hr];rfl,d.symm,hx,k1,k2⟩
   ·obtain⟨k,b,X,t,h1,h2,h3⟩:=u b' y d
    exact⟨k+1,b,X,t,by rw[h1,n];omega,by rw[hr];exact h2,h3⟩
theorem af9.live :∀ {ps:List Lf} {vs:List SV} {es:List E} {bs:List Nat},af9 P U bl τ F s ps vs es bs-> ∀ {k b:Nat},bs[k]? =some b-> ∃x,s.get b=some x
 | [],[],es,bs,h,k,b,hb=>by rw[h.2]at hb;simp at hb
 | [],_::_,es,bs,h,k,b,hb=>h.elim
 |p::ps,[],es,bs,h,k,b,hb=>h.elim
 |p::ps,v::vs,es,bs,h,k,b,hb=>by
  obtain⟨r,j,g,rfl,rfl,hm,d⟩:=h;cases hr:r.2 with
  |none=>rw[hr]at hb;exact d.live hb
  |some b0=>
   rw[hr]at hb;cases k with
   |succ k=>exact d.live (k:=k) hb
   |zero=>
    have e:p.na≠0:=fun h0=>by rw[hm.2.2.1 h0]at hr;cases hr
    obtain⟨so,_,m,L,x',h1,_,hx,_⟩:=hm.2.2.2.2 e;rw[hr]at h1;simp only[bF1]at h1;have e0:b0=b:=by simpa [I6]using hb
    grind
theorem af9.len :∀ {ps:List Lf} {vs:List SV} {es:List E} {bs:List Nat},af9 P U bl τ F s ps vs es bs->es.length=(n8 ps).length
 | [],[],es,bs,h=>by rw[h.1];rfl
 | [],_::_,es,bs,h=>h.elim
 |p::ps,[],es,bs,h=>h.elim
 |p::ps,v::vs,es,bs,h=>by
  obtain⟨r,m,k,rfl,rfl,hm,g⟩:=h;have j:=g.len;unfold n8;cases d:p.so with
  |none=>rw[hm.2.1 d];exact j
  |some so=>
   obtain⟨e,he⟩:=hm.1 so d;rw[he];simp only[I6,bJ4,j]
end
inductive Vs where
 |one (l:Lf)
 |agg (ls:List Lf)
def Vs.lfs :Vs->List Lf
 | .one l=>[l]
 | .agg ls=>ls
def Vs.fl :Vs->SV->Option (List SV)
 | .one _,v=>some [v]
 | .agg ls,.agg l=>bif Nat.beq l.length ls.length then some l else none
 |_,_=>none
def hdV :List SV->SV
 | []=>.any
 |v::_=>v
def Vs.mk :Vs->List SV->SV
 | .one _,l=>hdV l
 | .agg _,l=>.agg l
def aw9 :List Vs->List SV->Option (List SV)
 | [],[]=>some []
 |a::r,v::vs=>match a.fl v with
  |some l=>match aw9 r vs with
   |some m=>some (l++m)
   |none=>none
  |none=>none
 |_,_=>none
def O4 :List Vs->List Lf
 | []=>[]
 |a::r=>a.lfs++O4 r
def bk2 :List Vs->List SV->List SV
 | [],_=>[]
 |a::r,fl=>a.mk (fl.take a.lfs.length)::bk2 r (fl.drop a.lfs.length)
theorem VDL.split {d:List SV}{xs ys:List Value}(h:VDL P U τ F d (xs++ys)):VDL P U τ F (d.take xs.length) xs/\VDL P U τ F (d.drop xs.length) ys:=by
 induction xs generalizing d with
 |nil=>exact⟨by simpa using VDL.nil,by simpa using h⟩
 |cons x xs g=>
  cases d with
  |nil=>have:=h.1;simp at this
  |cons a d=>
   obtain⟨y,j,e,h1,h2⟩:=h.uncons;cases e;obtain⟨k1,k2⟩:=g h2;exact⟨.cons h1 k1,k2⟩
variable {l:List SV}
theorem Vs.fl_ok   {a : Vs} {v : SV}  {x : Value} (h : a.fl v = some l) ( k : VD P U τ F v x) :
  ∃xs,VDL P U τ F l xs/\xs.length=a.lfs.length/\ ∀(τ2:Tau) j d,VDL P U τ2 j d xs->VD P U τ2 j (a.mk d) x:=by
 cases a with
 |one p=>
  simp only[Vs.fl,bF1]at h;subst h;refine⟨[x],.cons k .nil,rfl,fun τ2 j d g=>?_⟩
  cases d with
  |nil=>have:=g.1;simp at this
  |cons b d=>obtain⟨y,ys,e,h1,_⟩:=g.uncons;cases e;exact h1
 |agg ls=>
  unfold Vs.fl at h;split at h
  ·grind
  ·rename_i n m hh
   cases hh;cases hc:Nat.beq m.length ls.length with
   |false=>grind
   |true=>
    rw[hc,bG8,bF1]at h;subst h;cases k with
    |agg _ xs h1 h2=>exact⟨xs,⟨h1,h2⟩,by rw[<-h1];exact bF6 hc,fun τ2 j d g=>.agg d xs g.1 g.2⟩
  ·cases h
theorem au4 {τ : Tau} {F : Nat → Option Blk} : ∀ {as : List Vs} {vs fl : List SV} {args : List Value}, aw9 as vs = some fl → VDL P U τ F vs args →
  ∃fx,VDL P U τ F fl fx/\fx.length=(O4 as).length/\ ∀(τ2:Tau) e j rest,VDL P U τ2 e j fx->VDL P U τ2 e (bk2 as (j++rest)) args
 | [],[],fl,args,h,g=>by
  simp only[aw9,bF1]at h;subst h;have:args=[]:=bF7 g.1.symm;subst this;exact⟨[],.nil,rfl,fun _ _ _ _ _=>.nil⟩
 | [],_::_,fl,args,h,g=>by simp[aw9]at h
 |_::_,[],fl,args,h,g=>by simp[aw9]at h
 |a::r,v::vs,fl,args,h,g=>by
  unfold aw9 at h;split at h
  ·rename_i l hl
   split at h
   ·rename_i m hm
    cases h;obtain⟨y,ys,rfl,h1,h2⟩:=g.uncons;obtain⟨xs,k1,k2,k3⟩:=Vs.fl_ok hl h1;obtain⟨fx,q1,q2,q⟩:=au4 hm h2;refine⟨xs++fx,k1.append q1,by simp[O4,k2,q2],fun τ2 e j rest k=>?_⟩
    obtain⟨n,p⟩:=k.split;have d:xs.length<=j.length:=by rw[k.1];simp
    unfold bk2;rw[<-k2,List.take_append_of_le_length d,List.drop_append_of_le_length d];exact .cons (k3 τ2 e _ n) (q τ2 e _ rest p)
   ·cases h
  ·cases h
def resL :List Vs->SV->Option (List SV)
 | [_],a=>some [a]
 |_,.tup l=>some l
 |_,_=>none
def bf5 :List Vs->List SV->SV
 | [_],l=>hdV l
 |_,l=>.tup l
theorem bA7   {res : List Vs} {a : SV}  {v : Value} (h : resL res a = some l) ( k : VD P U τ F a v) :
  ∃xs,VDL P U τ F l xs/\ ∀(τ2:Tau) g n,VDL P U τ2 g n xs->VD P U τ2 g (bf5 res n) v:=by
 unfold resL at h;split at h
 ·simp only[bF1]at h
  subst h;refine⟨[v],.cons k .nil,fun τ2 g j d=>?_⟩
  cases j with
  |nil=>have:=d.1;simp at this
  |cons b j=>obtain⟨y,ys,e,h1,_⟩:=d.uncons;cases e;exact h1
 ·rename_i r m p
  cases h;cases k with
  |tup _ xs h1 h2=>
   refine⟨xs,⟨h1,h2⟩,fun τ2 g j d=>?_⟩
   unfold bf5;split
   ·grind
   ·exact .tup j xs d.1 d.2
 ·cases h
abbrev af8:=TypeId ×Nat×List Lf
def br7 :List af8->List Lf
 | []=>[]
 |a::r=>a.2.2++br7 r
def aw6 (s : SS) : List af8 → List Nat → Option (List SV)
 | [],[]=>some []
 | a :: r, b :: bs => match s.get b with
  | some (.cells l e' z') => bif Nat.beq a.1 e' && Nat.beq a.2.1 z' && Nat.beq l.length a.2.2.length then
    match aw6 s r bs with
    |some m=>some (l++m)
    |none=>none
   else none
  |_=>none
 |_,_=>none
def Z3 (num:Nat->Nat):Nat->List af8->List SV->List (Nat×Option p7)
 |_,[],_=>[]
 |i,a::r,fl=>(num i,some (.cells (fl.take a.2.2.length) a.1 a.2.1))::Z3 num (i+1) r (fl.drop a.2.2.length)
def BX (τ:Tau)(hp:Hp):List af8->List Nat->List Value->Prop
 | [],[],fx=>fx=[]
 |a::r,b::bs,fx=>∃xs ys,fx=xs++ys/\xs.length=a.2.2.length/\(∃i o cs n,τ b=some (some (i,o))/\hp.m.get i=some (.cells cs n a.1 a.2.1)/\o+xs.length<=n/\ ∀(j:Nat) x,xs[j]? =some x->cs.get (o+j)=some x)/\BX τ hp r bs ys
 |_,_,_=>False
theorem BX.mono {τ':Tau}(ht:Tle τ τ'):∀ {r:List af8} {bs:List Nat} {fx:List Value},BX τ hp r bs fx->BX τ' hp r bs fx
 | [],[],fx,h=>h
 | [],_::_,fx,h=>h.elim
 |_::_,[],fx,h=>h.elim
 |a::r,b::bs,fx,h=>by
  obtain⟨xs,ys,h1,h2,⟨i,o,cs,n,h3,h4⟩,d⟩:=h;exact⟨xs,ys,h1,h2,⟨i,o,cs,n,ht _ _ h3,h4⟩,d.mono ht⟩
theorem BX.len :∀ {r:List af8} {bs:List Nat} {fx:List Value},BX τ hp r bs fx->bs.length=r.length/\fx.length=(br7 r).length
 | [],[],fx,h=>by have h:fx=[]:=h;subst h;exact⟨rfl,rfl⟩
 | [],_::_,fx,h=>h.elim
 |_::_,[],fx,h=>h.elim
 |a::r,b::bs,fx,h=>by
  obtain⟨xs,ys,rfl,h2,_,d⟩:=h;obtain⟨k1,k2⟩:=d.len;exact⟨by simp[k1],by simp[br7,h2,k2]⟩
theorem au3 {τ : Tau} {F : Nat → Option Blk} {s : SS} {hp : Hp} (hs : SD P U τ F s hp) : ∀ {r : List af8} {bs : List Nat} {fl : List SV}, aw6 s r bs = some fl → ∃ fx, VDL P U τ F fl fx ∧ BX τ hp r bs fx
 | [],[],fl,h=>by
  simp only[aw6,bF1]at h;subst h;exact⟨[],.nil,rfl⟩
 | [],_::_,fl,h=>by simp[aw6]at h
 |_::_,[],fl,h=>by simp[aw6]at h
 | a :: r, b :: bs, fl, h => by
  unfold aw6 at h;split at h
  ·rename_i l e'  u hb
   cases hc:Nat.beq a.1 e'&&Nat.beq a.2.1 u&&Nat.beq l.length a.2.2.length with
   |false=>rw[hc]at h;cases h
   | true =>
    rw[hc,bG8]at h;simp only[bF2,bJ1]at hc;obtain⟨⟨rfl,rfl⟩,p⟩:=hc;split at h
    ·rename_i m hm
     cases h;obtain⟨fx,q1,q2⟩:=au3 hs hm
     rcases hs.live b _ hb with⟨i,o,y,h1,h2,h3,cs,n,rfl,h4,B⟩| ⟨_,L,e',u,ph,h2,_⟩
     ·have     d : ∀ j, ∃ x, ∀ a', l[j]? = some a' → cs.get (o + j) = some x ∧ VD P U τ F a' x := by
       intro j;cases hj:l[j]? with
       |none=>exact⟨undef,fun a' e=>by cases e⟩
       |some a'=>simp_all
      obtain⟨t,k⟩:=Classical.axiomOfChoice d
      let xs:=(List.range l.length).map t
      have g:xs.length=l.length:=by simp[xs]
      have q:∀(j:Nat) x,xs[j]? =some x-> ∃a',l[j]? =some a'/\x=t j:=by
       intro j x hx;have hj:j<l.length:=by grind
       refine⟨l[j],bG3 hj,?_⟩
       grind
      have A:VDL P U τ F l xs:=⟨g.symm,fun j a' x z hx=>by
       obtain⟨_,_,rfl⟩:=q j x hx;exact(k j a' z).2⟩
      refine⟨xs++fx,A.append q1,xs,fx,rfl,by rw[g];exact p,⟨i,o,cs,n,h1,h2,by rw[g];exact h4,fun j x hx=>?_⟩,q2⟩
      obtain⟨a',ha',rfl⟩:=q j x hx;exact(k j a' ha').1
     ·cases h2
    ·cases h
  ·cases h
theorem aK1 {τ τ2 : Tau} {F : Nat → Option Blk} {hp : Hp} {num : Nat → Nat} {rest : List SV} : ∀ {r : List af8} {bs : List Nat} {fx : List Value} { g : List SV} {i0 : Nat}, BX τ hp r bs fx → VDL P U τ2 F  g fx → ∀ {b : Nat} {y : Option p7}, lk (Z3 num i0 r ( g ++ rest)) b = some y →
  ∃j p X i o Y,b=num (i0+j)/\bs[j]? =some p/\y=some X/\(∃l e z,X= .cells l e z)/\τ p=some (some (i,o))/\hp.m.get i=some Y/\BD P U τ2 F o X Y
 | [],[],fx,g,i0,h,k,b,y,hy=>by simp[Z3,lk]at hy
 | [],_::_,fx,g,i0,h,k,b,y,hy=>h.elim
 |_::_,[],fx,g,i0,h,k,b,y,hy=>h.elim
 |a::r,b0::bs,fx,g,i0,h,k,b,y,hy=>by
  obtain⟨xs,ys,rfl,h2,⟨i,o,cs,n,h3,h4,D,E⟩,G⟩:=h;obtain⟨t,C⟩:=k.split;have d:xs.length<=g.length:=by rw[k.1];simp
  unfold Z3 at hy;rw[<-h2,List.take_append_of_le_length d,List.drop_append_of_le_length d,k9]at hy;split at hy
  ·rename_i e
   simp only[bF1]at hy;subst hy;refine⟨0,b0,_,i,o,_,e.symm,rfl,rfl,⟨_,_,_,rfl⟩,h3,h4,cs,n,rfl,by rw[t.1];exact D,fun j a' J=>?_⟩
   obtain⟨x,hx,q⟩:=t.get J;exact⟨x,E j x hx,q⟩
  ·obtain⟨j,p,X,K,o',Y,u,A,B⟩:=aK1 G C hy
   exact⟨j+1,p,X,K,o',Y,by rw[u];congr 1;omega,A,B⟩
theorem ay1 {num:Nat->Nat}:∀ {r:List af8} {fl:List SV} {i0 j:Nat},j<r.length->num (i0+j)∈(Z3 num i0 r fl).map Prod.fst
 | [],fl,i0,j,h=>by simp at h
 |a::r,fl,i0,0,h=>by simp[Z3]
 |a::r,fl,i0,j+1,h=>by
  simp only[Z3,bK2,bI9]
  right
  have:=ay1 (num:=num) (r:=r) (fl:=fl.drop a.2.2.length) (i0:=i0+1) (j:=j) (by simpa using h)
  grind
end
end Go.Sx
end PartSm33
noncomputable section PartSm34
namespace Go.Sx
open Go.Xe
structure Con where
 name:String
 args:List Vs
 blks:List af8
 find:List SV->SS->Option (List Nat)
 pre:List Dat->Prop
 res:List Vs
 post:List af8
 find':SV->SS->Option (List Nat)
 rel:List Dat->List Dat->Prop
def Con.inL (c:Con):List Lf:=O4 c.args++br7 c.blks
def Con.outL (c:Con):List Lf:=O4 c.res++br7 c.post
def j0 :Nat->Nat->List Nat
 |_,0=>[]
 |i,n+1=>i::j0 (i+1) n
theorem v8 :∀(n i:Nat),(j0 i n).length=n
 |0,_=>rfl
 |n+1,i=>by simp[j0,v8 n]
theorem ab2 :∀(n i k:Nat),(j0 i n)[k]? =if k<n then some (i+k)else none
 |0,i,k=>by simp[j0]
 |n+1,i,0=>by simp[j0]
 |n+1,i,k+1=>by
  simp only[j0,bG2,ab2 n (i+1) k]
  grind
def idN :Nat->Nat:=fun i=>i
def aj7 (c:Con)(es:List E):List SV:=bp6 idN c.inL es c.blks.length
def aP4 (c:Con)(es:List E):List SV:=bk2 c.args (aj7 c es)
def gst (c:Con)(es:List E)(fv:Nat):SS:=⟨Z3 idN 0 c.blks ((aj7 c es).drop (O4 c.args).length)++Z0 c.inL es c.blks.length,c.blks.length+z9 c.inL,[],fv,[]⟩
def at8 (τ:Tau)(ns:List Nat):Tau:=fun b=>match ns[b]? with
 |some b'=>τ b'
 |none=>none
def P5 (c:Con)(bl:List Nat)(n:Nat)(i:Nat):Nat:=bif Nat.ble (i+1) c.blks.length then bl.getD i 0 else n+(i-c.blks.length)
def M5 (c:Con)(es:List E)(s:SS)(bl:List Nat):List SV:=bp6 (P5 c bl s.nx) c.outL es (s.nx+(c.post.length-c.blks.length))
def fst_ (c:Con)(es:List E)(s:SS)(bl kill:List Nat):SS:=
 ⟨Z3 (P5 c bl s.nx) 0 c.post ((M5 c es s bl).drop (O4 c.res).length)++(Z0 c.outL es (s.nx+(c.post.length-c.blks.length))++(Q3 (kill++ [s.nx])++s.h)),s.nx+(c.post.length-c.blks.length)+z9 c.outL,s.fc,s.fv+(n8 c.outL).length,s.fz⟩
def aF9 (s:SS)(b:Nat):Bool:=(s.get b).isSome
section
variable (P :Program)(U:Nat->List Dat->Dat)
def cfin (c:Con)(es:List E)(a:SV):M Unit:=i9 fun s=>match resL c.res a with
 |none=>a7 "contract: result"
 |some l=>match aw9 c.res l with
  |none=>a7 "contract: results"
  |some fl1=>match c.find' a s with
   |none=>a7 "contract: new blocks"
   |some nw=>match aw6 s c.post (j0 0 c.blks.length++nw)with
    |none=>a7 "contract: blocks behind"
    |some fl2=>a8 (aR2 P U c.outL (fl1++fl2)) fun vs=>a8 (mtL U (j0 0 c.blks.length++nw) c.outL vs) fun t=>i9 fun s2=>
     bif (j0 0 c.blks.length++nw).all (aF9 s2)&&ae3 (nw++t.2)&&nw.all (Nat.ble (c.blks.length+z9 c.inL))&&t.2.all (Nat.ble c.blks.length)&&Nat.beq t.2.length (z9 c.outL)&&Nat.beq (nw.length+c.blks.length) c.post.length then
      fun _=>.need (.pt (c.name++ "Rel") [(n8 c.inL).zip es,(n8 c.outL).zip t.1]) (c.rel (l7 U (n8 c.inL) es) (l7 U (n8 c.outL) t.1)) .done
     else a7 "contract: the end"
def cvc (c:Con)(run:List SV->M SV):Tr (Unit×SS):=
 bi5 (n8 c.inL) 0 fun es=>.asm (.pt (c.name++ "Pre") [(n8 c.inL).zip es]) (c.pre (l7 U (n8 c.inL) es)) ((a8 (run (aP4 c es)) (cfin P U c es)) (gst c es (n8 c.inL).length))
def br0 (c:Con)(args:List SV):M SV:=i9 fun s0=>match aw9 c.args args with
 |none=>a7 "contract: arguments"
 |some fl1=>match c.find args s0 with
  |none=>a7 "contract: no blocks"
  |some bl=>match aw6 s0 c.blks bl with
   |none=>a7 "contract: blocks"
   |some fl2=>a8 (aR2 P U c.inL (fl1++fl2)) fun vs=>a8 (mtL U bl c.inL vs) fun t=>i9 fun s1=>
    bif bl.all (aF9 s1)&&ae3 (bl++t.2)&&Nat.beq t.2.length (z9 c.inL)&&Nat.ble c.blks.length c.post.length then
     fun _=>.need (.pt (c.name++ "Pre") [(n8 c.inL).zip t.1]) (c.pre (l7 U (n8 c.inL) t.1)) (bi5 (n8 c.outL) s1.fv fun ds=>.asm (.pt (c.name++ "Rel") [(n8 c.inL).zip t.1,(n8 c.outL).zip ds]) (c.rel (l7 U (n8 c.inL) t.1) (l7 U (n8 c.outL) ds))
      (.ret (bf5 c.res (bk2 c.res (M5 c ds s1 bl)),fst_ c ds s1 bl t.2)))
    else a7 "contract: the start"
end
section
variable {P :Program}{U:Nat->List Dat->Dat}{ov:FuncId->Option TypeId}
theorem an8 {s:SS}{b:Nat}(h:aF9 s b=true):∃x,s.get b=some x:=Option.isSome_iff_exists.1 h
theorem J1 {τ:Tau}{d:List Nat}{b b':Nat}(h:d[b]? =some b'):at8 τ d b=τ b':=by unfold at8;rw[h]
theorem bq4 {c : Con} {τ : Tau} {F : Nat → Option Blk} {s : SS} {hp : Hp} {vs : List SV} {  u   A : List Value} {bl    d : List Nat} {es ds : List E} {fv : Nat} (hs : SD P U τ F s hp) (hv : VDL P U τ F vs (  u ++   A)) (h1 :   u.length = (O4 c.args).length)
  (hb:BX τ hp c.blks bl A) (hm:af9 P U bl τ F s c.inL vs es d) (hd:ae3 (bl++d)=true) (p:∀b∈bl,∃x,s.get b=some x) (hn:d.length=z9 c.inL) (J:U1 U (n8 c.inL) es ds):
  SD P U (at8 τ (bl++d)) F (gst c ds fv) hp/\VDL P U (at8 τ (bl++d)) F (aj7 c ds) (u++A)/\ ∀b x,(gst c ds fv).get b=some x-> ∃b' x',(bl++d)[b]? =some b'/\s.get b'=some x':=by
 have aa:bl.length=c.blks.length:=hb.len.1;have n1:∀i b,bl[i]? =some b->(bl++d)[i]? =some b:=fun i b h=>by rw[bG0 (bF4.1 h).1];exact h
 have V:∀k b,d[k]? =some b->(bl++d)[c.blks.length+k]? =some b:=fun k b h=>by
  grind
 have r:VDL P U (at8 τ (bl++d)) F (aj7 c ds) (u++A):=hm.vals J (fun i b h=>J1 (n1 i b h)) (fun k b h=>J1 (V k b h)) hv
 obtain ⟨_,v2⟩:=r.split;rw [h1] at v2;have Z:=hm.blks (nb:=c.blks.length) J;have   D : ∀ b x, (gst c ds fv).get b = some x →
   (∃b' i o Y,bl[b]? =some b'/\(∃l e z,x= .cells l e z)/\τ b'=some (some (i,o))/\hp.m.get i=some Y/\BD P U (at8 τ (bl++d)) F o x Y)\/
   (∃k b' x',b=c.blks.length+k/\d[k]? =some b'/\s.get b'=some x'/\(∀(τ2:Tau) o z,BD P U τ F o x' z->BD P U τ2 F o x z)/\(C3 P U x'->C3 P U x)):=by
  intro b x g;have n:(match lk (Z3 idN 0 c.blks ((aj7 c ds).drop (O4 c.args).length)++Z0 c.inL ds c.blks.length) b with|some x=>x|none=>none)=some x:=g
  rw[A0]at n;cases N:lk (Z3 idN 0 c.blks ((aj7 c ds).drop (O4 c.args).length)) b with
  |some y=>
   rw[N]at n;simp only at n;subst n;rw[<-bO1 ((aj7 c ds).drop (O4 c.args).length)]at N;obtain⟨j,bj,X,i,o,Y,t,B,C,L,M,e6,e7⟩:=aK1 hb v2 N;cases C;have:b=j:=by rw[t];show 0+j=j;omega
   grind
  |none=>grind
 have src:∀b x,(gst c ds fv).get b=some x-> ∃b' x',(bl++d)[b]? =some b'/\s.get b'=some x':=by
  intro b x g
  rcases D b x g with⟨b',i,o,Y,t,_⟩| ⟨k,b',x',rfl,B,C,_⟩
  ·obtain⟨x',K⟩:=p b' (bG1 t)
   grind
  ·grind
 refine⟨⟨fun b x g=>?_,fun b W x y i o j q g O R t B=>?_,hs.frz,fun b i o h=>?_,hs.flt,fun b G=>?_,(fun _ _ h=>by cases h),fun _ h=>by cases h⟩,r,src⟩
 ·rcases D b x g with⟨b',i,o,Y,t,B,C,L,M⟩| ⟨k,b',x',rfl,B,C,L,M⟩
  ·obtain⟨x',K⟩:=p b' (bG1 t)
   rcases hs.live b' x' K with⟨i',o',y',k1,_,k3,_⟩| ⟨k1,_⟩
   ·rw[C]at k1
    cases k1;exact .inl ⟨i,o,Y,by rw[J1 (n1 b b' t)];exact C,L,k3,M⟩
   ·grind
  ·rcases hs.live b' x' C with⟨i,o,y,k1,k2,k3,T⟩| ⟨k1,k2⟩
   ·exact .inl ⟨i,o,y,by rw[J1 (V k b' B)];exact k1,k2,k3,L _ o y T⟩
   ·exact .inr ⟨by rw[J1 (V k b' B)];exact k1,M k2⟩
 ·obtain⟨b',x',k1,k2⟩:=src b x g
  obtain⟨c',y',k3,T⟩:=src W y O;rw[J1 k1]at t;rw[J1 k3]at B;refine hs.inj b' c' x' y' i o j q k2 T (fun e=>?_) t B
  subst e;exact R (aa3 hd b W b' k1 k3)
 ·unfold at8 at h
  split at h
  ·exact hs.lt _ i o h
  ·cases h
 ·have G:c.blks.length+z9 c.inL<=b:=G
  unfold at8
  grind
variable (P U ov) in
def i7 (c:Con)(g:FuncId):Prop:=∀(es:List E),es.length=(n8 c.inL).length->c.pre (l7 U (n8 c.inL) es)-> ∀τ F hp xs,SD P U τ F (gst c (B8 U (n8 c.inL) 0 es) (n8 c.inL).length) hp->VDL P U τ F (aP4 c (B8 U (n8 c.inL) 0 es)) xs->
 ∃v τ' F' s' hp' vs fx1 fx2 es' nw accs,aJ1 P ov g xs hp v hp'/\Ext τ F (gst c (B8 U (n8 c.inL) 0 es) (n8 c.inL).length) hp τ' F' s' hp'/\SD P U τ' F' s' hp'/\VDL P U τ' F' vs (fx1++fx2)/\fx1.length=(O4 c.res).length/\
  (∀(τ2:Tau) F2 gl rest,VDL P U τ2 F2 gl fx1->VD P U τ2 F2 (bf5 c.res (bk2 c.res (gl++rest))) v)/\BX τ' hp' c.post (j0 0 c.blks.length++nw) fx2/\af9 P U (j0 0 c.blks.length++nw) τ' F' s' c.outL vs es' accs/\
  (∀b∈j0 0 c.blks.length++nw,∃x,s'.get b=some x)/\ae3 (nw++accs)=true/\(∀b∈nw,c.blks.length+z9 c.inL<=b)/\(∀b∈accs,c.blks.length<=b)/\accs.length=z9 c.outL/\nw.length+c.blks.length=c.post.length/\
  c.rel (l7 U (n8 c.inL) es) (l7 U (n8 c.outL) es')
theorem aH5 {c:Con}{run:List SV->M SV}{g:FuncId}(y:y8 P U ov run g)(ab:(cvc P U c run).vc U fun _=>True):i7 P U ov c g:=by
 intro es e x τ F hp xs hs hx;have hq:=ai6 (U:=U) _ _ _ ab es e;have hq:=hq (by rw[G5 _ _ _ e];exact x)
 generalize N:B8 U (n8 c.inL) 0 es=ds at*;rw[p9]at hq;obtain⟨a,s1,hq,τ1,F1,hp1,E,hs1,v,k,aa⟩:=y _ xs τ F _ hp hx hs _ hq hs;unfold cfin at hq;simp only[i9]at hq;cases B:resL c.res a with
 |none=>rw[B]at hq;exact hq.elim
 |some l=>
 rw[B]at hq;simp only at hq;cases C:aw9 c.res l with
 |none=>rw[C]at hq;exact hq.elim
 |some G=>
 rw[C]at hq;simp only at hq;cases c3:c.find' a s1 with
 |none=>rw[c3]at hq;exact hq.elim
 |some nw=>
 rw[c3]at hq;simp only at hq;cases D:aw6 s1 c.post (j0 0 c.blks.length++nw)with
 |none=>rw[D]at hq;exact hq.elim
 |some J=>
 rw[D]at hq;simp only at hq;obtain⟨us,V,W⟩:=bA7 B aa;obtain⟨q,O,R,T⟩:=au4 C V;obtain⟨r,K,L⟩:=au3 hs1 D;rw[p9]at hq;obtain⟨vs,s2,hq,τ2,F2,Y,p,m,rfl,ac⟩:=ak3 c.outL (G++J) (q++r) τ1 F1 s1 hp1 (O.append K) hs1 _ hq hs1;rw[p9]at hq;obtain⟨⟨n,d⟩,s3,hq,o3,u,X⟩:=aK2 (P:=P) (τ:=τ2) (F:=F2) (j0 0 c.blks.length++nw) c.outL vs s2 _ hq m.fc;simp only[i9]at hq;cases A:(j0 0 c.blks.length++nw).all (aF9 s3)&&ae3 (nw++d)&&nw.all (Nat.ble (c.blks.length+z9 c.inL))&&d.all (Nat.ble c.blks.length)&&Nat.beq d.length (z9 c.outL)&&Nat.beq (nw.length+c.blks.length) c.post.length with
 |false=>rw[A]at hq;exact hq.elim
 |true=>
 rw[A]at hq;simp only[bF2,bI1,bK5,bJ1]at A;obtain⟨⟨⟨⟨⟨k1,k2⟩,k3⟩,k4⟩,k5⟩,k6⟩:=A;have j:c.rel (l7 U (n8 c.inL) ds) (l7 U (n8 c.outL) n):=hq.1;have hd:l7 U (n8 c.inL) ds=l7 U (n8 c.inL) es:=by rw[<-N];exact G5 _ _ _ e
 rw[hd]at j;have Z:=m.only o3 u;exact⟨v,τ2,F2,s3,Y,vs,q,r,n,nw,d,k,E.trans (p.trans (Ext.only m o3)),Z,ac,R,fun z F3 gl rest hg=>W z F3 _ (T z F3 gl rest hg),L.mono p.t,X s3 o3.h,
  fun b hb=>an8 (k1 b hb),k2,k3,k4,k5,k6,j⟩
end
end Go.Sx
end PartSm34
noncomputable section PartSm35
namespace Go.Sx
open Go.Xe
section
variable {P :Program}{U:Nat->List Dat->Dat}{ov:FuncId->Option TypeId}
variable {c:Con}{bl:List Nat}
theorem au9 {n i b:Nat}(hi:i<c.blks.length)(h:bl[i]? =some b):P5 c bl n i=b:=by
 unfold P5;rw[bF8 hi,bG8,List.getD,h];rfl
theorem au8 {n k:Nat}:P5 c bl n (c.blks.length+k)=n+k:=by
 unfold P5;have:Nat.ble (c.blks.length+k+1) c.blks.length=false:=by
  cases h:Nat.ble (c.blks.length+k+1) c.blks.length with
  |false=>rfl
  |true=>simp_all;omega
 grind
theorem bq3  {τ1 : Tau} {F1 : Nat → Option Blk} {s1 : SS} {hp1 : Hp} {kill:List Nat} {  D : List E} {fv : Nat} {τ' : Tau} {F' : Nat → Option Blk} {s' : SS} {hp' : Hp} {vs : List SV} {  R   T : List Value} {es ds : List E} {nw    d : List Nat}
  (hs1:SD P U τ1 F1 s1 hp1) (bi:bl.length=c.blks.length) (bm:kill.length=z9 c.inL) (ao:∀b∈bl++kill,∃x,s1.get b=some x) (_:ae3 (bl++kill)=true)
  (bb:∀b x,(gst c D fv).get b=some x-> ∃b' x',(bl++kill)[b]? =some b'/\s1.get b'=some x')
  (ex:Ext (at8 τ1 (bl++kill)) F1 (gst c D fv) hp1 τ' F' s' hp') (hs:SD P U τ' F' s' hp') (hv:VDL P U τ' F' vs (R++T)) (bk:R.length=(O4 c.res).length) (hb:BX τ' hp' c.post (j0 0 c.blks.length++nw) T)
  (hm:af9 P U (j0 0 c.blks.length++nw) τ' F' s' c.outL vs es d) (hl:∀b∈j0 0 c.blks.length++nw,∃x,s'.get b=some x) (hd:ae3 (nw++d)=true) (bx:∀b∈nw,c.blks.length+z9 c.inL<=b)
  (bv:∀b∈d,c.blks.length<=b) (bn:d.length=z9 c.outL) (bw:nw.length+c.blks.length=c.post.length) (ba:U1 U (n8 c.outL) es ds):
  SD P U (H9 τ1 τ' s1.nx (nw++d)) F' (fst_ c ds s1 bl kill) hp'/\Ext τ1 F1 s1 hp1 (H9 τ1 τ' s1.nx (nw++d)) F' (fst_ c ds s1 bl kill) hp'/\VDL P U (H9 τ1 τ' s1.nx (nw++d)) F' (M5 c ds s1 bl) (R++T):=by
 have az:c.post.length-c.blks.length=nw.length:=by omega
 have av:(gst c D fv).nx=(bl++kill).length:=by show c.blks.length+z9 c.inL=_;rw[bH8,bi,bm]
 have ak:∀b x,s1.get b=some x->b<s1.nx:=fun b x h=>hs1.bound h
 have aq:∀b p,τ1 b=some p->b<s1.nx:=fun b p hb=>Nat.lt_of_not_le fun W=>by rw[hs1.new b W]at hb;cases hb
 have lo:∀b,b<s1.nx->H9 τ1 τ' s1.nx (nw++d) b=τ1 b:=fun b hb=>ad7 hb
 have bg:∀k b,(bl++kill)[k]? =some b->b<s1.nx/\τ' k=τ1 b:=by
  intro k b h;obtain⟨x,hx⟩:=ao b (bG1 h);exact⟨ak b x hx,by rw[ex.st k (by rw[av];exact(bF4.1 h).1),J1 h]⟩
 have ai:∀i b,(j0 0 c.blks.length++nw)[i]? =some b->H9 τ1 τ' s1.nx (nw++d) (P5 c bl s1.nx i)=τ' b:=by
  intro i b h
  by_cases hi:i<c.blks.length
  ·rw[bG0 (by rw[v8];exact hi),ab2,bH3 hi,bI3]at h
   cases h;have V:bl[i]? =some (bl[i]'(by omega)):=bG3 (by omega)
   have bq:(bl++kill)[i]? =some (bl[i]'(by omega)):=by grind
   obtain⟨k1,k2⟩:=bg i _ bq;rw[au9 hi V,lo _ k1,k2]
  ·rw[bF9 (by rw[v8];omega),v8]at h
   obtain⟨k,rfl⟩:∃k,i=c.blks.length+k:=⟨i-c.blks.length,by omega⟩
   rw[bM5]at h;rw[au8];exact al5 (by rw[bG0 (bF4.1 h).1];exact h)
 have aw:∀k b,d[k]? =some b->H9 τ1 τ' s1.nx (nw++d) (s1.nx+(c.post.length-c.blks.length)+k)=τ' b:=by
  intro k b h;rw[az,bL1];exact al5 (by rw[bF9 (by omega),bM5];exact h)
 have N:VDL P U (H9 τ1 τ' s1.nx (nw++d)) F' (M5 c ds s1 bl) (R++T):=hm.vals ba ai aw hv;obtain⟨_,v2⟩:=N.split;rw[bk]at v2;have ax:=hm.blks (nb:=s1.nx+(c.post.length-c.blks.length)) ba;have M:Tle τ1 (H9 τ1 τ' s1.nx (nw++d)):=fun b p hb=>by rw[lo b (aq b p hb)];exact hb
 have u:∀k b,(j0 0 c.blks.length++(nw++d))[k]? =some b->H9 τ1 τ' s1.nx (nw++d) (P5 c bl s1.nx k)=τ' b:=by
  intro k b h
  by_cases hi:k<c.blks.length
  ·refine ai k b ?_
   rw[bG0 (by rw[v8];exact hi)]at h⊢
   exact h
  ·rw[bF9 (by rw[v8];omega),v8]at h
   obtain⟨j,rfl⟩:∃j,k=c.blks.length+j:=⟨k-c.blks.length,by omega⟩
   rw[bM5]at h;rw[au8];exact al5 h
 have au:∀(k k':Nat) b,(j0 0 c.blks.length++(nw++d))[k]? =some b->(j0 0 c.blks.length++(nw++d))[k']? =some b->k=k':=by
  have hge:∀b∈nw++d,c.blks.length<=b:=fun b hb=>by
   grind
  intro k k' b h h'
  by_cases hk:k<c.blks.length
  ·rw[bG0 (by rw[v8];exact hk),ab2,bH3 hk,bI3]at h
   cases h
   by_cases K:k'<c.blks.length
   ·rw[bG0 (by rw[v8];exact K),ab2,bH3 K,bI3]at h'
    grind
   ·rw[bF9 (by rw[v8];omega)]at h'
    have:=hge k (bG1 h');omega
  ·rw[bF9 (by rw[v8];omega)]at h
   by_cases K:k'<c.blks.length
   ·rw[bG0 (by rw[v8];exact K),ab2,bH3 K,bI3]at h'
    cases h';have:=hge k' (bG1 h);omega
   ·rw[bF9 (by rw[v8];omega)]at h'
    have:=aa3 hd _ _ b h h';rw[v8]at this;omega
 have   G : ∀ b x, (fst_ c ds s1 bl kill).get b = some x →
   (∃k b',b=P5 c bl s1.nx k/\(j0 0 c.blks.length++(nw++d))[k]? =some b'/\(∃x',s'.get b'=some x')/\
    ((∃i o Y,τ' b'=some (some (i,o))/\hp'.m.get i=some Y/\F' i=none/\BD P U (H9 τ1 τ' s1.nx (nw++d)) F' o x Y)\/(τ' b'=some none/\C3 P U x)))\/
   (b<s1.nx/\b∉bl/\b∉kill/\s1.get b=some x):=by
  intro b x A;have g:(match lk (Z3 (P5 c bl s1.nx) 0 c.post ((M5 c ds s1 bl).drop (O4 c.res).length)++(Z0 c.outL ds (s1.nx+(c.post.length-c.blks.length))++(Q3 (kill++ [s1.nx])++s1.h))) b with|some x=>x|none=>none)=some x:=A
  rw[A0,A0,A0]at g;cases c1:lk (Z3 (P5 c bl s1.nx) 0 c.post ((M5 c ds s1 bl).drop (O4 c.res).length)) b with
  |some y=>
   rw[c1]at g;simp only at g;subst g;rw[<-bO1 ((M5 c ds s1 bl).drop (O4 c.res).length)]at c1;obtain⟨j,bj,X,i,o,Y,O,z,e3,_,e5,e6,e7⟩:=aK1 hb v2 c1;cases e3
   left
   obtain⟨x',ac⟩:=hl bj (bG1 z);have hF:F' i=none:=by
    rcases hs.live bj x' ac with⟨i',o',y',k1,_,k3,_⟩| ⟨k1,_⟩
    ·grind
    ·grind
   refine⟨j,bj,by rw[O,bI3],?_,⟨x',ac⟩,.inl ⟨i,o,Y,e5,e6,hF,e7⟩⟩
   rw[<-bG5,bG0 (bF4.1 z).1];exact z
  |none=>
   rw[c1]at g;simp only at g;cases c2:lk (Z0 c.outL ds (s1.nx+(c.post.length-c.blks.length))) b with
   |some y=>
    rw[c2]at g;simp only at g;subst g;obtain⟨k,b',X,x',O,z,e3,e4,e5,e6⟩:=ax b _ c2;cases e3
    left
    refine⟨c.blks.length+(nw.length+k),b',by rw[au8,O,az,bL1],?_,⟨x',e4⟩,?_⟩
    ·rw[bF9 (by rw[v8];omega),v8,bM5,bF9 (by omega),bM5];exact z
    ·rcases hs.live b' x' e4 with⟨i,o,y,k1,k2,k3,k4⟩| ⟨k1,k2⟩
     ·exact .inl ⟨i,o,y,k1,k2,k3,e5 _ o y k4⟩
     ·exact .inr ⟨k1,e6 k2⟩
   |none=>
    rw[c2,O3]at g;simp only at g
    by_cases hk:b∈kill++ [s1.nx]
    ·rw[bH3 hk]at g;cases g
    ·rw[bH1 hk]at g
     have n:s1.get b=some x:=g;refine .inr ⟨ak b x n,fun J=>?_,fun h=>hk (bO8 _ h),n⟩
     obtain⟨i,hi⟩:=bK6.1 J;have hlt:i<c.blks.length:=by have:=(bF4.1 hi).1;omega
     have:=ay1 (num:=P5 c bl s1.nx) (r:=c.post) (fl:=(M5 c ds s1 bl).drop (O4 c.res).length) (i0:=0) (j:=i) (by omega)
     rw[bI3,au9 hlt hi]at this;exact absurd this (aJ9 c1)
 obtain⟨lg,a1,a2,a3,a4,_⟩:=ex.hh;have t:∀b0 x i o,(gst c D fv).get b0=some x->at8 τ1 (bl++kill) b0=some (some (i,o))-> ∃b' x',b'∈bl++kill/\s1.get b'=some x'/\τ1 b'=some (some (i,o)):=by
  intro b0 x i o h0 ht;obtain⟨b',x',k1,k2⟩:=bb b0 x h0;rw[J1 k1]at ht;exact⟨b',x',bG1 k1,k2,ht⟩
 have be:∀b i o,b<(gst c D fv).nx->τ' b=some (some (i,o))-> ∃b' x',b'∈bl++kill/\s1.get b'=some x'/\τ1 b'=some (some (i,o)):=by
  intro b i o hb ht;rw[av]at hb;have hg:=bG3 hb;obtain⟨_,k2⟩:=bg b _ hg;obtain⟨x,hx⟩:=ao _ (bG1 hg);rw[k2]at ht;exact⟨_,x,bG1 hg,hx,ht⟩
 have ad:∀b i o,τ' b=some (some (i,o))->hp1.nx<=i\/ ∃b' x' o',b'∈bl++kill/\s1.get b'=some x'/\τ1 b'=some (some (i,o')):=by
  intro b i o ht
  by_cases hb:b<(gst c D fv).nx
  ·obtain⟨b',x',h1,h2,h3⟩:=be b i o hb ht
   exact .inr ⟨b',x',o,h1,h2,h3⟩
  ·rcases a3 b i o (bM9 hb) ht with h| ⟨b0,x,o0,h1,h2,_⟩
   ·omega
   ·obtain⟨b',x',k1,k2,k3⟩:=t b0 x i o0 h1 h2
    exact .inr ⟨b',x',o0,k1,k2,k3⟩
 have apart:∀b x i o c' y o',s1.get b=some x->b∉bl->b∉kill->τ1 b=some (some (i,o))->c'∈bl++kill->s1.get c'=some y->τ1 c'=some (some (i,o'))->False:=by
  intro b x i o c' y o' h1 h2 h3 h4 h5 h6 h7;have aa:b≠c':=fun e=>by
   subst e
   rcases bI8.1 h5 with h|h
   ·exact h2 h
   ·exact h3 h
  exact hs1.inj b c' x y i o i o' h1 h6 aa h4 h7 rfl
 have ap:∀b∈bl,b∈(Z3 (P5 c bl s1.nx) 0 c.post ((M5 c ds s1 bl).drop (O4 c.res).length)).map Prod.fst:=by
  intro b J;obtain⟨i,hi⟩:=bK6.1 J;have hlt:i<c.blks.length:=by have:=(bF4.1 hi).1;omega
  have:=ay1 (num:=P5 c bl s1.nx) (r:=c.post) (fl:=(M5 c ds s1 bl).drop (O4 c.res).length) (i0:=0) (j:=i) (by omega)
  rw[bI3,au9 hlt hi]at this;exact this
 have keys:∀b∈bl++kill,b∈(Z3 (P5 c bl s1.nx) 0 c.post ((M5 c ds s1 bl).drop (O4 c.res).length)++(Z0 c.outL ds (s1.nx+(c.post.length-c.blks.length))++Q3 (kill++ [s1.nx]))).map Prod.fst:=by
  intro b J;simp only[bJ8,bI8]
  rcases bI8.1 J with h|h
  ·exact .inl (ap b h)
  ·exact .inr (.inr (bN4.2 ⟨(b,none),O5 (by rw[O3,bH3 (bO8 _ h)]),rfl⟩))
 have B:∀b x i o,s1.get b=some x->b∉bl->b∉kill->τ1 b=some (some (i,o))->hp'.m.get i=hp1.m.get i:=by
  intro b x i o h1 h2 h3 h4;refine a2 i (hs1.lt b i o h4) fun b0 x0 o0 k1 k2 _=>?_
  obtain⟨b',x',q1,q2,q3⟩:=t b0 x0 i o0 k1 k2;exact apart b x i o b' x' o0 h1 h2 h3 h4 q1 q2 q3
 refine⟨⟨fun b x A=>?_,fun b C x y i o j q A ay aa O z=>?_,hs.frz,fun b i o h=>?_,hs.flt,fun b W=>?_,hs1.fc,fun r hr=>(hs1.fz r hr).mono M ex.f⟩,⟨M,ex.f,ex.nx,?_,fun b hb=>lo b hb,fun b x A hlt=>?_,⟨Z3 (P5 c bl s1.nx) 0 c.post ((M5 c ds s1 bl).drop (O4 c.res).length)++(Z0 c.outL ds (s1.nx+(c.post.length-c.blks.length))++Q3 (kill++ [s1.nx])),?_,fun i hi bp=>?_,fun b i o hb' ht=>?_,fun i y hi hy=>?_,fun hp=>absurd rfl (hp (s1.nx,none) (bN6 _ (bN6 _ (O5 (by rw[O3,bH3 (bN6 _ (by simp))])))))⟩,⟨[],rfl⟩⟩,N⟩
 ·rcases G b x A with⟨k,b',rfl,z,_,h⟩| ⟨hlt,Z,ab,n⟩
  ·rcases h with⟨i,o,Y,h1,h2,h3,h4⟩| ⟨h1,h2⟩
   ·exact .inl ⟨i,o,Y,by rw[u k b' z];exact h1,h2,h3,h4⟩
   ·exact .inr ⟨by rw[u k b' z];exact h1,h2⟩
  ·rcases hs1.live b x n with⟨i,o,y,h1,h2,h3,h4⟩| ⟨h1,h2⟩
   ·refine .inl ⟨i,o,y,by rw[lo b hlt];exact h1,by rw[B b x i o n Z ab h1];exact h2,?_,h4.mono M ex.f⟩
    cases hF:F' i with
    |none=>rfl
    |some y'=>
     exfalso
     rcases a4 i y' (hs1.lt b i o h1) hF with h5| ⟨b0,o0,h5,_⟩
     ·rw[h3]at h5;cases h5
     ·rcases ad b0 i o0 h5 with h6| ⟨b',x',o',h6,h7,h8⟩
      ·have:=hs1.lt b i o h1;omega
      ·exact apart b x i o b' x' o' n Z ab h1 h6 h7 h8
   ·exact .inr ⟨by rw[lo b hlt];exact h1,h2⟩
 ·have mixed : ∀ {b  C x y i o j q} {k b' : Nat}, (j0 0 c.blks.length ++ (nw ++    d))[k]? = some b' → H9 τ1 τ' s1.nx (nw ++    d) (P5 c bl s1.nx k) = some (some (i, o)) → b = P5 c bl s1.nx k → s1.get  C = some y →  C < s1.nx →  C ∉ bl →  C ∉ kill →
    H9 τ1 τ' s1.nx (nw++d) C=some (some (j,q))->i≠j/\(x:p7)=x:=by
   intro b C x y i o j q k b' k1 k2 _ k3 k4 k5 k6 k7;refine⟨fun e=>?_,rfl⟩
   subst e;rw[u k b' k1]at k2;rw[lo C k4]at k7
   rcases ad b' i o k2 with h| ⟨bh,bu,bt,h1,h2,h3⟩
   ·have:=hs1.lt C i q k7;omega
   ·exact apart C y i q bh bu bt k3 k5 k6 k7 h1 h2 h3
  rcases G b x A with⟨k,b',rfl,k1,⟨x',ac⟩,_⟩| ⟨hlt,Z,ab,n⟩
  ·rcases G C y ay with⟨k',aj,rfl,k2,⟨y',bc⟩,_⟩| ⟨L,ae,ah,al⟩
   ·rw[u k b' k1]at O
    rw[u k' aj k2]at z;refine hs.inj b' aj x' y' i o j q ac bc (fun e=>?_) O z
    subst e;exact aa (by rw[au k k' b' k1 k2])
   ·exact(mixed (b:=P5 c bl s1.nx k) (x:=x) k1 O rfl al L ae ah z).1
  ·rcases G C y ay with⟨k',aj,rfl,k2,⟨y',bc⟩,_⟩| ⟨L,ae,ah,al⟩
   ·exact Ne.symm (mixed (b:=P5 c bl s1.nx k') (x:=x) k2 z rfl n hlt Z ab O).1
   ·rw[lo b hlt]at O
    rw[lo C L]at z;exact hs1.inj b C x y i o j q n al aa O z
 ·by_cases hlt:b<s1.nx
  ·rw[lo b hlt]at h
   exact bK4 (hs1.lt b i o h) ex.nx
  ·unfold H9 at h
   rw[bH1 hlt]at h;split at h
   ·exact hs.lt _ i o h
   ·cases h
 ·have W:s1.nx+(c.post.length-c.blks.length)+z9 c.outL<=b:=W
  unfold H9;rw[bH1 (by omega),bQ1 (by rw[bH8,bn];omega)]
 ·show s1.nx<=s1.nx+(c.post.length-c.blks.length)+z9 c.outL
  omega
 ·rcases G b x A with⟨k,b',rfl,k1,_⟩| ⟨_,_,_,n⟩
  ·by_cases hk:k<c.blks.length
   ·have V:bl[k]? =some (bl[k]'(by omega)):=bG3 (by omega)
    rw[au9 hk V]at hlt⊢;exact ao _ (bO8 _ (bG1 V))
   ·obtain⟨j,rfl⟩:∃j,k=c.blks.length+j:=⟨k-c.blks.length,by omega⟩
    rw[au8]at hlt;omega
  ·exact⟨x,n⟩
 ·show Z3 (P5 c bl s1.nx) 0 c.post ((M5 c ds s1 bl).drop (O4 c.res).length) ++ (Z0 c.outL ds (s1.nx + (c.post.length - c.blks.length)) ++ (Q3 (kill ++ [s1.nx]) ++ s1.h)) =
   (Z3 (P5 c bl s1.nx) 0 c.post ((M5 c ds s1 bl).drop (O4 c.res).length)++(Z0 c.outL ds (s1.nx+(c.post.length-c.blks.length))++Q3 (kill++ [s1.nx])))++s1.h
  rw[bG5,bG5]
 ·refine a2 i hi fun b0 x0 o0 k1 k2 _=>?_
  obtain⟨b',x',q1,q2,q3⟩:=t b0 x0 i o0 k1 k2;exact bp b' x' o0 q2 q3 (keys b' q1)
 ·unfold H9 at ht
  rw[bH1 (by omega)]at ht
  split at ht
  ·rcases ad _ i o ht with h| ⟨b',x',o',h1,h2,h3⟩
   ·exact .inl h
   ·exact .inr ⟨b',x',o',h2,h3,keys b' h1⟩
  ·cases ht
 ·rcases a4 i y hi hy with h| ⟨b0,o0,h5,_⟩
  ·exact .inl h
  ·rcases ad b0 i o0 h5 with h6| ⟨b',x',o',h6,h7,h8⟩
   ·omega
   ·exact .inr ⟨b',o',by rw[lo b' (ak b' x' h7)];exact h8,keys b' h6⟩
theorem bz9 {g:FuncId}(hg:i7 P U ov c g):y8 P U ov (br0 P U c) g:=by
 intro l args τ F s hp hl hs Q hq _;unfold br0 at hq;simp only[i9]at hq;cases K:aw9 c.args l with
 |none=>rw[K]at hq;exact hq.elim
 |some M=>
 rw[K]at hq;simp only at hq;cases c2:c.find l s with
 |none=>rw[c2]at hq;exact hq.elim
 |some bl=>
 rw[c2]at hq;simp only at hq;cases L:aw6 s c.blks bl with
 |none=>rw[L]at hq;exact hq.elim
 |some N=>
 rw[L]at hq;simp only at hq;obtain⟨z,V,W,X⟩:=au4 K hl;obtain⟨O,R,T⟩:=au3 hs L;rw[p9]at hq;obtain⟨vs,s2,hq,τ2,G,aa,y,r,rfl,ab⟩:=ak3 c.inL (M++N) (z++O) τ F s hp (V.append R) hs _ hq hs;rw[p9]at hq;obtain⟨⟨es,e⟩,u,hq,o3,C,Z⟩:=aK2 (P:=P) (τ:=τ2) (F:=G) bl c.inL vs s2 _ hq r.fc;simp only[i9]at hq;cases E:bl.all (aF9 u)&&ae3 (bl++e)&&Nat.beq e.length (z9 c.inL)&&Nat.ble c.blks.length c.post.length with
 |false=>rw[E]at hq;exact hq.elim
 |true=>
 rw[E]at hq;simp only[bF2,bI1,bK5,bJ1]at E;obtain⟨⟨⟨k1,k2⟩,k3⟩,k4⟩:=E;have D:=r.only o3 C;have hm:=Z u o3.h;have j:=hm.len;have m:c.pre (l7 U (n8 c.inL) es):=hq.1;have q:∀b∈bl,∃x,u.get b=some x:=fun b hb=>an8 (k1 b hb)
 have B:=T.mono y.t;obtain⟨g1,g2,g3⟩:=bq4 (fv:=(n8 c.inL).length) D ab W B hm k2 q k3 (B9 (n8 c.inL) 0 es j);have p:VDL P U (at8 τ2 (bl++e)) G (aP4 c (B8 U (n8 c.inL) 0 es)) args:=by
  obtain⟨w1,_⟩:=g2.split;have:=X _ _ _ ((aj7 c (B8 U (n8 c.inL) 0 es)).drop z.length) w1;rw[bO5]at this;exact this
 obtain⟨v,τ',F',s',hp',al,A,ak,n,nw,J,r1,r2,r3,r4,r5,r6,r7,r8,r9,ac,ad,ae,ah,ai,aj⟩:=hg es j m _ G aa args g1 p;have d:=r8.len;have hQ:=ai6 (U:=U) _ _ _ (hq.2 m) n d (by rw[G5 _ _ _ d];exact aj)
 have Y:∀b∈bl++e,∃x,u.get b=some x:=fun b hb=>by
  rcases bI8.1 hb with h|h
  ·grind
  ·obtain⟨k,hk⟩:=bK6.1 h
   exact hm.live hk
 obtain⟨f1,f2,f3⟩:=bq3 (U:=U) D B.len.1 k3 Y k2 g3 r2 r3 r4 r5 r7 r8 r9 ac ad ae ah ai (B9 (n8 c.outL) u.fv n d);refine⟨_,_,hQ,_,F',hp',(y.trans (Ext.only r o3)).trans f2,f1,v,r1,?_⟩;obtain⟨w1,_⟩:=f3.split;have:=r6 _ _ _ ((M5 c (B8 U (n8 c.outL) u.fv n) u bl).drop A.length) w1
 simp_all
end
def aj1 (P:Program)(U:Nat->List Dat->Dat):List (FuncId×Con)->FuncId->Option (List SV->M SV)
 | [],_=>none
 |p::l,g=>bif Nat.beq p.1 g then some (br0 P U p.2)else aj1 P U l g
section
variable {P :Program}{U:Nat->List Dat->Dat}{ov:FuncId->Option TypeId}
variable (P U ov) in
def M0 :List (FuncId×Con)->Prop
 | []=>True
 |p::l=>i7 P U ov p.2 p.1/\M0 l
theorem aO8 :∀ {l:List (FuncId×Con)},M0 P U ov l-> ∀g k,aj1 P U l g=some k->y8 P U ov k g
 | [],_,g,k,h=>by cases h
 |p::l,d,g,k,h=>by
  unfold aj1 at h;cases hb:Nat.beq p.1 g with
  |true=>
   rw[hb,bG8,bF1]at h;rw[<-h,<-bF6 hb];exact bz9 d.1
  |false=>rw[hb,bG9]at h;exact aO8 d.2 g k h
theorem noT {C:FuncId->Prop}:∀g,isT (noOv g)=true->C g:=fun _ h=>Bool.noConfusion (show false=true from h)
theorem bk9 {a:FuncId}{t:TypeId}{rest:FuncId->Option TypeId}(h:isT (some t)=false)(hr:∀g,isT (rest g)=false):∀g,isT (aD3 a t rest g)=false:=by
 intro g;unfold aD3
 grind
theorem F8 {L : FuncId} {rest : FuncId → Option TypeId} {con : FuncId → Option (List SV → M SV)} (h : (con L).isSome = true)
  (hr:∀g,isT (rest g)=false:=by first|exact fun _=>rfl|exact bk9 rfl (fun _=>rfl)|exact bk9 rfl (bk9 rfl (fun _=>rfl))|exact bk9 rfl (bk9 rfl (bk9 rfl (fun _=>rfl)))):∀g,isT (aD3 L af4 rest g)=true->con g≠none:=by
 intro g d e;unfold aD3 at d;cases hb:Nat.beq g L with
 |true=>simp_all
 |false=>grind
end
end Go.Sx
end PartSm35
noncomputable section PartSm36
namespace Go.Sx
open Go.Xe Go.RowKit
section
variable {P :Program}{U:Nat->List Dat->Dat}{ov:FuncId->Option TypeId}
theorem bj4 (hm : P.follows .mixedOrders = true) (  R : ∀ g t, ov g = some t → Z8 P g t) {c : Con} {f : FuncId} (hg : i7 P U ov c f) (h1 : c.blks = []) (h2 : c.res = [.one (.g .bool)]) (h3 : c.post = []) (   L : ∀ d e, c.rel d e → e = [.bool true])
  (ha:z9 c.inL=0) (hA:∀nb ds,Z0 c.inL ds nb=[]) {es:List E} (B:es.length=(n8 c.inL).length) (K:c.pre (l7 U (n8 c.inL) es)) {xs ys:List Value} {w:World}
  (hl:VDL P U (fun _=>none) (roF w) (aP4 c (B8 U (n8 c.inL) 0 es)) xs) (hx:VRL (ag6 w) xs ys):
  Calls P f ys.toArray w fun e w'=>e= .returned (.bool true)/\Below w.heap.size w w':=by
 have A:gst c (B8 U (n8 c.inL) 0 es) (n8 c.inL).length=⟨[],0,[],(n8 c.inL).length,[]⟩:=by
  unfold gst;rw[hA,h1,ha];rfl
 have hs:SD P U (fun _=>none) (roF w) (gst c (B8 U (n8 c.inL) 0 es) (n8 c.inL).length) (aS7 w):=by
  rw[A];exact⟨fun b x hb=>(by cases hb),fun b c x y i o j q hb=>(by cases hb),fun i b h=>(bu6 w i b h).1,fun b i o h=>(by cases h),fun i b h=>(bu6 w i b h).2,fun b _=>rfl,fun c t h=>(by simp at h),fun r h=>(by simp at h)⟩
 obtain⟨v,τ',F',s',hp',vs,ad,N,m,nw,aa,⟨n0,hr⟩,_,_,r4,r5,r6,r7,M,_,_,_,_,_,_,X⟩:=hg es B K _ _ _ xs hs hl;have p:=L _ _ X;have J:c.outL=[.g .bool]:=by unfold Con.outL;rw[h2,h3];rfl
 have z:N=[]:=by
  have:=r7.len.2;rw[h3]at this;exact bF7 this
 subst z;rw[bO1]at r4;rw[J]at M p;have ah:=B9 (U:=U) (n8 [.g .bool]) 0 m M.len;have hd:∃e,m=[e]/\(e.den U).toBool=true:=by
  have:=M.len;cases m with
  |nil=>simp[n8,Lf.so,G.so,I6]at this
  |cons e k=>
   have D:k=[]:=by
    have:k.length=0:=by simpa [n8,Lf.so,G.so,I6]using this
    exact bF7 this
   subst D;refine⟨e,rfl,?_⟩;have h: [Dat.bool (e.den U).toBool]=[Dat.bool true]:=p
   simpa using h
 obtain⟨e,rfl,he⟩:=hd;have T:VD P U τ' F' (.bool e) v:=by
  cases vs with
  |nil=>exact M.elim
  |cons a Y=>
   obtain⟨r,k,ac,e1,e2,n,C⟩:=M;cases Y with
   |cons b ab=>exact C.elim
   |nil=>
    obtain⟨rfl,rfl⟩:=C;obtain⟨y,Z,rfl,hy,W⟩:=r4.uncons;have hz:Z=[]:=bF7 W.1.symm;subst hz;obtain⟨e0,ae⟩:=n.1 .b rfl;have h5:=n.2.2.2.1 y hy τ' (fun i=>(j0 0 c.blks.length++nw).getD i 0) 0 e (fun i b hb=>by rw[List.getD,hb];rfl) (fun e2 so O ai=>by
     rw[O]at e1;have:e=e2:=by simpa [I6]using e1
     subst this;cases so<;>rfl) (fun b hb=>by
      have:=n.2.2.1 rfl;rw[this]at hb;cases hb)
    have h6:=r6 τ' F' [.bool e] [] (.cons h5 .nil);rw[h2]at h6;exact h6
 cases T;rw[he]at hr;refine((aJ5 hm R n0).run f xs (aS7 w) _ hp' (hr n0 (bH4 _)) (BS.ro w) w (ag6 w) w ys hx (HR.ro w)).mono fun e w' he=>?_
 obtain⟨σ',u,rfl,_,hv,V⟩:=he;cases hv;exact⟨rfl,HR.roBelow V⟩
end
end Go.Sx
end PartSm36
noncomputable section PartSm37
namespace Go.Sx
open Go.Xe
structure Jn where
 name:String
 gh:List SV->SS->List (So×E)
 one:Bool
 res:List (Option IntKind)
 rel:List Dat->List Dat->Prop
section
variable {P :Program}{U:Nat->List Dat->Dat}{ov:FuncId->Option TypeId}
end
section
variable {P :Program}{U:Nat->List Dat->Dat}
def yesM :List SV->M SV:=fun l=>match l with
 | []=>c6 (.bool (.bool true))
 |_=>a7 "an argument"
def bd3 (_ e:List Dat):Prop:=e=[.bool true]
def D1 (n:String):Con:=⟨n,[],[],fun _ _=>some [],fun d=>d=[],[.one (.g .bool)],[],fun _ _=>some [],bd3⟩
theorem aq6 {ov:FuncId->Option TypeId}{L:FuncId}(h:isT (ov L)=true)(n:String):i7 P U ov (D1 n) L:=by
 refine aH5 (run:=yesM) (fun l args τ F s hp hl hs=>?_) fun _=>⟨rfl,fun _=>trivial⟩
 cases l with
 |cons a l=>exact OKh.fail
 |nil=>
  obtain rfl:args=[]:=bF7 hl.1.symm;refine OKh.ret ⟨Value.bool true,⟨1,fun m hm=>?_⟩,VD.bool (.bool true)⟩
  obtain⟨m,rfl⟩:∃k,m=k+1:=⟨m-1,by omega⟩
  show(bif isT (ov L)&&([]:List Value).isEmpty then some (Value.bool true,hp)else _)=some (Value.bool true,hp)
  rw[h];rfl
end
end Go.Sx
end PartSm37
namespace Go.Sx
open Go.Xe
def shrI (k:IntKind)(a b:Int):Int:=a.fdiv (2^(min b.toNat k.bits))
abbrev cI (L:Rows)(i:Int)(j:Nat):Int:=(v5 L i j).toInt
abbrev cS (L:Rows)(i:Int)(j:Nat):List UInt8:=(v5 L i j).toStr
abbrev cB (L:Rows)(i:Int)(j:Nat):Bool:=(v5 L i j).toBool
abbrev cL (L:Rows)(i:Int)(j:Nat):Rows:=(v5 L i j).rows
abbrev ln {α:Type}(l:List α):Int:=(l.length:Int)
abbrev Nr (x:Int)(q:Prop):Prop:=Nd (x=x) q
abbrev Ni (x:Int)(q:Prop):Prop:=Nd (¬x<x) q
def byteAt (s:List UInt8)(i:Int):Int:=((s.getD i.toNat 0).toNat:Int)
theorem u6 {p q:Prop}:(p/\(p->p/\(p->q)))↔(p/\(p->q)):=⟨fun h=>⟨h.1,fun x=>(h.2 x).2 x⟩,fun h=>⟨h.1,fun x=>⟨x,h.2⟩⟩⟩
theorem u5 {p q:Prop}:(p->p/\(p->q))↔(p->q):=⟨fun h x=>(h x).2 x,fun h x=>⟨x,h⟩⟩
theorem i5 (n:Int):(Dat.int n).toInt=n:=rfl
theorem j7 (s:List UInt8):(Dat.str s).toStr=s:=rfl
theorem I7 (l:Rows):(Dat.lst l).rows=l:=rfl
section
variable {α :Type}{f:α->List Dat}
theorem e9 {T:List α}{i:Int}{s:α}(h:T[i.toNat]? =some s)(j:Nat):v5 (T.map f) i j=(f s).getD j (.int 0):=by
 unfold v5;rw[show(T.map f).getD i.toNat []=f s by rw[bI2,bK1,h];rfl]
theorem get_at {T:List α}{i:Int}(h0:0<=i)(h1:i<(T.length:Int)):∃o,T[i.toNat]? =some o:=⟨_,bG3 (by omega)⟩
theorem aR8 {l:List α}{a n:Int}:Sx.part (l.map f) a n=((l.drop a.toNat).take n.toNat).map f:=by
 unfold Sx.part;rw[<-List.map_drop,<-List.map_take]
theorem map_inj_of {d:Type}{f:α->d}(hf:∀a b,f a=f b->a=b):∀ {l m:List α},l.map f=m.map f->l=m
 | [],[],_=>rfl
 | [],b::m,h=>by simp at h
 |a::l,[],h=>by simp at h
 |a::l,b::m,h=>by
  simp only[bK2,bM0]at h;rw[hf a b h.1,map_inj_of hf h.2]
theorem aS8 {rows:Rows}(f:α->List Dat)(R:α->Prop)(h:∀r∈rows,∃a,R a/\r=f a):∃L:List α,(∀a∈L,R a)/\rows=L.map f:=by
 induction rows with
 |nil=>exact⟨[],fun a h=>(by simp at h),rfl⟩
 |cons r rows j=>
  obtain⟨a,g,e⟩:=h r (by simp)
  obtain⟨L,d,e'⟩:=j fun r hr=>h r (by simp[hr])
  exact⟨a::L,fun b hb=>by rcases bI9.1 hb with rfl|hb;exact g;exact d b hb,by rw[e,e'];rfl⟩
end
theorem J0 {α:Type}{l:List α}{k:Nat}{a:α}(h:l[k]? =some a):l.take (k+1)=l.take k++ [a]:=by
 rw[List.take_add_one,h];rfl
theorem drop_at {α:Type}{l:List α}{k:Nat}{a:α}(h:l[k]? =some a):l.drop k=a::l.drop (k+1):=by
 have hk:=(bF4.1 h).1;rw[List.drop_eq_getElem_cons hk,(bF4.1 h).2]
theorem j8 {k:Int}(h:0<=k):(k+1).toNat=k.toNat+1:=by omega
theorem au5 {k:List KV}{n:Nat}(h:k.length=n)(v:Dat):aa5 n (k.map KV.dat++ [v])=k:=by
 unfold aa5;rw[List.take_left' (by rw[bH0];exact h),aX9]
theorem bh6 {k:List KV}{n:Nat}(h:k.length=n)(v:Dat):(k.map KV.dat++ [v]).getD n (.int 0)=v:=by
 rw[bI2,bF9 (by rw[bH0];omega),bH0,show n-k.length=0 by omega];rfl
theorem ac7 (k x:List KV)(h:k.length=x.length)(v d:Dat):∀M:Rows,mgetR (mputR M k v) x d=if x=k then v else mgetR M x d
 | []=>by
  unfold mputR mgetR;rw[au5 h,bh6 h]
  by_cases e:x=k
  ·subst e;rw[bH3 rfl,bH3 rfl]
  ·rw[bH1 e,bH1 (show¬k=x from fun c=>e c.symm)];rfl
 |r::M=>by
  unfold mputR
  by_cases hr:aa5 k.length r=k
  ·rw[bH3 hr]
   unfold mgetR;rw[au5 h,bh6 h,<-h,hr]
   by_cases e:x=k
   ·subst e;rw[bH3 rfl,bH3 rfl]
   ·rw[bH1 e,bH1 (show¬k=x from fun c=>e c.symm),bH1 (show¬k=x from fun c=>e c.symm)]
  ·rw[bH1 hr]
   unfold mgetR
   by_cases e:aa5 x.length r=x
   ·rw[bH3 e,bH3 e,bH1 (fun c=>hr (by rw[h,e,c]))]
   ·rw[bH1 e,bH1 e];exact ac7 k x h v d M
theorem aG3 (k x:List KV)(h:k.length=x.length)(v:Dat):∀M:Rows,mhasR (mputR M k v) x=(decide (x=k)||mhasR M x)
 | []=>by
  unfold mputR mhasR;rw[au5 h]
  by_cases e:x=k
  ·subst e;simp
  ·simp[e,show¬k=x from fun c=>e c.symm,mhasR]
 |r::M=>by
  unfold mputR
  by_cases hr:aa5 k.length r=k
  ·rw[bH3 hr]
   unfold mhasR;rw[au5 h,<-h,hr]
   by_cases e:x=k
   ·subst e;simp
   ·simp[e,show¬k=x from fun c=>e c.symm]
  ·rw[bH1 hr]
   unfold mhasR;rw[aG3 k x h v M]
   by_cases e:aa5 x.length r=x<;>simp[e]
end Go.Sx
set_option linter.unusedVariables false
noncomputable section PartSm39
namespace Go.Sx
open Go.Xe
def aZ1 :Kd->Bool
 | .int _=>true
 | .bool=>true
 | .str=>true
 |_=>false
theorem PV.num {P:Program}{F F':Nat->Option Blk}{k:Kd}{v:Value}{d:Dat}(hk:aZ1 k=true)(p:PV P F k v d):PV P F' k v d:=by
 cases p with
 |int k n=>exact .int k n
 |bool b=>exact .bool b
 |str s=>exact .str s
 |nils e=>cases hk
 |vague e=>cases hk
 |_=>cases hk
section
variable {P :Program}{U:Nat->List Dat->Dat}{ov:FuncId->Option TypeId}
def ag7 :SV->Bool
 | .int _ _=>true
 | .bool _=>true
 | .str _=>true
 |_=>false
def bg5 (a:SV):Bool:=match a with
 | .tup l=>l.all ag7
 |a=>ag7 a
variable {F F':Nat->Option Blk}{v:Value}
theorem bg3 {τ τ':Tau}{a:SV}(h:ag7 a=true)(d:VD P U τ F a v):VD P U τ' F' a v:=by
 cases d with
 |int k e=>exact .int k e
 |bool e=>exact .bool e
 |str e=>exact .str e
 |_=>cases h
theorem bu9 {τ τ':Tau}{a:SV}(h:bg5 a=true)(e:VD P U τ F a v):VD P U τ' F' a v:=by
 unfold bg5 at h;split at h
 ·cases e with
  |tup _ xs h1 h2=>
   rw[bI1]at h;exact .tup _ xs h1 fun i a x d hx=>bg3 (h a (bG1 d)) (h2 i a x d hx)
 ·exact bg3 h e
def bC8 (P:Program)(s:SS)(a:SV)(s1:SS):Tr (SV×SS):=match a,s1.h with
 | .sl b z o n c,(k,some (.rows L e z' ph))::(k2,none)::h=>
  bif Nat.beq h.length s.h.length&&Nat.beq k2 k&&Nat.ble s.nx k&&(kf P e).all aZ1 then .ret (.sl b z o n c,⟨(k,some (.rows L e z' ph))::s.h,s1.nx,s1.fc,s1.fv,s.fz⟩)else .ret (.sl b z o n c,s1)
 |a,(k2,none)::h=>bif bg5 a&&Nat.beq h.length s.h.length&&Nat.ble s.nx k2 then .ret (a,⟨s.h,s1.nx,s1.fc,s1.fv,s.fz⟩)else .ret (a,s1)
 |a,_=>.ret (a,s1)
def bt9 (P:Program)(run:List SV->M SV):List SV->M SV:=fun l s=>(run l s).bind fun r=>bC8 P s r.1 r.2
theorem bu0 {run:List SV->M SV}{g:FuncId}(hr:y8 P U ov run g):y8 P U ov (bt9 P run) g:=by
 intro l args τ F s hp hl hs Q hq _;unfold bt9 at hq;rw[Tr.vc_bind]at hq;obtain⟨a,s1,h1,τ1,F1,hp1,ex,hs1,v,hx,J⟩:=hr l args τ F s hp hl hs _ hq hs;simp only at h1;unfold bC8 at h1;split at h1
 ·rename_i b z o n c k L e K ph k2 h hh
  cases hc:Nat.beq h.length s.h.length&&Nat.beq k2 k&&Nat.ble s.nx k&&(kf P e).all aZ1 with
  |false=>rw[hc]at h1;exact⟨_,_,h1,τ1,F1,hp1,ex,hs1,v,hx,J⟩
  |true=>
   rw[hc]at h1;simp only[bF2,bJ1,bK5,bI1]at hc;obtain⟨⟨⟨O,c2⟩,Z⟩,c4⟩:=hc;subst k2;obtain⟨V,B,C,N,X,Y⟩:=ex.hh;rw[hh]at B;have u: [(k,some (p7.rows L e K ph)),(k,none)]++h=V++s.h:=B;obtain⟨D,E⟩:=List.append_inj' u O;subst D;subst E;have get:∀b,(⟨(k,some (.rows L e K ph))::s.h,s1.nx,s1.fc,s1.fv,s.fz⟩:SS).get b=s1.get b:=fun b=>by
    unfold SS.get;rw[hh,k9,k9,k9]
    by_cases hb:k=b
    ·rw[bH3 hb,bH3 hb]
    ·rw[bH1 hb,bH1 hb,bH1 hb]
   have old:∀b x,s1.get b=some x->k≠b->s.get b=some x:=fun b x hb A=>by
    rw[<-get]at hb;unfold SS.get at hb⊢;rw[k9,bH1 A]at hb;exact hb
   have new:∀b x,s.get b=some x->b∈ [(k,some (p7.rows L e K ph)),(k,none)].map Prod.fst->False:=fun b x hb hm=>by
    have:=hs.bound hb;simp only[bK2,List.map_nil,bI9,List.not_mem_nil,or_false,or_self]at hm;omega
   refine⟨_,_,h1,τ1,F,hp1,⟨ex.t,Fle.refl F,ex.nx,ex.snx,ex.st,fun b x hb hlt=>ex.low b x (by rw[<-get];exact hb) hlt,⟨[(k,some (.rows L e K ph))],rfl,fun i hi T=>C i hi fun b x o p1 p2 m=>new b x p1 m,fun b i o hb ht=>?_,fun i y hi hy=>.inl hy,fun _ i y hy=>hy⟩,ex.hf⟩,
    ⟨fun b x hb=>?_,fun b c x y i o j q hb hc=>hs1.inj b c x y i o j q (by rw[<-get];exact hb) (by rw[<-get];exact hc),fun i b hF=>hs1.frz i b (ex.f i b hF),hs1.lt,fun i b hF=>hs1.flt i b (ex.f i b hF),hs1.new,hs1.fc,fun r hr=>(hs.fz r hr).mono ex.t (Fle.refl F)⟩,v,hx,?_⟩
   ·rcases N b i o hb ht with h| ⟨b0,x,o0,h1,h2,h3⟩
    ·exact .inl h
    ·exact(new b0 x h1 h3).elim
   ·rw[get]at hb
    by_cases hk:k=b
    ·subst hk
     have hx:x= .rows L e K ph:=by
      rw[<-get]at hb;unfold SS.get at hb;rw[k9,bH3 rfl]at hb;exact(bH7 hb).symm
     subst hx
     rcases hs1.live k _ hb with⟨i,o,y,p1,p2,m,cs,n,q1,⟨r1,r2,r3,r4⟩,q3⟩|p
     ·refine .inl ⟨i,o,y,p1,p2,?_,cs,n,q1,⟨r1,r2,r3,fun r j row d hr hd=>?_⟩,q3⟩
      ·cases hF:F i with
       |none=>rfl
       |some y'=>rw[ex.f i y' hF]at m;cases m
      ·obtain⟨x,t1,t2⟩:=r4 r j row d hr hd
       exact⟨x,t1,fun kd G=>(t2 kd G).num (c4 kd (bG1 G))⟩
     ·exact .inr p
    ·have R:=old b x hb hk
     rcases hs.live b x R with⟨i,o,y,p1,p2,m,W⟩| ⟨p1,p2⟩
     ·exact .inl ⟨i,o,y,ex.t _ _ p1,by rw[C i (hs.lt b i o p1) fun b x o p1 p2 m=>new b x p1 m];exact p2,m,W.mono ex.t (Fle.refl F)⟩
     ·exact .inr ⟨ex.t _ _ p1,p2⟩
   ·cases J with
    |sl _ _ _ _ _ i o c h h0 h1 hc=>exact .sl _ _ _ _ _ i o c h h0 h1 hc
    |sl0 _ _ _ _ _ h h0 h1 hc=>exact .sl0 _ _ _ _ _ h h0 h1 hc
 ·rename_i a _ _ k2 h hh
  cases hc:bg5 a&&Nat.beq h.length s.h.length&&Nat.ble s.nx k2 with
  |false=>rw[hc]at h1;exact⟨_,_,h1,τ1,F1,hp1,ex,hs1,v,hx,J⟩
  |true=>
   rw[hc]at h1;simp only[bF2,bJ1,bK5]at hc;obtain⟨⟨c0,O⟩,Z⟩:=hc;obtain⟨V,B,C,N,X,Y⟩:=ex.hh;rw[hh]at B;have u: [(k2,none)]++h=V++s.h:=B;obtain⟨D,E⟩:=List.append_inj' u O;subst D;subst E;have new:∀b x,s.get b=some x->b∈ [(k2,(none:Option p7))].map Prod.fst->False:=fun b x hb hm=>by
    have:=hs.bound hb;simp only[bK2,List.map_nil,bI9,List.not_mem_nil,or_false]at hm;omega
   refine⟨_,_,h1,τ1,F,hp1,⟨ex.t,Fle.refl F,ex.nx,ex.snx,ex.st,fun b x hb _=>⟨x,hb⟩,⟨[],rfl,fun i hi T=>C i hi fun b x o p1 p2 m=>new b x p1 m,fun b i o hb ht=>?_,fun i y hi hy=>.inl hy,fun _ i y hy=>hy⟩,ex.hf⟩,
    ⟨fun b x hb=>?_,fun b c x y i o j q hb hc A D E=>hs.inj b c x y i o j q hb hc A (by rw[<-ex.st b (hs.bound hb)];exact D) (by rw[<-ex.st c (hs.bound hc)];exact E),fun i b hF=>hs1.frz i b (ex.f i b hF),hs1.lt,fun i b hF=>hs1.flt i b (ex.f i b hF),hs1.new,hs1.fc,fun r hr=>(hs.fz r hr).mono ex.t (Fle.refl F)⟩,v,hx,bu9 c0 J⟩
   ·rcases N b i o hb ht with h| ⟨b0,x,o0,h1,h2,h3⟩
    ·exact .inl h
    ·exact(new b0 x h1 h3).elim
   ·rcases hs.live b x hb with⟨i,o,y,p1,p2,m,W⟩| ⟨p1,p2⟩
    ·exact .inl ⟨i,o,y,ex.t _ _ p1,by rw[C i (hs.lt b i o p1) fun b x o p1 p2 m=>new b x p1 m];exact p2,m,W.mono ex.t (Fle.refl F)⟩
    ·exact .inr ⟨ex.t _ _ p1,p2⟩
 ·exact⟨_,_,h1,τ1,F1,hp1,ex,hs1,v,hx,J⟩
variable (P U) in
def conP (l:List (FuncId×Con))(g:FuncId):Option (List SV->M SV):=match aj1 P U l g with
 |some k=>some (bt9 P k)
 |none=>none
end
end Go.Sx
end PartSm39
set_option linter.unusedVariables false
noncomputable section PartSm40
namespace Go.Sx
open Go.Xe
def Con.below (c:Con)(mu:List Dat->Nat)(n:Nat):Con:= {c with pre:=fun d=>c.pre d/\mu d<n}
section
variable {P :Program}{U:Nat->List Dat->Dat}{ov:FuncId->Option TypeId}
theorem aZ9 {c:Con}{mu:List Dat->Nat}{g:FuncId}(h:∀n,i7 P U ov (c.below mu n) g->i7 P U ov (c.below mu (n+1)) g):i7 P U ov c g:=by
 have all:∀n,i7 P U ov (c.below mu n) g:=fun n=>by
  induction n with
  |zero=>intro es _ d;exact absurd d.2 (Nat.not_lt_zero _)
  |succ n j=>exact h n j
 intro es e d;exact all (mu (l7 U (n8 c.inL) es)+1) es e ⟨d,bL2 _⟩
end
end Go.Sx
end PartSm40
