/- The symbolic engine, parts 23, 24, 25, 26, 27, 28, 29, 30, 31, 32, 33, 34, 35, 36, 37, 38, 39, 40.
  Conditions: none. -/
import Derived.Test.YtcjhhnoaoldcmaaSm2
import Derived.Carry
import Derived.OpenShut
set_option linter.unusedSimpArgs false
set_option linter.unusedVariables false
namespace Go.Sx
open Go.Xe
def H5 :Nat->List (Nat×Option n5)->List Nat
 |0,_=>[]
 |_+1,[]=>[]
 |n+1,(k,_)::l=>k::H5 n l
theorem aq5 (l h:List (Nat×Option n5)):H5 l.length (l++h)=l.map Prod.fst:=by
 induction l with
 |nil=>rfl
 |cons a l d=>obtain⟨k,x⟩:=a;simp only[bE4,bG2,H5,bF2,d]
theorem at8 {α:Type}{b:Nat}:∀(l h:List (Nat×α)),b∉l.map Prod.fst->lk (l++h) b=lk h b
 | [],_,_=>rfl
 | (k,x)::l,h,hb=>by
  simp only[bF2,bD9,not_or]at hb;rw[bG2,j4,bC1 (fun e=>hb.1 e.symm)]
  exact at8 l h hb.2
def aq4 :Nat->List (Nat×Option n5)->Bool
 |0,_=>false
 |_+1,[]=>false
 |n+1,(_,x)::l=>match x with
  |none=>true
  |some _=>aq4 n l
theorem bg3 (l h:List (Nat×Option n5))(hf:aq4 l.length (l++h)=false):∀p∈l,p.2≠none:=by
 induction l with
 |nil=>exact fun p hp=>by simp at hp
 |cons a l d=>
  obtain⟨k,x⟩:=a;intro p hp;simp only[bE4,bG2,aq4]at hf
  grind
def quiet {α:Type}(m:M α):M α:=fun s=>(m s).bind fun r=>bif Nat.beq r.2.h.length s.h.length&&Nat.beq r.2.nx s.nx then b9 r.1 r.2 else a6 "a region: an operation that should leave the memory alone" r.2
def bm2 {α:Type}(n:Nat)(m:M α):M (α×List Nat×Bool):=fun s=>(m s).bind fun r=>b9 (r.1,H5 (r.2.h.length-n) r.2.h,aq4 (r.2.h.length-n) r.2.h) r.2
def mpend :M Nat:=fun s=>b9 s.nx (aR7 s)
def bn8 (pd:List Pd):M Unit:=fun s=>b9 () (Y3 s pd)
def liveR (r:Rd):M Unit:=match r with
 | .blk b=>i7 fun s=>match s.get b with
  |some _=>b9 ()
  |none=>a6 "a region: read"
 | .mlk _ b=>i7 fun s=>match s.get b with
  |some _=>b9 ()
  |none=>a6 "a region: read"
 |_=>b9 ()
def be3 (P:Program)(vt:TypeId):Option E:=match ab4 P vt with
 |some [z]=>bif as4 (E1 P vt)then aC7 (kd1 P vt) z else none
 |_=>none
def ag9 (P:Program)(s0:SS)(f:Fm):Op->Rd
 | .mapEntry t m k=>match f6 f m with
  |some (.map b)=>match s0.get b,P.underlying t with
   |some (.map _ kt' vt'),some (.map kt vt)=>bif aj3 P t f k&&Nat.beq kt kt'&&Nat.beq vt vt'&&(be3 P vt).isSome then .mlk t b else .free
   |_,_=>.free
  |_=>.free
 |_=>.free
def bm0 (o:Oper):Bool:=Nat.beq (c6 o.op) 3
section
variable (P :Program)(U:Nat->List Dat->Dat)
def sgo (call : B3) (nt : Nat) (all : List Oper) : List (Oper × Nat) → Nat → Fm → List Pd → List En → M (Fm × List Pd)
 | [],_,f,pd,_=>b9 (f,pd)
 | (o, pre) :: rest, i, f, pd, es =>
  bif l5 nt o.dst && Nat.blt pre (2 ^ i) then
   a7 (au5 U all f o) fun t=>
   bif t then
    bif Nat.beq (c6 o.op) 0 then a7 (quiet (sop P U call (N5 all f o t) o.op)) fun v=>sgo call nt all rest (i+1) (P5 (N5 all f o t) o.dst v) pd (⟨i,pre,false,false,.free,[],false⟩::es)
    else bif Nat.beq (c6 o.op) 1 then a7 (quiet (sop P U call (N5 all f o t) o.op)) fun v => a7 (liveR (as5 P (N5 all f o t) o.op)) fun _ =>
      bif vok 1000 v&&es.all (V5 pre (as5 P (N5 all f o t) o.op))then sgo call nt all rest (i+1) (P5 (N5 all f o t) o.dst v) pd (⟨i,pre,false,true,as5 P (N5 all f o t) o.op,[],false⟩::es)
      else a6 "a region: a read"
    else bif Nat.beq (c6 o.op) 2 then match snw P (N5 all f o t) o.op with
     |some (x,mk)=>a7 mpend fun b=>sgo call nt all rest (i+1) (P5 (N5 all f o t) o.dst (mk b)) (⟨b,i,x⟩::pd) (⟨i,pre,false,false,.free,[],false⟩::es)
     |none=>a6 "a region: a new block"
    else bif pd.all (fun p => pre.testBit p.i) then
      i7 fun s0=>a7 (bn8 pd) fun _=>a7 (bm2 s0.h.length (sop P U call (N5 all f o t) o.op)) fun r=>a7 (liveR (ag9 P s0 (N5 all f o t) o.op)) fun _=>
       bif es.all (Y0 pre r.2.1 (ag9 P s0 (N5 all f o t) o.op))then sgo call nt all rest (i+1) (P5 (N5 all f o t) o.dst r.1) [] (⟨i,pre,true,false,ag9 P s0 (N5 all f o t) o.op,r.2.1,r.2.2⟩::es)else a6 "a region: a write"
     else a6 "a region: blocks that wait"
   else bif bm0 o&& !(es.all (Y0 pre [] .free))then a6 "a region: not wanted" else
    sgo call nt all rest (i+1) (P5 (N5 all f o t) o.dst (.tup [])) pd (⟨i,pre,bm0 o,false,.free,[],false⟩::es)
  else a6 "a region: slot"
def ao0 (call:B3)(nt:Nat):ae6:=fun all f=>
 bif stat all (p9 all [])then a7 (sgo P U call nt all (all.zip (p9 all [])) 0 f [] []) fun r=>a7 (bn8 r.2) fun _=>b9 r.1
 else a6 "a region: order"
def bb0 (s:SS)(b:Nat):Bool:=(s.get b).isSome
def twoB (a a':Operand)(f:Fm):M Fm:=i7 fun s=>match f6 f a,f6 f a' with
 |some (.ptr b _ _ _),some (.ptr b' _ _ _)=>bif !(Nat.beq b b')&&bb0 s b&&bb0 s b' then b9 f else a6 "a region: two stores"
 |_,_=>a6 "a region: two stores"
def aQ7 (call : B3) (nt : Nat) : ae6 := fun all f =>
 bif stat all (p9 all []) then ao0 P U call nt all f else match an1 all with
  | some (x, y) => bif av1 0 all && Nat.blt x all.length && Nat.blt y all.length && !(Nat.beq x y) then
    match an6 (c7 all.toArray x y .data).toList (moveLast (c7 all.toArray y x .data) x).toList x y with
    | some (a, a') => fun s => .both ((ao0 P U call nt (moveLast (c7 all.toArray y x .data) x).toList f s).bind fun _ => .done)
      (a7 (ao0 P U call nt (c7 all.toArray x y .data).toList f) (twoB a a') s)
    |none=>a6 "a region: order"
   else a6 "a region: order"
  |none=>a6 "a region: order"
end
section
variable {P :Program}{U:Nat->List Dat->Dat}{ov:FuncId->Option TypeId}{nt:Nat}
variable {call :c8}{all:List Oper}{nx0:Nat}{o:Oper}{pre:Nat}{rest:List (Oper×Nat)}{i:Nat}{tm:T Value}{S:Hp}{I:Nat}{es:List Ent}
theorem bz9 (hd:l5 nt o.dst=true)(d:f8 all tm o=false):xgo P call nt all nx0 ((o,pre)::rest) i tm S I es=xgo P call nt all nx0 rest (i+1) (j2 tm o.dst undef) S I (⟨i,o,pre,tm,S,S,I,false,undef,none⟩::es):=by
 rw[xgo,hd,bB8,d,bB9]
variable {v:Value}{S':Hp}
theorem xgo_0 (hd : l5 nt o.dst = true) ( d : f8 all tm o = true) (hk : c6 o.op = 0)   (hx : xop P call tm S o.op = some (v, S')) :
  xgo P call nt all nx0 ((o,pre)::rest) i tm S I es=xgo P call nt all nx0 rest (i+1) (j2 tm o.dst v) S I (⟨i,o,pre,tm,S,S,I,true,v,none⟩::es):=by
 rw[xgo,hd,bB8,d,bB8,hk]
 grind
theorem xgo_1 (hd : l5 nt o.dst = true) ( d : f8 all tm o = true) (hk : c6 o.op = 1)  (hx : xrd P tm S o.op = some v) :
  xgo P call nt all nx0 ((o,pre)::rest) i tm S I es=xgo P call nt all nx0 rest (i+1) (j2 tm o.dst v) S I (⟨i,o,pre,tm,S,S,I,true,v,none⟩::es):=by
 rw[xgo,hd,bB8,d,bB8,hk]
 grind
theorem xgo_2 (hd : l5 nt o.dst = true) ( d : f8 all tm o = true) (hk : c6 o.op = 2) {n : Nw} (hx : xnw P tm o.op = some n) :
  xgo P call nt all nx0 ((o,pre)::rest) i tm S I es=xgo P call nt all nx0 rest (i+1) (j2 tm o.dst (n.val (nx0+i))) S I (⟨i,o,pre,tm,S,S,I,true,n.val (nx0+i),some n⟩::es):=by
 rw[xgo,hd,bB8,d,bB8,hk]
 grind
theorem xgo_3 (hd : l5 nt o.dst = true) ( d : f8 all tm o = true) (hk : c6 o.op = 3)   (hx : xop P call tm (takes nx0 (ae3 pre I) es S) o.op = some (v, S')) :
  xgo P call nt all nx0 ((o,pre)::rest) i tm S I es=xgo P call nt all nx0 rest (i+1) (j2 tm o.dst v) S' (I|||pre) (⟨i,o,pre,tm,S,S',I,true,v,none⟩::es):=by
 rw[xgo,hd,bB8,d,bB8,hk]
 grind
theorem m8 {α d:Type}{m:M α}{k:α->M d}{s:SS}{Q:d×SS->Prop}:(a7 m k s).vc U Q↔(m s).vc U fun r=>(k r.1 r.2).vc U Q:=by
 unfold a7;exact Tr.vc_bind _ _ _ _
theorem aP8 {α:Type}{m:M α}{s:SS}{Q:α×SS->Prop}(h:(quiet m s).vc U Q):(m s).vc U fun r=>Q r/\r.2.h.length=s.h.length/\r.2.nx=s.nx:=by
 unfold quiet at h;rw[Tr.vc_bind]at h;refine Tr.vc_mono _ _ (fun r hr=>?_) h
 cases hb:Nat.beq r.2.h.length s.h.length&&Nat.beq r.2.nx s.nx with
 |false=>rw[hb]at hr;exact hr.elim
 |true=>
  rw[hb]at hr;rw[bA2]at hb;exact⟨hr,bA6 hb.1,bA6 hb.2⟩
variable {τ :Tau}{F:Nat->Option Blk}{s:SS}
theorem Ext.quiet {τ':Tau}{F':Nat->Option Blk}{s':SS}(ex:Ext τ F s S τ' F' s' S')(hs:SD P U τ F s S)(d:SD P U τ' F' s' S')(g:S'=S)(hh:s'.h.length=s.h.length)(hn:s'.nx=s.nx):τ'=τ/\F'=F/\s'.h=s.h:=by
 obtain⟨l,a1,_,_,a4,_⟩:=ex.hh;have hl:l=[]:=by
  cases l with
  |nil=>rfl
  |cons x l=>rw[a1]at hh;simp at hh;omega
 subst hl;refine⟨funext fun b=>?_,funext fun j=>?_,by simpa using a1⟩
 ·by_cases hb:b<s.nx
  ·exact ex.st b hb
  ·rw[hs.new b (by omega),d.new b (by omega)]
 ·cases hq:F' j with
  |none=>
   cases e:F j with
   |none=>rfl
   |some y=>rw[ex.f j y e]at hq;cases hq
  |some y=>
   rcases a4 j y (by rw[<-g];exact d.flt j y hq) hq with h1| ⟨b,o,_,h1⟩
   ·rw[h1]
   ·simp at h1
theorem bt3 {vt:TypeId}{d:E}(h:be3 P vt=some d):∃z,E1 P vt=some z/\as4 (some z)=true/\PV P F (kd1 P vt) z (d.den U):=by
 unfold be3 at h;split at h
 ·rename_i z hz
  obtain⟨zv,j,m⟩:=H8 (U:=U) (τ:=fun _=>none) (F:=F) hz
  obtain⟨p,r,k,n,q⟩:=m.uncons;cases e:as4 (E1 P vt)with
  |false=>grind
  |true=>
   rw[e,bB8]at h;rw[j]at e;have g:zv=p:=by
    have hc:zv.cells.toList=[zv]:=by
     unfold as4 at e;split at e
     ·rename_i h;cases h;rfl
     ·rename_i h;cases h;rfl
     ·rename_i h;cases h;rfl
     ·cases e
    grind
   subst g;exact⟨zv,j,e,Q2 n h⟩
 ·cases h
theorem bi5 {s0 : SS} {f : Fm} {o : Op} {t : TypeId} {b : Nat}   (h : ag9 P s0 f o = .mlk t b) (ht : TD P U τ F f tm) (hs : SD P U τ F s S) (hb : s.get b = s0.get b) (hx : xop P call tm S o = some (v, S')) :
  ∃x j q,s0.get b=some x/\τ b=some (some (j,q))/\MS P t j S S':=by
 unfold ag9 at h;split at h
 ·rename_i t' m k
  split at h
  ·rename_i b' hm
   split at h
   ·rename_i L C G kt vt B r
    cases hc:aj3 P t' f k&&Nat.beq kt C&&Nat.beq vt G&&(be3 P vt).isSome with
    |false=>rw[hc]at h;cases h
    |true=>
     rw[hc]at h;cases h;simp only[bA2,bE1]at hc;obtain⟨⟨⟨R,rfl⟩,rfl⟩,V⟩:=hc;obtain⟨mv,X,Y⟩:=o7 ht hm;cases Y with
     |map _ i q u=>
      simp only[a9,d9,X]at hx;cases g:a8 tm k with
      |none=>rw[g]at hx;cases hx
      |some kv=>
      rw[g]at hx;simp only at hx;obtain⟨W,aa,sh,ks,k1,k2,k3,rfl⟩:=ba8 ht g R;rw[r]at k1;cases k1;obtain⟨d,hd⟩:∃d,P.underlying kt=some d:=by
       cases h:P.underlying kt with
       |none=>unfold J6 at k2;rw[h]at k2;cases k2
       |some d=>exact⟨d,rfl⟩
      obtain⟨M,A⟩:=Option.isSome_iff_exists.1 V;obtain⟨z,J,O,K⟩:=bt3 (U:=U) (F:=F) A;rw[<-hb]at B
      rcases hs.live b _ B with⟨i',o',y,h1,h2,_,h0,es,reg,rfl,p,h3⟩| ⟨_,L',e',z',Z,h2,_⟩
      ·rw[u]at h1
       simp only[bA1,bA3]at h1;obtain⟨rfl,rfl⟩:=h1;subst p;refine⟨_,i,q,by rw[<-hb];exact B,u,?_⟩
       obtain⟨find,n,e⟩:=av8 hd k2 k3
       rcases G5 k2 k3 n K (M.den U) (L.toR U) es 0 h3 with⟨q1,q2,D,N,E⟩| ⟨q1,x,y,q2,D,N,q6,_⟩
       ·simp only[D9,r,hd,h2,e,q2,J,bA1,bA3]at hx
        exact aN0 r hd k2 J O K h2 (by rw[<-hx.2];exact(by show(S.m.set i _).get i=_;rw[T.get_set,bC3 rfl])) h3 (by rw[D];exact E) k3
       ·rw[bD3]at q2
        rcases G5 k2 k3 n D (M.den U) (L.toR U) es 0 h3 with⟨w1,_⟩| ⟨_,_,_,_,_,_,_,E⟩
        ·rw[w1]at q1;cases q1
        simp only[D9,r,hd,h2,e,q2,N,bA1,bA3]at hx;rw[q6]at hx;exact aN0 r hd k2 J O K h2 (by rw[<-hx.2];exact(by show(S.m.set i _).get i=_;rw[T.get_set,bC3 rfl])) h3 E k3
      ·cases h2
   ·cases h
  ·cases h
 ·cases h
variable (P U ov nt) in
def bk3 (all:List Oper)(τ0:Tau)(F0:Nat->Option Blk)(s0:SS)(hp0:Hp)(rest:List (Oper×Nat))(i:Nat)(tm:T Value)(S:Hp)(I:Nat)(esX:List Ent)(f:Fm)(Q:(Fm×List Pd)×SS->Prop):Prop:=
 ∃f' pd' s',Q ((f',pd'),s')/\ ∃τ' F' out es',(EV fun m=>xgo P (exec P ov m) nt all hp0.nx rest i tm S I esX=some out)/\
  DA P U τ0 F0 s0 hp0 all.length all.length τ' F' s' out.S f' out.tm pd' out.es out.I/\DB P ⟨hp0.m,hp0.nx+all.length⟩ all.length τ' F' s' out.S es' out.es/\ ∃pr,f'=pr++f
theorem ao2 {call : B3} (    z : s7 P U ov call) {all : List Oper} {τ0 : Tau} {F0 : Nat → Option Blk} {s0 : SS} {hp0 : Hp} : ∀ (rest : List (Oper × Nat)) (i : Nat) (τ : Tau) (F : Nat → Option Blk) (s : SS) (S : Hp) (f : Fm) (tm : T Value) (pd : List Pd) (es : List En) (esX : List Ent) (I : Nat),
  DA P U τ0 F0 s0 hp0 all.length i τ F s S f tm pd esX I->DB P ⟨hp0.m,hp0.nx+all.length⟩ i τ F s S es esX->i+rest.length=all.length->
  ∀Q,(sgo P U call nt all rest i f pd es s).vc U Q->bk3 P U ov nt all τ0 F0 s0 hp0 rest i tm S I esX f Q
 | [],i,τ,F,s,S,f,tm,pd,es,esX,I,d,hb,hi,Q,hq=>by
  have e:i=all.length:=by grind
  subst e;exact⟨f,pd,s,hq,τ,F,⟨tm,S,I,esX⟩,es,EV.of fun m=>rfl,d,hb,[],rfl⟩
 | (o, pre) :: rest, i, τ, F, s, S, f, tm, pd, es, esX, I,  d, hb, hi, Q, hq => by
  have ba:i<all.length:=by grind
  have M:i+1+rest.length=all.length:=by grind
  unfold sgo at hq;cases hd:l5 nt o.dst&&Nat.blt pre (2^i)with
  |false=>rw[hd]at hq;exact hq.elim
  | true =>
   rw[hd,bB8,m8]at hq;rw[bA2]at hd;have ao:pre<2^i:=bA5 hd.2;obtain⟨t,s1,hq,C,ax,hw⟩:=az6 d.td all o (s:=s) _ hq d.sd.fc;have d:=d.fr (bc1 d.td hw);obtain⟨p0,W⟩:=aP9 all f o t;have V:bk3 P U ov nt all τ0 F0 s0 hp0 ((o,pre)::rest) i tm S I esX (N5 all f o t) Q->bk3 P U ov nt all τ0 F0 s0 hp0 ((o,pre)::rest) i tm S I esX f Q:=
    fun⟨f',al,s',h1,τ',F',ak,X,h2,h3,h4,pr,h5⟩=>⟨f',al,s',h1,τ',F',ak,X,h2,h3,h4,pr++p0,by rw[h5,W,bB5]⟩
   refine V ?_;clear V W p0;generalize N5 all f o t=f at hq d ⊢;have A:=d.sd.only C ax;have   K : ∀ {a : SV} {v : Value} {S' : Hp} {I' : Nat} {eX : Ent}, (EV fun m => xgo P (exec P ov m) nt all hp0.nx ((o, pre) :: rest) i tm S I esX = xgo P (exec P ov m) nt all hp0.nx rest (i + 1) (j2 tm o.dst v) S' I' (eX :: esX)) →
     bk3 P U ov nt all τ0 F0 s0 hp0 rest (i+1) (j2 tm o.dst v) S' I' (eX::esX) (P5 f o.dst a) Q->bk3 P U ov nt all τ0 F0 s0 hp0 ((o,pre)::rest) i tm S I esX f Q:=by
    intro a v S' I' eX he ⟨f',al,s',h1,τ',F',ak,X,h2,h3,h4,pr,h5⟩;obtain⟨p,hp⟩:=aP6 f o.dst a;exact⟨f',al,s',h1,τ',F',ak,X,(he.and h2).mono fun m ⟨k1,k2⟩=>by rw[k1];exact k2,h3,h4,pr++p,by rw[h5,hp,bB5]⟩
   have ab:∀b x,s.get b=some x->τ b=τ b:=fun _ _ _=>rfl
   cases t with
   |false=>
    rw[bB9]at hq;cases hc:bm0 o&& !(es.all (Y0 pre [] .free))with
    |true=>rw[hc]at hq;exact hq.elim
    |false=>
     rw[hc,bB9]at hq;have hk:∀h:bm0 o=true,es.all (Y0 pre [] .free)=true:=fun h=>by
      grind
     have Y:∀b,s1.get b=s.get b:=C.get;have E:=d.keep hb.xi (eX:=⟨i,o,pre,tm,S,S,I,false,undef,none⟩) A (d.td.put (.tup [] [] rfl (fun i a x h _=>by simp at h)) o.dst) C.h C.nx (Ext.only d.sd C) rfl rfl
     have G:=hb.step (en:=⟨i,pre,bm0 o,false,.free,[],false⟩) (eX:=⟨i,o,pre,tm,S,S,I,false,undef,none⟩) (τ':=τ) (F':=F) (s':=s1) (S':=S) (Tle.refl τ) (Fle.refl F) ab d.sd.frz (fun _ _ _ h=>h)
      (fun b _=>Y b) (fun _ _ _ _ _ _ _=>rfl) rfl rfl rfl rfl rfl (fun _=>⟨rfl,rfl⟩) hk (fun _ _ _ h=>by cases h) (fun h _=>by cases h)
     exact K (EV.of fun m=>bz9 hd.1 hw) (ao2 z rest (i+1) τ F s1 S _ _ pd _ _ I E G M Q hq)
   |true=>
    rw[bB8]at hq;have bb:c6 o.op=0\/c6 o.op=1\/c6 o.op=2\/c6 o.op=3:=by have:=aj8 o.op;omega
    rcases bb with hk|hk|hk|hk<;>rw[hk]at hq
    ·rw[show Nat.beq 0 0=true from rfl,bB8,m8]at hq
     obtain⟨a,s2,⟨hq,h1,h2⟩,τ',F',S',ex,B,v,hx,hv⟩:=aJ9 z (d.td) A o.op _ (aP8 hq) A;obtain⟨O,D⟩:=hx;have D:∀m,O<=m->xop P (exec P ov m) tm S o.op=some (v,S'):=D;obtain⟨r,hr⟩:=aB2 (P:=P) (call:=exec P ov O) (tm:=tm) hk;have hS:S'=S:=by have:=D O (bC4 _);rw[hr]at this;exact(e9 this).2
     obtain⟨rfl,rfl,h3⟩:=ex.quiet A B hS h1 h2;subst hS;have hh:s2.h=s.h:=by rw[h3,C.h]
     have hn:s2.nx=s.nx:=by rw[h2,C.nx]
     have Y:∀b,s2.get b=s.get b:=fun b=>by unfold SS.get;rw[hh]
     have E:=d.keep hb.xi (eX:=⟨i,o,pre,tm,S',S',I,true,v,none⟩) B (d.td.put hv o.dst) hh hn ((Ext.only d.sd C).trans ex) rfl rfl;have G:=hb.step (en:=⟨i,pre,false,false,.free,[],false⟩) (eX:=⟨i,o,pre,tm,S',S',I,true,v,none⟩) (τ':=τ') (F':=F') (s':=s2) (S':=S') (Tle.refl _) (Fle.refl _) ab d.sd.frz (fun _ _ _ h=>h)
      (fun b _=>Y b) (fun _ _ _ _ _ _ _=>rfl) rfl rfl rfl (by show false=isW _;unfold isW;rw[show c6 o.op=0 from hk];rfl) rfl (fun _=>⟨rfl,rfl⟩) (fun h=>by unfold isW at h;rw[show c6 o.op=0 from hk]at h;cases h) (fun h=>by cases h) (fun _ h=>by rw[show c6 o.op=0 from hk]at h;cases h)
     exact K ⟨O,fun m hm=>xgo_0 hd.1 hw hk (D m hm)⟩ (ao2 z rest (i+1) _ _ s2 S' _ _ pd _ _ I E G M Q hq)
    ·rw[show Nat.beq 1 0=false from rfl,show Nat.beq 1 1=true from rfl,bB9,bB8,m8]at hq
     obtain⟨a,s2,⟨hq,h1,h2⟩,τ',F',S',ex,B,v,hx,hv⟩:=aJ9 z (d.td) A o.op _ (aP8 hq) A;obtain⟨O,D⟩:=hx;obtain⟨hS,bg⟩:=bA0 hk (D O (bC4 _));obtain⟨rfl,rfl,h3⟩:=ex.quiet A B hS h1 h2;subst hS;have hh:s2.h=s.h:=by rw[h3,C.h]
     have hn:s2.nx=s.nx:=by rw[h2,C.nx]
     have Y:∀b,s2.get b=s.get b:=fun b=>by unfold SS.get;rw[hh]
     have bh:=bv2 d.td A (D O (bC4 _));rw[m8]at hq;have J:(∀b,(as5 P f o.op= .blk b\/ ∃t,as5 P f o.op= .mlk t b)-> ∃x,s.get b=some x)/\Tr.vc U ((bif vok 1000 a&&es.all (V5 pre (as5 P f o.op))then sgo P U call nt all rest (i+1) (P5 f o.dst a) pd (⟨i,pre,false,true,as5 P f o.op,[],false⟩::es)
      else a6 "a region: a read") s2) Q:=by
      cases ae:as5 P f o.op with
      |blk b=>
       rw[ae]at hq;simp only[liveR,i7]at hq;cases n:s2.get b with
       |none=>rw[n]at hq;exact hq.elim
       |some x=>rw[n]at hq;exact⟨fun b' e=>by rcases e with e| ⟨_,e⟩<;>cases e;exact⟨x,by rw[<-Y];exact n⟩,hq⟩
      |mlk tt b=>
       rw[ae]at hq;simp only[liveR,i7]at hq;cases n:s2.get b with
       |none=>rw[n]at hq;exact hq.elim
       |some x=>rw[n]at hq;exact⟨fun b' e=>by rcases e with e| ⟨_,e⟩<;>cases e;exact⟨x,by rw[<-Y];exact n⟩,hq⟩
      |_=>rw[ae]at hq;exact⟨fun b' e=>(by rcases e with e| ⟨_,e⟩<;>cases e),hq⟩
     obtain⟨J,hq⟩:=J;cases hc:vok 1000 a&&es.all (V5 pre (as5 P f o.op))with
     |false=>rw[hc]at hq;exact hq.elim
     |true=>
      rw[hc,bB8]at hq;rw[bA2]at hc;have E:=d.keep hb.xi (eX:=⟨i,o,pre,tm,S',S',I,true,v,none⟩) B (d.td.put hv o.dst) hh hn ((Ext.only d.sd C).trans ex) rfl rfl;have G:=hb.step (en:=⟨i,pre,false,true,as5 P f o.op,[],false⟩) (eX:=⟨i,o,pre,tm,S',S',I,true,v,none⟩) (τ':=τ') (F':=F') (s':=s2) (S':=S') (Tle.refl _) (Fle.refl _) ab d.sd.frz (fun _ _ _ h=>h)
       (fun b _=>Y b) (fun _ _ _ _ _ _ _=>rfl) rfl rfl rfl (by show false=isW _;unfold isW;rw[show c6 o.op=1 from hk];rfl) rfl (fun _=>⟨rfl,rfl⟩) (fun h=>by unfold isW at h;rw[show c6 o.op=1 from hk]at h;cases h) (fun h=>by cases h)
       (fun _ _=>⟨aR9 1000 a v hc.1 hv,rfl,rfl,bh,J,hc.2⟩)
      refine K ⟨O,fun m hm=>xgo_1 hd.1 hw hk bg⟩ (ao2 z rest (i+1) _ _ s2 S' _ _ pd _ _ I E G M Q hq)
    ·rw[show Nat.beq 2 0=false from rfl,show Nat.beq 2 1=false from rfl,show Nat.beq 2 2=true from rfl,bB9,bB9,bB8]at hq
     cases ad:snw P f o.op with
     |none=>rw[ad]at hq;exact hq.elim
     |some xm=>
      obtain⟨x,mk⟩:=xm;rw[ad]at hq;obtain⟨nw,hx,av,au⟩:=bz2 (U:=U) d.td ad;have hq:(sgo P U call nt all rest (i+1) (P5 f o.dst (mk s1.nx)) (⟨s1.nx,i,x⟩::pd) (⟨i,pre,false,false,.free,[],false⟩::es) (aR7 s1)).vc U Q:=hq;have L:DA P U τ0 F0 s0 hp0 all.length i τ F s1 S f tm pd esX I:=
       ⟨A,d.td,d.ext.trans (Ext.only d.sd C),d.room,d.ib,d.xd,d.pn,fun p hp=>let k:=d.pds p hp;⟨k.lt,k.un,by rw[C.get];exact k.g,k.lo,by rw[C.nx];exact k.hi,k.t,k.f,k.u,k.e⟩,d.cl,d.tk⟩
      have h0:τ s1.nx=none:=A.new _ (bC4 _);have ac:=an7 (τ:=τ) (some (hp0.nx+i,0)) h0;have E:=L.pend hb.xi ba (eX:=⟨i,o,pre,tm,S,S,I,true,nw.val (hp0.nx+i),some nw⟩) (x:=x) (nw:=nw) ((d.td.mono ac (Fle.refl F)).put (au _ s1.nx (hp0.nx+i) (j9 _ _ _)) o.dst) (av _ ac) rfl rfl;have G:=hb.step (en:=⟨i,pre,false,false,.free,[],false⟩) (eX:=⟨i,o,pre,tm,S,S,I,true,nw.val (hp0.nx+i),some nw⟩) (τ':=put τ s1.nx (some (hp0.nx+i,0))) (F':=F) (s':=aR7 s1) (S':=S) ac (Fle.refl _)
       (fun b y hb=>v7 τ _ (by have:=d.sd.bound hb;rw[C.nx];omega)) d.sd.frz (fun _ _ _ h=>h)
       (fun b _=>C.get b) (fun _ _ _ _ _ _ _=>rfl) rfl rfl rfl (by show false=isW _;unfold isW;rw[show c6 o.op=2 from hk];rfl) rfl (fun _=>⟨rfl,rfl⟩) (fun h=>by unfold isW at h;rw[show c6 o.op=2 from hk]at h;cases h) (fun h=>by cases h) (fun _ h=>by rw[show c6 o.op=2 from hk]at h;cases h)
      exact K (EV.of fun m=>xgo_2 hd.1 hw hk hx) (ao2 z rest (i+1) _ _ _ S _ _ _ _ _ I E G M Q hq)
    ·rw[show Nat.beq 3 0=false from rfl,show Nat.beq 3 1=false from rfl,show Nat.beq 3 2=false from rfl,bB9,bB9,bB9]at hq
     cases hc:pd.all (fun p=>pre.testBit p.i)with
     |false=>rw[hc]at hq;exact hq.elim
     |true=>
      rw[hc,bB8]at hq;rw[bD1]at hc;have L:DA P U τ0 F0 s0 hp0 all.length i τ F s1 S f tm pd esX I:=
       ⟨A,d.td,d.ext.trans (Ext.only d.sd C),d.room,d.ib,d.xd,d.pn,fun p hp=>let k:=d.pds p hp;⟨k.lt,k.un,by rw[C.get];exact k.g,k.lo,by rw[C.nx];exact k.hi,k.t,k.f,k.u,k.e⟩,d.cl,d.tk⟩
      have aq:∀e∈esX,e.nw≠none->(ae3 pre I e.i=true↔ ∃p∈pd,p.i=e.i):=by
       intro e he be;unfold ae3;rw[bA2,bE7]
       constructor
       ·rintro ⟨_,h2⟩;exact d.tk e he be h2
       ·rintro ⟨p,hp,h2⟩;rw[<-h2];exact⟨hc p hp,(d.pds p hp).un⟩
      obtain⟨t1,t2,t3,t4⟩:=L.take (ae3 pre I) aq;simp only[i7]at hq;rw[m8]at hq;generalize ah:ag9 P s1 f o.op=so at hq;have hq:(a7 (bm2 s1.h.length (sop P U call f o.op)) (fun r=>a7 (liveR so) fun _=>bif es.all (Y0 pre r.2.1 so)then sgo P U call nt all rest (i+1) (P5 f o.dst r.1) [] (⟨i,pre,true,false,so,r.2.1,r.2.2⟩::es)else a6 "a region: a write") (Y3 s1 pd)).vc U Q:=hq
      rw[m8]at hq;unfold bm2 at hq;rw[Tr.vc_bind]at hq;obtain⟨a,s2,hq,τ',F',S',ex,B,v,hx,hv⟩:=aJ9 z d.td t1 o.op _ hq t1;obtain⟨l,a1,a2,a3,a4,a5⟩:=ex.hh;have aa:H5 (s2.h.length-s1.h.length) s2.h=(l++tkl pd).map Prod.fst:=by
       have:s2.h=(l++tkl pd)++s1.h:=by rw[a1,bB5];rfl
       rw[this,bC8,Nat.add_sub_cancel,aq5]
      have hq:(a7 (liveR so) (fun _=>bif es.all (Y0 pre (H5 (s2.h.length-s1.h.length) s2.h) so)then sgo P U call nt all rest (i+1) (P5 f o.dst a) [] (⟨i,pre,true,false,so,H5 (s2.h.length-s1.h.length) s2.h,aq4 (s2.h.length-s1.h.length) s2.h⟩::es)else a6 "a region: a write") s2).vc U Q:=hq
      rw[m8]at hq;have J:(∀t b,so= .mlk t b-> ∃x,s2.get b=some x)/\((bif es.all (Y0 pre (H5 (s2.h.length-s1.h.length) s2.h) so)then sgo P U call nt all rest (i+1) (P5 f o.dst a) [] (⟨i,pre,true,false,so,H5 (s2.h.length-s1.h.length) s2.h,aq4 (s2.h.length-s1.h.length) s2.h⟩::es)else a6 "a region: a write") s2).vc U Q:=by
       cases so with
       |blk b=>
        simp only[liveR,i7]at hq;cases n:s2.get b with
        |none=>rw[n]at hq;exact hq.elim
        |some x=>rw[n]at hq;exact⟨fun _ _ e=>(by cases e),hq⟩
       |mlk tt b=>
        simp only[liveR,i7]at hq;cases n:s2.get b with
        |none=>rw[n]at hq;exact hq.elim
        |some x=>rw[n]at hq;exact⟨fun _ _ e=>(by cases e;exact⟨x,n⟩),hq⟩
       |free=>exact⟨fun _ _ e=>(by cases e),hq⟩
       |frz=>exact⟨fun _ _ e=>(by cases e),hq⟩
       |bad=>exact⟨fun _ _ e=>(by cases e),hq⟩
      obtain⟨J,hq⟩:=J;rw[aa]at hq;cases R:es.all (Y0 pre ((l++tkl pd).map Prod.fst) so)with
      |false=>rw[R]at hq;exact hq.elim
      |true=>
       rw[R,bB8]at hq;have E:=L.write hb.xi ao hc t3 t2 ex B ((d.td.mono ex.t ex.f).put hv o.dst) (eX:=⟨i,o,pre,tm,S,S',I,true,v,none⟩) rfl rfl;have az:∀b,b∉(l++tkl pd).map Prod.fst->s2.get b=s.get b:=by
        intro b hb;have:s2.h=(l++tkl pd)++s.h:=by rw[a1,bB5,<-C.h];rfl
        unfold SS.get;rw[this,at8 _ _ hb]
       have bi:∀b x j q,s.get b=some x->τ b=some (some (j,q))->b∉(l++tkl pd).map Prod.fst->S'.m.get j=S.m.get j:=by
        intro b x j q n aj bm;have N:∀p∈pd,b≠p.b:=by
         intro p hp e;rw[e,(d.pds p hp).g]at n;cases n
        have Z:∀p∈pd,j≠hp0.nx+p.i:=by
         intro p hp e;subst e;exact N p hp ((d.pds p hp).u b q aj)
        have ay:(Y3 s1 pd).get b=some x:=by rw[Q1 N,C.get];exact n
        rw[a2 j (by rw[t3];exact d.sd.lt b j q aj) (fun b' y q' e1 e2 e3=>?_),t4 j Z]
        by_cases eb:b'=b
        ·grind
        ·exact t1.inj b' b y x j q' j q e1 ay eb e2 aj rfl
       have aw:(isW (⟨i,o,pre,tm,S,S',I,true,v,none⟩:Ent)=true->aq4 (s2.h.length-s1.h.length) s2.h=false)-> ∀j y,F' j=some y->F j=some y:=fun hq=>by
        have hn:=hq (by unfold isW;rw[show c6 o.op=3 from hk];rfl)
        have e2:s2.h=(l++tkl pd)++s1.h:=by rw[a1,bB5];rfl
        rw[e2,bC8,Nat.add_sub_cancel]at hn;exact a5 fun p hp=>bg3 _ _ hn p (bJ0 _ hp)
       obtain⟨O,D⟩:=hx;have ai:∀tt b,ar1 so (.mlk tt b)=true-> ∃x x' j q,s.get b=some x/\s2.get b=some x'/\τ b=some (some (j,q))/\MS P tt j S S':=by
        intro tt b ap;have e:so= .mlk tt b:=by
         clear ah hq J R;cases so with
         |mlk t2 b2=>
          simp only[ar1,bA2,bE1]at ap
          grind
         |_=>cases ap
        obtain⟨x',bj⟩:=J tt b e;have bc:∃x,s1.get b=some x:=by
         rw[<-ah]at e;unfold ag9 at e;split at e
         ·split at e
          ·grind
          ·cases e
         ·cases e
        obtain⟨x1,bk⟩:=bc;have N:∀p∈pd,b≠p.b:=by
         intro p hp e;have:=(L.pds p hp).g;rw[<-e,bk]at this;cases this
        obtain⟨x,j,q,g1,g2,g3⟩:=bi5 (s0:=s1) (ah.trans e) d.td t1 (by rw[Q1 N]) (D O (bC4 _))
        have Z:∀p∈pd,j≠hp0.nx+p.i:=by
         intro p hp e;subst e;exact N p hp ((d.pds p hp).u b q g2)
        exact⟨x,x',j,q,by rw[<-C.get];exact g1,bj,g2,(MS.of (t4 j Z)).trans g3⟩
       have G:=hb.step (en:=⟨i,pre,true,false,so,(l++tkl pd).map Prod.fst,aq4 (s2.h.length-s1.h.length) s2.h⟩) (eX:=⟨i,o,pre,tm,S,S',I,true,v,none⟩) (τ':=τ') (F':=F') (s':=s2) (S':=S') ex.t ex.f
        (fun b y n=>ex.st b (by have:=d.sd.bound n;show b<s1.nx;rw[C.nx];exact this)) B.frz aw az bi rfl rfl rfl (by show true=isW _;unfold isW;rw[show c6 o.op=3 from hk];rfl) rfl
        (fun h=>by unfold isW at h;rw[show c6 o.op=3 from hk]at h;cases h) (fun _=>R) (fun _=>ai) (fun _ h=>by rw[show c6 o.op=3 from hk]at h;cases h)
       exact K ⟨O,fun m hm=>xgo_3 hd.1 hw hk (D m hm)⟩ (ao2 z rest (i+1) _ _ _ S' _ _ _ _ _ _ E G M Q hq)
theorem ao1 {call : B3} (    u : s7 P U ov call) (all : List Oper) (f : Fm) (τ : Tau) (F : Nat → Option Blk) (s : SS) (hp : Hp) (tm : T Value) (ht : TD P U τ F f tm) (hs : SD P U τ F s hp) :
  OKh P U (ao0 P U call nt all f) τ F s hp fun B τ' F' hp'=>∃tm',(EV fun n=>F8 P (exec P ov n) nt all tm hp=some (tm',hp'))/\TD P U τ' F' B tm'/\ ∃pre,B=pre++f:=by
 intro Q hq _;unfold ao0 at hq;cases r:stat all (p9 all [])with
 |false=>rw[r]at hq;exact hq.elim
 |true=>
  rw[r,bB8,m8]at hq;have A:(all.zip (p9 all [])).length=all.length:=by
   have:=r;simp only[stat,bA2]at this;have:=bA6 this.1.1;rw[List.length_zip,this,Nat.min_self]
  have L:SD P U τ F s ⟨hp.m,hp.nx+all.length⟩:=⟨hs.live,hs.inj,hs.frz,fun b i o h=>bF3 (hs.lt b i o h) (Nat.le_add_right _ _),fun i b h=>bF3 (hs.flt i b h) (Nat.le_add_right _ _),hs.new,hs.fc,hs.fz⟩
  have D:Ext τ F s hp τ F s ⟨hp.m,hp.nx+all.length⟩:=⟨Tle.refl τ,Fle.refl F,Nat.le_add_right _ _,bC4 _,fun _ _=>rfl,fun b x hb _=>⟨x,hb⟩,
   ⟨[],rfl,fun _ _ _=>rfl,fun b i o hb ht=>(by rw[hs.new b hb]at ht;cases ht),fun _ _ _ h=>.inl h,fun _ _ _ h=>h⟩,⟨[],rfl⟩,⟨[],rfl,fun _ _ _ _ _ _ cs _ _ _ _ V _=>⟨cs,V,fun _ _=>rfl⟩⟩⟩
  have R:DA P U τ F s hp all.length 0 τ F s ⟨hp.m,hp.nx+all.length⟩ f tm [] [] 0:=by
   refine⟨L,ht,D,bC4 _,fun j _=>Nat.zero_testBit j,.nil,.nil,fun p hp=>by simp at hp,fun j _ _=>⟨fun c o hc=>?_,?_⟩,fun e he=>by simp at he⟩
   ·have:=hs.lt c _ o hc;omega
   ·cases hF:F (hp.nx+j)with
    |none=>rfl
    |some y=>have:=hs.flt _ y hF;omega
  have hb:DB P ⟨hp.m,hp.nx+all.length⟩ 0 τ F s ⟨hp.m,hp.nx+all.length⟩ [] []:=by
   refine⟨fun e he=>by simp at he,fun e he=>by simp at he,fun e he=>by simp at he,fun e he=>by simp at he,fun k Sk g b x j o _ _ _=>?_,fun k Sk g _ j y hj=>?_,fun e he=>by simp at he,fun t k Sk g b x j o _ _ _=>?_⟩
   ·rcases g with⟨_,rfl⟩| ⟨x,hx,_⟩
    ·rfl
    ·simp at hx
   ·rcases g with⟨_,rfl⟩| ⟨x,hx,_⟩
    ·exact hs.frz j y hj
    ·simp at hx
   ·rcases g with⟨_,rfl⟩| ⟨x,hx,_⟩
    ·exact MS.of rfl
    ·simp at hx
  obtain⟨B,M,s',K,τ',F',d,O,⟨X,E⟩,q,C,pr,J⟩:=ao2 u (all.zip (p9 all [])) 0 τ F s _ f tm [] [] [] 0 R hb (by rw[A,bD3]) _ hq
  obtain⟨t1,t2,_,_⟩:=q.take (ab0 d.I) (fun e he G=>by
   unfold ab0;rw[bE7]
   constructor
   ·exact q.tk e he G
   ·rintro ⟨p,hp,N⟩
    rw[<-N];exact(q.pds p hp).un)
  have z:dyn P ⟨hp.m,hp.nx+all.length⟩ d.es=true:=by
   unfold dyn;rw[bD1];intro e he;cases hc:e.wt&&Nat.beq (c6 e.o.op) 1 with
   |false=>rfl
   |true=>
    rw[bB8];rw[bA2]at hc;have look:=C.look e he hc.1 (bA6 hc.2);rw[bA2];refine⟨(look 0 _ (.inl ⟨rfl,rfl⟩)).look,?_⟩;rw[bD1];intro x hx;cases W:isW x with
    |false=>rfl
    |true=>exact(look _ _ (.inr ⟨x,hx,W,rfl,rfl⟩)).look
  refine⟨B,Y3 s' M,K,τ',F',takes hp.nx (ab0 d.I) d.es d.S,t2,t1,d.tm,⟨X,fun m hm=>?_⟩,q.td,pr,J⟩
  have e:xgo P (exec P ov m) nt all hp.nx (all.zip (p9 all [])) 0 tm ⟨hp.m,hp.nx+all.length⟩ 0 []=some d:=E m hm;show F8 P (exec P ov m) nt all tm hp=_;unfold F8;rw[r,bB8,e];simp only[z,bB8]
theorem bw4 {a a' : Operand} {f : Fm} {s : SS} {Q : Fm × SS → Prop} (h : (twoB a a' f s).vc U Q) :
  ∃b z r fl b' j g d,f6 f a=some (.ptr b z r fl)/\f6 f a'=some (.ptr b' j g d)/\b≠b'/\(∃X,s.get b=some X)/\(∃Y,s.get b'=some Y)/\Q (f,s):=by
 unfold twoB i7 at h;generalize f6 f a=u at h⊢;generalize f6 f a'=w at h⊢;cases u with
 |none=>exact h.elim
 |some u=>cases w with
  |none=>cases u<;>exact h.elim
  |some w=>
   cases u<;>try exact h.elim
   cases w<;>try exact h.elim
   rename_i b z r fl b' j g d;simp only at h;cases hc: !(Nat.beq b b')&&bb0 s b&&bb0 s b' with
   |false=>rw[hc]at h;exact h.elim
   |true=>
    rw[hc,bB8]at h;simp only[bA2,bE7]at hc;obtain⟨⟨k,m⟩,n⟩:=hc;exact⟨b,z,r,fl,b',j,g,d,rfl,rfl,fun e=>by rw[e]at k;simp at k,Option.isSome_iff_exists.1 m,Option.isSome_iff_exists.1 n,h⟩
theorem ay8 {call:B3}(d:s7 P U ov call):R7 P U ov nt (aQ7 P U call nt):=by
 intro all f τ F s hp tm ht hs Q hq e;unfold aQ7 at hq;cases g:stat all (p9 all [])with
 |true=>
  rw[g,bB8]at hq;obtain⟨p,s',h1,τ',F',hp',h2,h3,tm',h4,h5⟩:=ao1 d all f τ F s hp tm ht hs Q hq e;exact⟨p,s',h1,τ',F',hp',h2,h3,tm',h4.mono fun n k=>by unfold i8;rw[k],h5⟩
 |false=>
  rw[g,bB9]at hq;have B:∀n,F8 P (exec P ov n) nt all tm hp=none:=fun n=>by unfold F8;rw[g];rfl
  cases h:an1 all with
  |none=>rw[h]at hq;exact hq.elim
  |some xy=>
  obtain⟨x,y⟩:=xy;rw[h]at hq;simp only at hq;cases hb:av1 0 all&&Nat.blt x all.length&&Nat.blt y all.length&& !(Nat.beq x y)with
  |false=>rw[hb]at hq;exact hq.elim
  |true=>
  rw[hb,bB8]at hq;cases hp2:an6 (c7 all.toArray x y .data).toList (moveLast (c7 all.toArray y x .data) x).toList x y with
  |none=>rw[hp2]at hq;exact hq.elim
  |some D=>
  obtain⟨a,a'⟩:=D;rw[hp2]at hq;simp only at hq;obtain⟨q1,q2⟩:=hq;rw[Tr.vc_bind]at q1;obtain⟨_,_,_,_,_,R,_,_,V,M,_⟩:=ao1 d _ f τ F s hp tm ht hs _ q1 e;have q2:(a7 (ao0 P U call nt (c7 all.toArray x y .data).toList f) (twoB a a') s).vc U Q:=q2;rw[m8]at q2;obtain⟨p,s',q2,τ',F',hp',h2,h3,tm',h4,h5,L⟩:=ao1 d _ f τ F s hp tm ht hs _ q2 e;obtain⟨b,z,r,fl,b',z',r',K,E,G,A,⟨X,N⟩,⟨Y,O⟩,q2⟩:=bw4 q2;obtain⟨u,W,Z⟩:=o7 (P:=P) (U:=U) h5 E;obtain⟨w,w1,w2⟩:=o7 (P:=P) (U:=U) h5 G;have t:be9 (a8 tm' a) (a8 tm' a')=true:=by
   rw[W,w1];cases Z with
   |ptr _ _ _ _ i q C _=>cases w2 with
    |ptr _ _ _ _ j T m _=>
     have:=h3.inj b b' X Y i q j T N O A C m;show(!(Nat.beq i j))=true;cases hb:Nat.beq i j with
     |false=>rfl
     |true=>exact absurd (bA6 hb) this
  refine⟨p,s',q2,τ',F',hp',h2,h3,tm',(h4.and M).mono fun n ⟨k1,k2⟩=>?_,h5,L⟩
  unfold i8;rw[B n];simp only;rw[h];simp only;unfold bs1;have e0:all.toArray.toList=all:=by simp
  have J:all.toArray.size=all.length:=by simp
  rw[e0,J,hb,bB8,k1,k2];simp only;unfold at5;rw[hp2];simp only;rw[t];rfl
end
end Go.Sx
namespace Go.Sx
open Go.Xe
section
variable {P :Program}{U:Nat->List Dat->Dat}
variable {τ1 τ2:Tau}{F0 F1:Nat->Option Blk}{a:SV}
theorem VD.re {τ0:Tau}{y v1:Value}(h0:VD P U τ0 F0 a y)(h1:VD P U τ1 F1 a v1)(d:∀b p,τ0 b=some p->τ2 b=τ1 b):VD P U τ2 F1 a v1:=by
 induction h1 generalizing y with
 |any v=>exact .any v
 |int k e=>exact .int k e
 |bool e=>exact .bool e
 |str e=>exact .str e
 |nilp=>exact .nilp
 |ptr b z row fld i o k h=>
  cases h0 with
  |ptr _ _ _ _ B o' k' _=>exact .ptr b z row fld i o (by rw[d b _ k'];exact k) h
 |pptr t L row fld i o l c k h h'=>exact .pptr t L row fld i o l c k h h'
 |nils=>exact .nils
 |sl b z off len cap i o c k h h' hc=>
  have hb:∃p,τ0 b=some p:=by cases h0<;>exact⟨_,by assumption⟩
  obtain⟨p,hp⟩:=hb;exact .sl b z off len cap i o c (by rw[d b _ hp];exact k) h h' hc
 |sl0 b z off len cap k h h' hc=>
  have hb:∃p,τ0 b=some p:=by cases h0<;>exact⟨_,by assumption⟩
  obtain⟨p,hp⟩:=hb;exact .sl0 b z off len cap (by rw[d b _ hp];exact k) h h' hc
 |lst t L clip v k hc=>exact .lst t L clip v k hc
 |agg l xs n _ q=>
  cases h0 with
  |agg _ ys r h2=>
   refine .agg l xs n fun i a x j hx=>?_
   grind
 |tup l xs n _ q=>
  cases h0 with
  |tup _ ys r h2=>
   refine .tup l xs n fun i a x j hx=>?_
   grind
 |fn f l m xs ys n _ r _ C D=>
  cases h0 with
  |fn _ _ _ G J K k3 M N=>
   refine .fn f l m xs ys n (fun i a x j hx=>?_) r (fun i a x j hx=>?_)
   ·grind
   ·grind
 |nilf=>exact .nilf
 |map b i o k=>
  cases h0 with
  |map _ B o' k'=>exact .map b i o (by rw[d b _ k'];exact k)
 |nilm=>exact .nilm
 |iface t v x _ q=>
  cases h0 with
  |iface _ _ x' h'=>exact .iface t v x (q h')
 |nili=>exact .nili
 |yld ks vs g nt ps as bo i tms pr db hF hp _ q=>
  cases h0 with
  |yld _ _ _ _ _ _ _ i0 u E A _ _ k0=>exact .yld ks vs g nt ps as bo i tms pr db hF hp fun k a j=>q k a j (k0 k a j)
theorem BD.re {τ0:Tau}{x:n5}{o0 k:Nat}{u m:Blk}(h0:BD P U τ0 F0 o0 x u)(h1:BD P U τ1 F1 k x m)(g:∀b p,τ0 b=some p->τ2 b=τ1 b):BD P U τ2 F1 k x m:=by
 cases x with
 |cells l e z=>
  obtain⟨cs0,n0,_,_,k0⟩:=h0;obtain⟨cs,n,q,r,k1⟩:=h1;refine⟨cs,n,q,r,fun j a h=>?_⟩
  obtain⟨x,hx,t⟩:=k1 j a h;obtain⟨x0,_,d⟩:=k0 j a h;exact⟨x,hx,d.re t g⟩
 |rows L e z ph=>exact h1
 |map L kt vt=>exact h1
 |iter s p=>exact h1
def B6 (P:Program)(U:Nat->List Dat->Dat)(x:n5):Prop:=∃L e z ph,x= .rows L e z ph/\L.toR U=[]/\z=(kf P e).length/\ph.toI U<=0
theorem SD.rebase  {F : Nat → Option Blk} {s1 s2 : SS} {hp : Hp} (hs : SD P U τ1 F s1 hp) (g : Nat → Nat)
  (h:∀b x,s2.get b=some x-> ∃x',s1.get (g b)=some x'/\τ2 b=τ1 (g b)/\(∀i o y,τ1 (g b)=some (some (i,o))->hp.m.get i=some y->BD P U τ1 F o x' y->BD P U τ2 F o x y)/\(B6 P U x'->B6 P U x))
  (n:∀b c x y,s2.get b=some x->s2.get c=some y->b≠c->g b≠g c) (hlt:∀b i o,τ2 b=some (some (i,o))->i<hp.nx) (hn:∀b,s2.nx<=b->τ2 b=none) (hf:FT U s2.fc) (hz:∀r∈s2.fz,be4 P U τ2 F r):SD P U τ2 F s2 hp:=by
 refine⟨fun b x hb=>?_,fun b c x y i o j q hb hc d e k=>?_,hs.frz,hlt,hs.flt,hn,hf,hz⟩
 ·obtain⟨x',h1,h2,h3,h4⟩:=h b x hb
  rcases hs.live _ _ h1 with⟨i,o,y,k1,k2,k3,t⟩| ⟨k1,k2⟩
  ·grind
  ·exact .inr ⟨by rw[h2];exact k1,h4 k2⟩
 ·obtain⟨x',h1,h2,_⟩:=h b x hb
  obtain⟨p,k1,k2,_⟩:=h c y hc;rw[h2]at e;rw[k2]at k;exact hs.inj _ _ x' p i o j q h1 k1 (n b c x y hb hc d) e k
inductive G where
 |keep
 |any
 |int (k:IntKind)
 |bool
 |str
 |lst (t:TypeId)
 |acc (e:TypeId) (z:Nat)
 |clp (t:TypeId)
 |itr (s:E)
 |cel (k:IntKind) (t:TypeId)
 |mac (kt vt:TypeId)
 |rwk (b:Nat) (e:TypeId) (z:Nat) (ph:E)
 |pp (t:TypeId)
def G.so :G->Option So
 | .int _=>some .i
 | .bool=>some .b
 | .str=>some .s
 | .lst _=>some .l
 | .clp _=>some .l
 | .acc _ _=>some .l
 | .itr _=>some .i
 | .cel _ _=>some .i
 | .mac _ _=>some .l
 | .rwk _ _ _ _=>some .l
 | .pp _=>some .l
 |_=>none
def G.na :G->Nat
 | .acc _ _=>1
 | .itr _=>1
 | .cel _ _=>1
 | .mac _ _=>1
 |_=>0
def Z5 :SV->Cp
 | .nils=>.ge
 | .sl _ _ _ _ (.ex c)=>.ex c
 | .sl _ _ _ _ .ge=>.ge
 |_=>.un
def phOf (L:E):Cp->E
 | .ex c=>c
 | .ge=>i9 L
 | .un=>i9 L
def tv (g:G)(a:SV)(e:E)(b:Nat):SV:=match g with
 | .keep=>a
 | .any=>.any
 | .int k=>.int k e
 | .bool=>.bool e
 | .str=>.str e
 | .lst t=>.lst t e false
 | .clp t=>.lst t e true
 | .acc _ z=>.sl b z (.int 0) (i9 e) (Z5 a)
 | .itr _=>.ptr b 1 (.int 0) 0
 | .cel _ _=>.ptr b 1 (.int 0) 0
 | .mac _ _=>.map b
 | .rwk _ _ _ _=>.any
 | .pp t=>.pptr t e (.int 0) 0
def G.blk (g:G)(a:SV)(d:E):Option n5:=match g with
 | .acc e z=>some (.rows d e z (phOf d (Z5 a)))
 | .itr s=>some (.iter s d)
 | .cel k t=>some (.cells [.int k d] t 1)
 | .mac kt vt=>some (.map d kt vt)
 |_=>none
def G.fix (g:G)(d:E):Option (Nat×n5):=match g with
 | .rwk b e z ph=>some (b,.rows d e z ph)
 |_=>none
def hd1 :List E->E
 | []=>.int 0
 |e::_=>e
def tl1 :List E->List E
 | []=>[]
 |_::l=>l
def pop (g:G)(es:List E):List E:=match g.so with
 |some _=>tl1 es
 |none=>es
inductive At where
 |tmp (t:Nat)
 |cell (b j:Nat)
 |no
structure Pl where
 at_:At
 g:G
 a:SV
def P3 :List Pl->List E->Nat->List (At×SV)
 | [],_,_=>[]
 |p::l,es,b=>(p.at_,tv p.g p.a (hd1 es) b)::P3 l (pop p.g es) (b+p.g.na)
def Y7 :List Pl->List E->Nat->List (Nat×Option n5)
 | [],_,_=>[]
 |p::l,es,b=>match p.g.blk p.a (hd1 es)with
  |some X=>(b,some X)::Y7 l (pop p.g es) (b+p.g.na)
  |none=>match p.g.fix (hd1 es)with
   |some q=>(q.1,some q.2)::Y7 l (pop p.g es) (b+p.g.na)
   |none=>Y7 l (pop p.g es) (b+p.g.na)
def aq6 (P:Program)(U:Nat->List Dat->Dat)(g:G)(v:SV):M SV:=match g with
 | .lst t=>a7 (aQ6 P U 20 (.sl t) v) fun e=>b9 (.lst t e false)
 | .clp t=>match v with
  | .lst t' L c=>bif c then b9 (.lst t' L c)else a6 "a list with room behind it"
  | .nils=>b9 (.lst t (.op .nil []) true)
  | .sl b z off len (.ex c)=>a7 (i3 U (A3 c len)) fun _=>a7 (aQ6 P U 20 (.sl t) (.sl b z off len (.ex c))) fun e=>b9 (.lst t e true)
  |_=>a6 "a slice with room behind it"
 | .acc e z=>match v with
  | .sl b z' off len cap=>a7 (aO7 P b) fun _=>b9 (.sl b z' off len cap)
  | .nils=>bif Nat.beq z (kf P e).length then a7 (V8 (.rows (.op .nil []) e z (.int 0))) fun b=>b9 (.sl b z (.int 0) (.int 0) .ge)else a6 "loop: cells"
  |_=>a6 "loop: no slice"
 | .pp t=>match v with
  | .ptr b z (.int 0) 0=>i7 fun s=>match s.get b with
   |some (.cells _ _ _)=>a7 (aQ6 P U 20 (.sl t) (.sl b z (.int 0) (.int 1) (.ex (.int 1)))) fun e=>a7 (i3 U (A3 (i9 e) (.int 1))) fun _=>b9 (.pptr t e (.int 0) 0)
   |_=>b9 v
  |_=>b9 v
 |_=>b9 v
def norm (P:Program)(U:Nat->List Dat->Dat):List Pl->List SV->M (List SV)
 |p::l,v::vs=>a7 (aq6 P U p.g v) fun v'=>a7 (norm P U l vs) fun vs'=>b9 (v'::vs')
 | [],[]=>b9 []
 |_,_=>a6 "loop: places"
def svp :SV->SV->Bool
 | .ptr b z (.int m) f,.ptr b' z' (.int m') f'=>Nat.beq b b'&&Nat.beq z z'&&decide (m=m')&&Nat.beq f f'
 | .nilp,.nilp=>true
 | .nilf,.nilf=>true
 | .nilm,.nilm=>true
 | .nili,.nili=>true
 | .nils,.nils=>true
 | .map b,.map b'=>Nat.beq b b'
 | .int k (.int m),.int k' (.int m')=>decide (k=k')&&decide (m=m')
 |_,_=>false
def br3 :List SV->List SV->Bool
 | [],[]=>true
 |a::l,b::m=>svp a b&&br3 l m
 |_,_=>false
def svk (a v:SV):Bool:=svp a v||match a,v with
 | .fn f l m,.fn g l' m'=>decide (f=g)&&br3 l l'&&br3 m m'
 |_,_=>false
theorem br2 {v:SV} (h : svp a v = true) : a = v := by
 unfold svp at h;split at h <;> first
  |rfl
  |cases h
  | (simp only [bA2, bE1, bC2] at h
     obtain⟨⟨⟨rfl,rfl⟩,rfl⟩,rfl⟩:=h;rfl)
  | (simp only [bA2, bC2] at h
     obtain⟨rfl,rfl⟩:=h;rfl)
  | (rw[bA6 h])
theorem aK5 :∀ {l m:List SV},br3 l m=true->l=m
 | [],[],_=>rfl
 | [],_::_,h=>by cases h
 |_::_,[],h=>by cases h
 |a::l,b::m,h=>by
  unfold br3 at h;rw[bA2]at h;rw[br2 h.1,aK5 h.2]
theorem bz4 {v:SV}(h:svk a v=true):a=v:=by
 unfold svk at h;rw[bH6]at h
 rcases h with h|h
 ·exact br2 h
 ·split at h
  ·simp only[bA2,bC2]at h
   rw[h.1.1,aK5 h.1.2,aK5 h.2]
  ·cases h
def mt1 (U : Nat → List Dat → Dat) (g : G) (a v : SV) : M (Option E × Option Nat) := match g with
 | .keep=>bif svk a v then b9 (none,none)else a6 "loop: a place that has changed"
 | .any=>b9 (none,none)
 | .int k=>match v with
  | .int k' e=>bif decide (k=k')then b9 (some e,none)else a6 "loop: kind"
  |_=>a6 "loop: no int"
 | .bool=>match v with
  | .bool e=>b9 (some e,none)
  |_=>a6 "loop: no bool"
 | .str=>match v with
  | .str e=>b9 (some e,none)
  |_=>a6 "loop: no string"
 | .lst t=>match v with
  | .lst t' L _=>bif Nat.beq t t' then b9 (some L,none)else a6 "loop: type"
  |_=>a6 "loop: no list"
 | .clp t=>match v with
  | .lst t' L c=>bif c&&Nat.beq t t' then b9 (some L,none)else a6 "loop: type"
  |_=>a6 "loop: no list"
 | .acc e z => match v with
  | .sl b z' (.int m) len cap => i7 fun s => match s.get b with
   | some (.rows L e' z'' ph) => bif Nat.beq e e' && Nat.beq z z' && Nat.beq z z'' && decide (m = 0) then
     a7 (i3 U (k9 (l6 (i9 L) len))) fun _=>a7 (X9 U L (.int 0) len) fun d=>match Z5 a,cap with
      | .un,.ge=>b9 (some d,some b)
      | .un,.un=>b9 (some d,some b)
      | .ge,.ge=>b9 (some d,some b)
      | .un,.ex c'=>a7 (i3 U (A3 c' len)) fun _=>a7 (i3 U (l6 len (.int 67108865))) fun _=>b9 (some d,some b)
      | .ex c,.ex c'=>a7 (i3 U (A3 c' c)) fun _=>a7 (i3 U (k9 (l6 ph c))) fun _=>b9 (some d,some b)
      |_,_=>a6 "loop: capacity"
    else a6 "loop: slice"
   |_=>a6 "loop: block"
  |_=>a6 "loop: no slice"
 | .itr s0=>match v with
  | .ptr b z (.int m) f=>i7 fun s=>match s.get b with
   |some (.iter s' pos)=>bif Nat.beq z 1&&decide (m=0)&&Nat.beq f 0 then a7 (i3 U (aj7 s' s0)) fun _=>b9 (some pos,some b)else a6 "loop: iterator"
   |_=>a6 "loop: block"
  |_=>a6 "loop: no iterator"
 | .cel k t=>match v with
  | .ptr b z (.int m) f=>i7 fun s=>match s.get b with
   |some (.cells [.int k' e] t' z')=>bif Nat.beq z 1&&decide (m=0)&&Nat.beq f 0&&Nat.beq z' 1&&Nat.beq t t'&&decide (k=k')then b9 (some e,some b)else a6 "loop: cell"
   |_=>a6 "loop: block"
  |_=>a6 "loop: no cell"
 | .mac kt vt=>match v with
  | .map b=>i7 fun s=>match s.get b with
   |some (.map L kt' vt')=>bif Nat.beq kt kt'&&Nat.beq vt vt' then b9 (some L,some b)else a6 "loop: map"
   |_=>a6 "loop: block"
  |_=>a6 "loop: no map"
 | .rwk b e z ph=>i7 fun s=>match s.get b with
  |some (.rows L e' z' ph')=>bif Nat.beq e e'&&Nat.beq z z' then a7 (i3 U (k9 (l6 ph' ph))) fun _=>b9 (some L,none)else a6 "loop: rows"
  |_=>a6 "loop: no rows"
 | .pp t=>match v with
  | .pptr t' L row 0=>bif Nat.beq t t' then b9 (some (.op .part [L,row,.int 1]),none)else a6 "pointer: type"
  |_=>a6 "no pointer to a value"
variable (U) in
def af2 :So->E->E->Prop
 | .i,e,d=>e.toI U=d.toI U
 | .b,e,d=>(e.den U).toBool=(d.den U).toBool
 | .s,e,d=>(e.den U).toStr=(d.den U).toStr
 | .l,e,d=>e.toR U=d.toR U
variable {τ :Tau}{F:Nat->Option Blk}{s:SS}{hp:Hp}
variable (P U) in
def bk1 (τ:Tau)(F:Nat->Option Blk)(s:SS)(so:So)(mk:E->Option n5)(r:Option E×Option Nat):Prop:=
 ∃b L x',r.2=some b/\r.1=some L/\s.get b=some x'/\ ∀d,af2 U so L d-> ∃X,mk d=some X/\
  (∀(τ2:Tau) o y,BD P U τ F o x' y->BD P U τ2 F o X y)/\(B6 P U x'->B6 P U X)
variable (P U) in
def bx6 (τ:Tau)(F:Nat->Option Blk)(s:SS)(g:G)(r:Option E×Option Nat):Prop:=
 ∀d0 p,g.fix d0=some p->g.so=some .l/\ ∃L x',r.1=some L/\s.get p.1=some x'/\ ∀d,af2 U .l L d-> ∃X,g.fix d=some (p.1,X)/\
  (∀(τ2:Tau) o y,BD P U τ F o x' y->BD P U τ2 F o X y)/\(B6 P U x'->B6 P U X)
variable (P U) in
def MtOK (τ0:Tau)(τ:Tau)(F:Nat->Option Blk)(s:SS)(g:G)(a v:SV)(r:Option E×Option Nat):Prop:=
 (∀so,g.so=some so-> ∃e,r.1=some e)/\(g.so=none->r.1=none)/\(g.na=0->r.2=none)/\
 (∀x,VD P U τ F v x-> ∀(τ2:Tau) (nb:Nat) (d:E),(∀b p,τ0 b=some p->τ2 b=τ b)->(∃F0 x0,VD P U τ0 F0 a x0)->(∀e so,r.1=some e->g.so=some so->af2 U so e d)->(∀b,r.2=some b->τ2 nb=τ b)->VD P U τ2 F (tv g a d nb) x)/\
 (g.na≠0-> ∃so,g.so=some so/\bk1 P U τ F s so (g.blk a) r)/\bx6 P U τ F s g r
theorem aV9 (τ0 : Tau) (g : G) (a v : SV) : OKp U (mt1 U g a v) s fun r => ∀ s', s'.h = s.h → MtOK P U τ0 τ F s' g a v r := by
 cases g with
 |keep=>
  simp only[mt1];cases h:svk a v with
  |false=>exact OKp.fail
  |true=>
   have:=bz4 h;subst this;exact OKp.ret fun s' _=>⟨fun so h=>(by cases h),fun _=>rfl,fun _=>rfl,fun x hx τ2 nb d hk ⟨F0,x0,h0⟩ _ _=>h0.re hx hk,fun h=>absurd rfl h,fun B p h=>(by cases h)⟩
 |any=>
  simp only[mt1];exact OKp.ret fun s' _=>⟨fun so h=>(by cases h),fun _=>rfl,fun _=>rfl,fun x hx τ2 nb d hk _ _ _=>.any x,fun h=>absurd rfl h,fun B p h=>(by cases h)⟩
 |int k=>
  simp only[mt1];split
  ·rename_i k' e
   cases h:decide (k=k')with
   |false=>exact OKp.fail
   |true=>
    rw[bC2]at h;subst h;refine OKp.ret fun s' _=>⟨fun so h=>⟨e,rfl⟩,fun h=>(by cases h),fun _=>rfl,fun x hx τ2 nb d hk _ hd _=>?_,fun h=>absurd rfl h,fun B p h=>(by cases h)⟩
    have:=hd e .i rfl rfl;cases hx;show VD P U τ2 F (.int k d) _;rw[show e.toI U=d.toI U from this];exact .int k d
  ·exact OKp.fail
 |bool=>
  simp only[mt1];split
  ·rename_i e
   refine OKp.ret fun s' _=>⟨fun so h=>⟨e,rfl⟩,fun h=>(by cases h),fun _=>rfl,fun x hx τ2 nb d hk _ hd _=>?_,fun h=>absurd rfl h,fun B p h=>(by cases h)⟩
   have:=hd e .b rfl rfl;cases hx;show VD P U τ2 F (.bool d) _;rw[show(e.den U).toBool=(d.den U).toBool from this];exact .bool d
  ·exact OKp.fail
 |str=>
  simp only[mt1];split
  ·rename_i e
   refine OKp.ret fun s' _=>⟨fun so h=>⟨e,rfl⟩,fun h=>(by cases h),fun _=>rfl,fun x hx τ2 nb d hk _ hd _=>?_,fun h=>absurd rfl h,fun B p h=>(by cases h)⟩
   have:=hd e .s rfl rfl;cases hx;show VD P U τ2 F (.str d) _;rw[show(e.den U).toStr=(d.den U).toStr from this];exact .str d
  ·exact OKp.fail
 |lst t=>
  simp only[mt1];split
  ·rename_i t' L clip
   cases h:Nat.beq t t' with
   |false=>exact OKp.fail
   |true=>
    have:=bA6 h;subst this;refine OKp.ret fun s' _=>⟨fun so h=>⟨L,rfl⟩,fun h=>(by cases h),fun _=>rfl,fun x hx τ2 nb d hk _ hd _=>?_,fun h=>absurd rfl h,fun B p h=>(by cases h)⟩
    have:=hd L .l rfl rfl;cases hx with
    |lst _ _ _ _ hp hc=>exact .lst t d false x (by rw[<-show L.toR U=d.toR U from this];exact hp) (fun h=>by cases h)
  ·exact OKp.fail
 |clp t=>
  simp only[mt1];split
  ·rename_i t' L clip
   cases h:clip&&Nat.beq t t' with
   |false=>exact OKp.fail
   |true=>
    rw[bA2]at h;obtain⟨rfl,h⟩:=h;have:=bA6 h;subst this;refine OKp.ret fun s' _=>⟨fun so h=>⟨L,rfl⟩,fun h=>(by cases h),fun _=>rfl,fun x hx τ2 nb d hk _ hd _=>?_,fun h=>absurd rfl h,fun B p h=>(by cases h)⟩
    have:=hd L .l rfl rfl;cases hx with
    |lst _ _ _ _ hp hc=>exact .lst t d true x (by rw[<-show L.toR U=d.toR U from this];exact hp) hc
  ·exact OKp.fail
 |itr s0=>
  simp only[mt1];split
  ·rename_i b z m f
   refine OKp.read ?_;split
   ·rename_i s' pos hb
    cases hc:Nat.beq z 1&&decide (m=0)&&Nat.beq f 0 with
    |false=>exact OKp.fail
    |true=>
     simp only[bA2,bE1,bC2]at hc;obtain⟨⟨rfl,rfl⟩,rfl⟩:=hc;refine OKp.need.bind fun _ s1 o1 _ n1=>OKp.ret fun s2 C=>?_
     have ac:(s'.den U).toStr=(s0.den U).toStr:=by
      have:=(E.pr_iff U _).1 n1;rw[J7]at this
      grind
     refine⟨fun so h=>⟨pos,rfl⟩,fun h=>(by cases h),fun h=>(by cases h),fun x hx τ2 nb d hk _ hd u=>?_,fun _=>⟨.i,rfl,b,pos,.iter s' pos,rfl,rfl,by unfold SS.get;rw[C];exact hb,fun d hd=>⟨_,rfl,?_,?_⟩⟩,fun B p h=>(by cases h)⟩
     ·cases hx with
      |ptr _ _ _ _ i o h h0=>exact .ptr nb 1 (.int 0) 0 i o (by rw[u b rfl];exact h) h0
     ·rintro τ2 o y ⟨e0,n,N,O⟩
      exact⟨e0,n,by rw[<-ac];exact N,by rw[<-O];exact hd.symm⟩
     ·rintro ⟨L,e,z,ph,h,_⟩
      cases h
   ·exact OKp.fail
  ·exact OKp.fail
 |mac kt vt=>
  simp only[mt1];split
  ·rename_i b
   refine OKp.read ?_;split
   ·rename_i L aj ak hb
    cases hc:Nat.beq kt aj&&Nat.beq vt ak with
    |false=>exact OKp.fail
    |true=>
     simp only[bA2,bE1]at hc;obtain⟨rfl,rfl⟩:=hc;refine OKp.ret fun s2 C=>?_
     refine⟨fun so h=>⟨L,rfl⟩,fun h=>(by cases h),fun h=>(by cases h),fun x hx τ2 nb d hk _ hd u=>?_,fun _=>⟨.l,rfl,b,L,.map L kt vt,rfl,rfl,by unfold SS.get;rw[C];exact hb,fun d hd=>⟨_,rfl,?_,?_⟩⟩,fun B p h=>(by cases h)⟩
     ·cases hx with
      |map _ i o h=>exact .map nb i o (by rw[u b rfl];exact h)
     ·rintro τ2 o y ⟨h0,es,reg,h1,h2⟩
      exact⟨h0,es,reg,h1,by rw[<-show L.toR U=d.toR U from hd];exact h2⟩
     ·rintro ⟨L,e,z,ph,h,_⟩
      cases h
   ·exact OKp.fail
  ·exact OKp.fail
 |cel k t=>
  simp only[mt1];split
  ·rename_i b z m f
   refine OKp.read ?_;split
   ·rename_i k' e t' X hb
    cases hc:Nat.beq z 1&&decide (m=0)&&Nat.beq f 0&&Nat.beq X 1&&Nat.beq t t'&&decide (k=k')with
    |false=>exact OKp.fail
    |true=>
     simp only[bA2,bE1,bC2]at hc;obtain⟨⟨⟨⟨⟨rfl,rfl⟩,rfl⟩,rfl⟩,rfl⟩,rfl⟩:=hc;refine OKp.ret fun s2 C=>?_
     refine⟨fun so h=>⟨e,rfl⟩,fun h=>(by cases h),fun h=>(by cases h),fun x hx τ2 nb d hk _ hd u=>?_,fun _=>⟨.i,rfl,b,e,.cells [.int k e] t 1,rfl,rfl,by unfold SS.get;rw[C];exact hb,fun d hd=>⟨_,rfl,?_,?_⟩⟩,fun B p h=>(by cases h)⟩
     ·cases hx with
      |ptr _ _ _ _ i o h h0=>exact .ptr nb 1 (.int 0) 0 i o (by rw[u b rfl];exact h) h0
     ·rintro τ2 o y ⟨cs,n,e0,N,O⟩
      refine⟨cs,n,e0,N,fun j a q=>?_⟩
      have hj:j=0:=by grind
      subst hj;obtain⟨x,h1,h2⟩:=O 0 (.int k e) rfl;simp at q;subst q;refine⟨x,h1,?_⟩;cases h2;rw[show e.toI U=d.toI U from hd];exact .int k d
     ·rintro ⟨L,e,z,ph,h,_⟩
      cases h
   ·exact OKp.fail
  ·exact OKp.fail
 |pp t=>
  simp only[mt1];split
  ·rename_i t' L row
   cases h:Nat.beq t t' with
   |false=>exact OKp.fail
   |true=>
    have:=bA6 h;subst this;refine OKp.ret fun s' _=>⟨fun so h=>⟨_,rfl⟩,fun h=>(by cases h),fun _=>rfl,fun x hx τ2 nb d hk _ hd _=>?_,fun h=>absurd rfl h,fun B p h=>(by cases h)⟩
    have hd:=hd _ .l rfl rfl;have hd:part (L.toR U) (row.toI U) 1=d.toR U:=hd;cases hx with
    |pptr _ _ _ _ i o l c hp h0 h1=>
     generalize ai:L.toR U=rows at hp h1 hd;cases hp with
     |sl _ _ _ _ b cs n z rows xx hF hb hc hn hz hr hx ah=>
      have A:ap8 (1:Int).toNat c/\roC b c _ z:=⟨by
       rcases hc.1 with⟨q1,q2⟩| ⟨lo,q1,q2,q3⟩
       ·exact .inl ⟨q1,by have:(1:Int).toNat=1:=rfl;omega⟩
       ·exact .inr ⟨lo,q1,q2,by have:(1:Int).toNat=1:=rfl;omega⟩,hc.2⟩
      have:=PV.cut (P:=P) (F:=F) hF hb hn hz hr hx ah h0 (show(0:Int)<=1 by omega) (by omega) A
      rw[hd]at this;have Y:((d.toR U).length:Int)=1:=by rw[<-hd,L9 h0 (by omega) (by omega)];rfl
      exact VD.pptr' (row:= .int 0) this (bG4 0) (by rw[o6];omega) (by rw[<-hz];show _=o+(row.toI U).toNat*z+(0:Int).toNat*z+0;simp)
  ·exact OKp.fail
 |rwk b e z ph=>
  simp only[mt1];refine OKp.read ?_;split
  ·rename_i L e' X M hb
   cases hc:Nat.beq e e'&&Nat.beq z X with
   |false=>exact OKp.fail
   |true=>
    simp only[bA2,bE1]at hc;obtain⟨rfl,rfl⟩:=hc;rw[bB8];refine OKp.need.bind fun _ s1 o1 _ n1=>OKp.ret fun s' W=>?_
    have K:=n9 n1;refine⟨fun so h=>⟨L,rfl⟩,fun h=>(by cases h),fun _=>rfl,fun x hx τ2 nb d hk _ _ _=>.any x,fun h=>absurd rfl h,fun B p h=>⟨rfl,L,.rows L e z M,rfl,?_,fun d hd=>⟨.rows d e z ph,?_,?_,?_⟩⟩⟩
    ·simp only[G.fix,bA1]at h
     subst h;unfold SS.get;rw[W];exact hb
    ·simp only[G.fix,bA1]at h
     subst h;rfl
    ·rintro τ2 o y ⟨cs,n,h1,h2,h3⟩
     have J:L.toR U=d.toR U:=hd;refine⟨cs,n,h1,by rw[<-J];exact h2,?_⟩
     have:ph.toN U<=M.toN U:=by show(ph.toI U).toNat<=(M.toI U).toNat;omega
     have:=bB4 z this;omega
    ·rintro ⟨L',e',X,aq,h1,h2,h3,h4⟩
     have J:L.toR U=d.toR U:=hd;cases h1;exact⟨d,e,z,ph,rfl,by rw[<-J];exact h2,h3,by omega⟩
  ·exact OKp.fail
 | acc e z =>
  simp only[mt1];split
  ·rename_i b  X m len cap
   refine OKp.read ?_;split
   ·rename_i L e'  al ph hb
    cases hc:Nat.beq e e'&&Nat.beq z X&&Nat.beq z al&&decide (m=0)with
    |false=>exact OKp.fail
    | true =>
     simp only[bA2,bE1,bC2]at hc;obtain⟨⟨⟨rfl,rfl⟩,rfl⟩,rfl⟩:=hc;rw[bB8];refine OKp.need.bind fun _ s1 o1 _ n1=>t6.bind fun D s2 o2 _ hD=>?_
     have ap:len.toI U<=((L.toR U).length:Int):=by have:=n9 n1;rwa[c9]at this
     have ab:D.toR U=(L.toR U).take (len.toN U):=by
      show(D.den U).rows=_;rw[hD];show part (L.toR U) 0 (len.toI U)=_;unfold part;simp
     have key : ∀ (   A : ∀ (c : Nat) (n : E), n.toI U = len.toI U → aB7 U len cap c → aB7 U n (Z5 a) c) (    T : ∀ c, Z5 a = .ex c → ∃ c', cap = .ex c' ∧ c'.toI U = c.toI U)
       (K:∀c,Z5 a= .ex c->c.toI U<=ph.toI U) (s':SS),s'.h=s.h->MtOK P U τ0 τ F s' (.acc e z) a (.sl b z (.int 0) len cap) (some D,some b):=by
      intro A T K s' W;have Z:∀ {d:E},af2 U .l D d->d.toR U=(L.toR U).take (len.toN U):=fun h=>by rw[<-ab];exact h.symm
      refine⟨fun so _=>⟨D,rfl⟩,fun h=>(by cases h),fun h=>(by cases h),fun x hx τ2 nb d hk _ hd u=>?_,fun _=>⟨.l,rfl,?_⟩,fun B p h=>(by cases h)⟩
      ·have J:=Z (hd D .l rfl rfl)
       have aa:=u b rfl;have ao:0<=len.toI U:=by cases hx<;>omega
       have Y:(i9 d).toI U=len.toI U:=by
        rw[c9,J,bD6]
        grind
       have ae:(i9 d).toN U=len.toN U:=by grind
       cases hx with
       |sl _ _ _ _ _ i o c k1 k2 k3 k4=>
        show VD P U τ2 F (.sl nb z (.int 0) (i9 d) (Z5 a)) _;rw[<-ae];exact .sl nb z (.int 0) (i9 d) (Z5 a) i o c (by rw[aa];exact k1) (bG4 0) (by omega) (A c _ Y k4)
       |sl0 _ _ _ _ _ k1 k2 k3 k4=>
        refine .sl0 nb z (.int 0) (i9 d) (Z5 a) (by rw[aa];exact k1) rfl (by omega) fun c hc=>?_
        grind
      ·refine⟨b,D,.rows L e z ph,rfl,rfl,by unfold SS.get;rw[W];exact hb,fun d hd=>⟨_,rfl,?_⟩⟩
       have J:=Z hd;have V:(d.toR U).length<=(L.toR U).length:=by grind
       constructor
       ·rintro τ2 o y ⟨cs,n,h1,⟨h2,h3,h4,h5⟩,h6⟩
        refine⟨cs,n,h1,⟨?_,h3,fun r hr=>h4 r ?_,fun r k row dd hr ad=>h5 r k row dd ?_ ad⟩,?_⟩
        ·have:=bB4 z V;omega
        ·grind
        ·grind
        ·cases R:Z5 a with
         |ge=>
          have:(phOf d .ge).toN U=(d.toR U).length:=by show((i9 d).toI U).toNat=_;rw[c9];omega
          rw[this];have:=bB4 z V;omega
         |un=>
          have:(phOf d .un).toN U=(d.toR U).length:=by show((i9 d).toI U).toNat=_;rw[c9];omega
          rw[this];have:=bB4 z V;omega
         |ex c=>
          have h7:=K c R;have:(phOf d (.ex c)).toN U<=ph.toN U:=by show(c.toI U).toNat<=(ph.toI U).toNat;omega
          have:=bB4 z this;omega
       ·rintro ⟨L',e',X,M,h1,h2,h3,h4⟩
        cases h1;refine⟨d,e,z,_,rfl,by rw[J,h2];simp,h3,?_⟩
        cases R:Z5 a with
        |ge=>show(i9 d).toI U<=0;rw[c9,J,h2];simp
        |un=>show(i9 d).toI U<=0;rw[c9,J,h2];simp
        |ex c=>have h7:=K c R;show c.toI U<=0;omega
     split
     ·rename_i q
      refine OKp.ret (key (fun c n hn hc=>?_) (fun c hc=>by rw[q]at hc;cases hc) (fun c hc=>by rw[q]at hc;cases hc))
      rw[q];obtain⟨lo,h1,h2,h3⟩:=hc;exact Or.inr ⟨lo,h1,h2,by omega⟩
     ·rename_i q
      refine OKp.ret (key (fun c n hn hc=>?_) (fun c hc=>by rw[q]at hc;cases hc) (fun c hc=>by rw[q]at hc;cases hc))
      rw[q]
      rcases hc with⟨h1,h2,h3⟩| ⟨lo,h1,h2,h3⟩
      ·exact Or.inl ⟨h1,by rw[h2];show(len.toI U).toNat=(n.toI U).toNat;rw[hn],by omega⟩
      ·exact Or.inr ⟨lo,h1,h2,by omega⟩
     ·rename_i q
      refine OKp.ret (key (fun c n hn hc=>?_) (fun c hc=>by rw[q]at hc;cases hc) (fun c hc=>by rw[q]at hc;cases hc))
      rw[q];obtain⟨lo,h1,h2,h3⟩:=hc;exact⟨lo,h1,h2,by omega⟩
     ·rename_i c' q
      refine OKp.need.bind fun _ s3 _ _ n2=>OKp.need.bind fun _ s4 _ _ n3=>?_
      have N:=Q0 n2;have O:=q8 n3;simp only[o6]at O;refine OKp.ret (key (fun k n hn hc=>?_) (fun c hc=>by rw[q]at hc;cases hc) (fun c hc=>by rw[q]at hc;cases hc))
      rw[q];obtain⟨h1,h2,h3,h4⟩:=hc;exact Or.inl ⟨h3,by rw[h2];show(c'.toI U).toNat=(n.toI U).toNat;rw[N,hn],by omega⟩
     ·rename_i c c' q
      refine OKp.need.bind fun _ s3 _ _ n2=>OKp.need.bind fun _ s4 _ _ n3=>?_
      have N:=Q0 n2;have O:=n9 n3;refine OKp.ret (key (fun k n hn hc=>?_) (fun c2 hc=>?_) (fun c2 hc=>?_))
      ·rw[q]
       obtain⟨h1,h2,h3,h4⟩:=hc;exact⟨by omega,by rw[h2];show(c'.toI U).toNat=(c.toI U).toNat;rw[N],h3,by omega⟩
      ·rw[q]at hc;cases hc;exact⟨c',rfl,N⟩
      ·rw[q]at hc;cases hc;exact O
     ·exact OKp.fail
   ·exact OKp.fail
  ·exact OKp.fail
end
end Go.Sx
namespace Go.Sx
open Go.Xe
section
variable {P :Program}{U:Nat->List Dat->Dat}
variable {F:Nat->Option Blk}
theorem PV.lst_eq {e:TypeId}{v:Value}{d:Dat}(h:PV P F (.sl e) v d):d= .lst d.rows:=by cases h<;>rfl
theorem ax3 {τ : Tau}  {s : SS} {hp : Hp} (g : G) {v : SV} {x : Value} ( d : VD P U τ F v x) (hs : SD P U τ F s hp) :
  OKh P U (aq6 P U g v) τ F s hp fun v' τ' F' hp'=>hp'=hp/\VD P U τ' F' v' x:=by
 cases g with
 |lst t=>
  simp only[aq6];refine(ad0 20 (.sl t) v x τ F s hp d hs).bind fun e τ1 F1 s1 hp1 _ hs1 ⟨h1,h2,h3⟩=>OKh.ret ⟨h2,?_⟩
  have:=h3.lst_eq;rw[this]at h3;exact .lst t e false x h3 (fun h=>by cases h)
 |clp t=>
  simp only[aq6];split
  ·rename_i t' L c
   cases c with
   |false=>exact OKh.fail
   |true=>exact OKh.ret ⟨rfl,d⟩
  ·cases d
   exact OKh.ret ⟨rfl,.lst t _ true _ (.nils t) (fun _=>⟨_,_,rfl⟩)⟩
  ·rename_i b z off len c
   refine OKh.bindp OKp.need fun _ s1 u hs1 p1=>?_
   have p1:=Q0 p1;refine(ad0 20 (.sl t) _ x τ F s1 hp d hs1).bind fun e τ1 F1 s2 hp1 _ j ⟨h1,h2,h3⟩=>OKh.ret ⟨h2,?_⟩
   have:=h3.lst_eq;rw[this]at h3;refine .lst t e true x h3 (fun _=>?_)
   cases d with
   |sl _ _ _ _ _ i o c' k1 k2 k3 q=>
    obtain⟨q1,q2,A,B⟩:=q
    grind
   |sl0=>grind
  ·exact OKh.fail
 |acc e z=>
  simp only[aq6];split
  ·rename_i b r off len cap
   refine(ax1 hs).bind fun _ τ1 F1 s1 hp1 _ hs1 ⟨h1,h2,h3⟩=>OKh.ret ⟨h3,?_⟩
   grind
  ·cases hz:Nat.beq z (kf P e).length with
   |false=>exact OKh.fail
   |true=>
    rw[bB8];have n:=bA6 hz;refine OKh.bind (R:=fun b τ' F' hp'=>hp'=hp/\τ' b=some none) ?_ fun b τ1 F1 s1 hp1 _ hs1 ⟨h1,h2⟩=>OKh.ret ⟨h1,?_⟩
    ·intro Q hq _
     obtain⟨h1,h2⟩:=hs.alloc (x:= .rows (.op .nil []) e z (.int 0)) (p:=none) (hp':=hp) (bC4 _) (fun _ _=>rfl) (.inr ⟨rfl,_,_,_,_,rfl,rfl,n,bG4 0⟩)
     exact⟨s.nx,_,hq,_,F,hp,h1,h2,rfl,j9 _ _ _⟩
    ·cases d
     exact .sl0 b z (.int 0) (.int 0) .ge h2 rfl rfl (fun e h=>by cases h)
  ·exact OKh.fail
 |keep=>exact OKh.ret ⟨rfl,d⟩
 |any=>exact OKh.ret ⟨rfl,d⟩
 |int k=>exact OKh.ret ⟨rfl,d⟩
 |bool=>exact OKh.ret ⟨rfl,d⟩
 |str=>exact OKh.ret ⟨rfl,d⟩
 |itr s=>exact OKh.ret ⟨rfl,d⟩
 |cel k t=>exact OKh.ret ⟨rfl,d⟩
 |mac kt vt=>exact OKh.ret ⟨rfl,d⟩
 |rwk b e z ph=>exact OKh.ret ⟨rfl,d⟩
 |pp t=>
  simp only[aq6];split
  ·rename_i b z
   refine OKh.read ?_;split
   ·rename_i l e r hb
    cases d with
    |ptr _ _ _ _ i o h h0=>
     have m:VD P U τ F (.sl b z (.int 0) (.int 1) (.ex (.int 1))) (.slice (some ⟨i,o+(E.int 0).toN U*z,none⟩) ((E.int 1).toN U) 1):=
      .sl b z (.int 0) (.int 1) (.ex (.int 1)) i o 1 h (bG4 0) (by rw[o6];omega) ⟨by rw[o6];omega,rfl,by unfold unk;omega,bG4 _⟩
     refine(ad0 20 (.sl t) _ _ τ F s hp m hs).bind fun e τ1 F1 s1 hp1 _ hs1 ⟨h1,h2,h3⟩=>OKh.bindp OKp.need fun _ s2 y j p1=>OKh.ret ⟨h2,?_⟩
     have p1:=Q0 p1;rw[c9,o6]at p1;have:=h3.lst_eq;rw[this]at h3;exact VD.pptr' (row:= .int 0) h3 (bG4 0) (by rw[o6];show(0:Int)<(e.toR U).length;omega) (by show o+(0:Int).toNat*z+0=o+(0:Int).toNat*z+(0:Int).toNat*_+0;simp)
   ·exact OKh.ret ⟨rfl,d⟩
  ·exact OKh.ret ⟨rfl,d⟩
theorem aI9 : ∀ (ps : List Pl) (vs : List SV) (xs : List Value) (τ : Tau) (F : Nat → Option Blk) (s : SS) (hp : Hp), VDL P U τ F vs xs → SD P U τ F s hp →
  OKh P U (norm P U ps vs) τ F s hp fun h τ' F' hp'=>hp'=hp/\VDL P U τ' F' h xs
 | [],[],xs,τ,F,s,hp,e,hs=>OKh.ret ⟨rfl,e⟩
 | [],v::vs,xs,τ,F,s,hp,e,hs=>OKh.fail
 |p::ps,[],xs,τ,F,s,hp,e,hs=>OKh.fail
 |p::ps,v::vs,xs,τ,F,s,hp,e,hs=>by
  obtain⟨y,ys,rfl,h1,h2⟩:=e.uncons;unfold norm;refine(ax3 p.g h1 hs).bind fun v' τ1 F1 s1 hp1 ex hs1 ⟨j,k⟩=>(aI9 ps vs ys τ1 F1 s1 hp1 (h2.mono ex.t ex.f) hs1).bind fun h τ2 n s2 hp2 d m ⟨k1,k2⟩=>OKh.ret ⟨by rw[k1,j],.cons (k.mono d.t d.f) k2⟩
def G7 {α:Type}:Option α->List α->List α
 |some a,l=>a::l
 |none,l=>l
def mtP (U:Nat->List Dat->Dat):List Pl->List SV->M (List E×List Nat)
 |p::l,v::vs=>a7 (mt1 U p.g p.a v) fun r=>a7 (mtP U l vs) fun t=>b9 (G7 r.1 t.1,G7 r.2 t.2)
 | [],[]=>b9 ([],[])
 |_,_=>a6 "loop: places"
def sos :List Pl->List So
 | []=>[]
 |p::l=>G7 p.g.so (sos l)
def rbs :List Pl->List Nat
 | []=>[]
 |p::l=>match p.g.fix (.int 0)with
  |some q=>q.1::rbs l
  |none=>rbs l
theorem G.fix_num {g:G}{d:E}{q:Nat×n5}(h:g.fix d=some q)(j:E):∃X,g.fix j=some (q.1,X):=by
 cases g with
 |rwk b e z ph=>simp only[G.fix,bA1]at h;subst h;exact⟨_,rfl⟩
 |_=>cases h
variable (U) in
def T7 :List So->List E->List E->Prop
 |k::ks,e::es,d::ds=>af2 U k e d/\T7 ks es ds
 | [],[],[]=>True
 |_,_,_=>False
variable (P U) in
def X5 (τ0 τ:Tau)(F:Nat->Option Blk)(s:SS):List Pl->List SV->List E->List Nat->Prop
 | [],[],es,bs=>es=[]/\bs=[]
 |p::l,v::vs,es,bs=>∃r es' bs',es=G7 r.1 es'/\bs=G7 r.2 bs'/\MtOK P U τ0 τ F s p.g p.a v r/\X5 τ0 τ F s l vs es' bs'
 |_,_,_,_=>False
theorem aW1 {τ:Tau}{F:Nat->Option Blk}(τ0:Tau):∀(ps:List Pl) (vs:List SV) (s:SS),OKp U (mtP U ps vs) s fun r=>∀s',s'.h=s.h->X5 P U τ0 τ F s' ps vs r.1 r.2
 | [],[],s=>OKp.ret fun _ _=>⟨rfl,rfl⟩
 | [],_::_,s=>OKp.fail
 |_::_,[],s=>OKp.fail
 |p::ps,v::vs,s=>by
  unfold mtP;refine(aV9 (P:=P) (τ:=τ) (F:=F) τ0 p.g p.a v).bind fun r s1 e _ h1=>(aW1 (τ:=τ) (F:=F) τ0 ps vs s1).bind fun t s2 j _ h2=>OKp.ret fun s' d=>?_
  exact⟨r,t.1,t.2,rfl,rfl,h1 s' d,h2 s' (by rw[d,e.h])⟩
section
variable {τ0 τ:Tau}{F:Nat->Option Blk}{s:SS}
theorem G.blk_none {g:G}(h:g.na=0)(a:SV)(d:E):g.blk a d=none:=by
 cases g with
 |acc e z=>cases h
 |itr s=>cases h
 |cel k t=>cases h
 |mac kt vt=>cases h
 |_=>rfl
theorem G.na_le (g:G):g.na=0\/g.na=1:=by cases g<;>simp[G.na]
theorem aO8 {p : Pl} {ps : List Pl} {v : SV} {r : Option E × Option Nat} {  k : List E} {ds : List E} (h : MtOK P U τ0 τ F s p.g p.a v r) (hd : T7 U (sos (p :: ps)) (G7 r.1   k) ds) :
  (∀e so,r.1=some e->p.g.so=some so->af2 U so e (hd1 ds))/\T7 U (sos ps) k (pop p.g ds)/\
  (∀b,r.2=some b->p.g.na=1)/\(p.g.na=0\/p.g.na=1):=by
 obtain⟨n,q,t,u,x⟩:=h;have m:p.g.na=0\/p.g.na=1:=p.g.na_le;refine⟨?_,?_,fun b hb=>?_,m⟩
 ·intro e so he j
  unfold sos at hd;rw[j,he]at hd;cases ds with
  |nil=>exact hd.elim
  |cons d ds=>exact hd.1
 ·unfold sos at hd
  cases j:p.g.so with
  |none=>
   rw[j,q j]at hd;unfold pop;rw[j];exact hd
  |some so=>
   obtain⟨e,he⟩:=n so j;rw[j,he]at hd;cases ds with
   |nil=>exact hd.elim
   |cons d ds=>unfold pop;rw[j];exact hd.2
 ·grind
theorem X5.vals : ∀ {ps : List Pl} {vs : List SV} {es : List E} {bs : List Nat} {ds : List E} {xs : List Value} {τ2 : Tau} {nb : Nat}, X5 P U τ0 τ F s ps vs es bs → T7 U (sos ps) es ds →
  (∀b p,τ0 b=some p->τ2 b=τ b)->(∀k b,bs[k]? =some b->τ2 (nb+k)=τ b)->(∀p∈ps,∃F0 x0,VD P U τ0 F0 p.a x0)->VDL P U τ F vs xs->
  ∀(i:Nat) q x,(P3 ps ds nb)[i]? =some q->xs[i]? =some x->VD P U τ2 F q.2 x
 | [],vs,es,bs,ds,xs,τ2,nb,h,hd,hk,hb,g,hx=>fun i q x hq _=>by simp[P3]at hq
 |p::ps,[],es,bs,ds,xs,τ2,nb,h,hd,hk,hb,g,hx=>h.elim
 |p::ps,v::vs,es,bs,ds,xs,τ2,nb,h,hd,hk,hb,g,hx=>by
  obtain⟨r,n,m,rfl,rfl,hm,j⟩:=h;obtain⟨y,ys,rfl,h1,h2⟩:=hx.uncons;obtain⟨s1,s2,u,t⟩:=aO8 hm hd;intro i q x hq d;cases i with
  |zero=>
   simp only[P3,bB7,bA1]at hq d;subst hq;subst d;refine hm.2.2.2.1 y h1 τ2 nb (hd1 ds) hk (g p (by simp)) s1 fun b hr=>?_
   have:=hb 0 b (by rw[hr];rfl)
   grind
  |succ i=>
   simp only[P3,bB2]at hq d;refine X5.vals j s2 hk (fun k b e=>?_) (fun p hp=>g p (by simp[hp])) h2 i q x hq d
   rcases t with h0|h0
   ·rw[h0,bG6]
    have hr:r.2=none:=hm.2.2.1 h0;rw[hr]at hb;exact hb k b e
   ·obtain⟨so,_,b',L,x',hr,_⟩:=hm.2.2.2.2.1 (by omega)
    rw[hr]at hb;have:=hb (k+1) b e
    grind
theorem X5.blks : ∀ {ps : List Pl} {vs : List SV} {es : List E} {bs : List Nat} {ds : List E} {nb : Nat}, X5 P U τ0 τ F s ps vs es bs → T7 U (sos ps) es ds →
  ∀b' y,lk (Y7 ps ds nb) b'=some y->(∃k b X x',b'=nb+k/\bs[k]? =some b/\y=some X/\s.get b=some x'/\(∀(τ2:Tau) o z,BD P U τ F o x' z->BD P U τ2 F o X z)/\(B6 P U x'->B6 P U X))\/
   (∃X x',b'∈rbs ps/\y=some X/\s.get b'=some x'/\(∀(τ2:Tau) o z,BD P U τ F o x' z->BD P U τ2 F o X z)/\(B6 P U x'->B6 P U X))
 | [],vs,es,bs,ds,nb,h,hd=>fun b' y hy=>by simp[Y7,lk]at hy
 |p::ps,[],es,bs,ds,nb,h,hd=>h.elim
 |p::ps,v::vs,es,bs,ds,nb,h,hd=>by
  obtain⟨r,M,K,rfl,rfl,hm,x⟩:=h;obtain⟨s1,s2,Y,V⟩:=aO8 hm hd;intro b' y hy;have C:=X5.blks (nb:=nb+p.g.na) x s2;have sub:∀b,b∈rbs ps->b∈rbs (p::ps):=fun b hb=>by
   unfold rbs
   grind
  by_cases d:p.g.na=0
  ·have hr:r.2=none:=hm.2.2.1 d
   cases e:p.g.fix (hd1 ds)with
   |none=>
    unfold Y7 at hy;rw[G.blk_none d]at hy;simp only[e]at hy
    rcases C b' y hy with⟨k,b,X,x',h1,h2⟩| ⟨X,x',h1,h2⟩
    ·exact Or.inl ⟨k,b,X,x',by rw[h1,d,bG6],by rw[hr];exact h2⟩
    ·grind
   |some q=>
    unfold Y7 at hy;rw[G.blk_none d]at hy;simp only[e]at hy;rw[j4]at hy;split at hy
    ·rename_i t
     obtain⟨m,L,x',k1,k2,k3⟩:=hm.2.2.2.2.2 _ _ e;obtain⟨X,D,O,R⟩:=k3 (hd1 ds) (s1 L .l k1 m);rw[e]at D;simp only[bA1]at D;simp only[bA1]at hy;have T:q.2=X:=by rw[D]
     rw[T]at hy;subst t;refine .inr ⟨X,x',?_,hy.symm,k2,O,R⟩;obtain⟨J,N⟩:=G.fix_num e (.int 0);unfold rbs
     grind
    ·rcases C b' y hy with⟨k,b,X,x',h1,h2⟩| ⟨X,x',h1,h2⟩
     ·exact Or.inl ⟨k,b,X,x',by rw[h1,d,bG6],by rw[hr];exact h2⟩
     ·grind
  ·have A:p.g.na=1:=V.resolve_left d
   obtain⟨so,m,b0,L,x',hr,B,hx,u⟩:=hm.2.2.2.2.1 d;obtain⟨J,W,k1,k2⟩:=u (hd1 ds) (s1 L so B m);have j:lk ((nb,some J)::Y7 ps (pop p.g ds) (nb+p.g.na)) b'=some y:=by
    unfold Y7 at hy
    grind
   rw[j4]at j;split at j
   ·rename_i t
    simp only[bA1]at j;exact .inl ⟨0,b0,_,x',t.symm,by rw[hr];rfl,j.symm,hx,k1,k2⟩
   ·rcases C b' y j with⟨k,b,X,n,h1,h2,h3⟩| ⟨X,n,h1,h2⟩
    ·exact .inl ⟨k+1,b,X,n,by rw[h1,A];omega,by rw[hr];exact h2,h3⟩
    ·grind
theorem ai4 {b:Nat}:∀ {ps:List Pl} {ds:List E} {nb:Nat},b∈rbs ps->b∈(Y7 ps ds nb).map Prod.fst
 | [],ds,nb,h=>by simp[rbs]at h
 |p::ps,ds,nb,h=>by
  unfold rbs at h;cases d:p.g.fix (.int 0)with
  |none=>
   rw[d]at h;have m:=ai4 (ds:=pop p.g ds) (nb:=nb+p.g.na) h;unfold Y7
   grind
  |some q=>
   rw[d]at h;have hb:p.g.blk p.a (hd1 ds)=none:=by
    cases k:p.g with
    |rwk b e z ph=>rfl
    |_=>rw[k]at d;cases d
   obtain⟨X,j⟩:=G.fix_num d (hd1 ds);unfold Y7;rw[hb,j];simp only[bF2,bD9]at h⊢
   rcases h with h|h
   ·grind
   ·exact .inr (ai4 (ds:=pop p.g ds) (nb:=nb+p.g.na) h)
end
end
end Go.Sx
namespace Go.Sx
open Go.Xe
def az9 :List (At×SV)->Fm
 | []=>[]
 | (p,v)::l=>match p with
  | .tmp t=>(t,v)::az9 l
  | .cell _ _=>az9 l
  | .no=>az9 l
def aU8 (b j:Nat):At->Bool
 | .tmp _=>false
 | .cell b' j'=>Nat.beq b b'&&Nat.beq j j'
 | .no=>false
def am5 :List (At×SV)->Nat->Nat->SV
 | [],_,_=>.any
 | (p,v)::l,b,j=>bif aU8 b j p then v else am5 l b j
def B7 (pv:List (At×SV))(b:Nat):Nat->Nat->List SV
 |_,0=>[]
 |j,n+1=>am5 pv b j::B7 pv b (j+1) n
def ovB (s1:SS)(pv:List (At×SV)):List Nat->List (Nat×Option n5)
 | []=>[]
 |b::l=>match s1.get b with
  |some (.cells c e z)=>(b,some (.cells (B7 pv b 0 c.length) e z))::ovB s1 pv l
  |_=>ovB s1 pv l
def L5 :List Nat->List (Nat×Option n5)
 | []=>[]
 |b::l=>(b,none)::L5 l
def aO9 :List Pl->Nat
 | []=>0
 |p::l=>p.g.na+aO9 l
def Z0 (ps:List Pl)(ds:List E)(s1:SS)(bs0 kill:List Nat):List (Nat×Option n5):=Y7 ps ds s1.nx++(ovB s1 (P3 ps ds s1.nx) bs0++L5 (kill++(bs0++(rbs ps++ [s1.nx]))))
def sT (ps:List Pl)(ds:List E)(s1:SS)(bs0 kill:List Nat):SS:= {s1 with h:=Z0 ps ds s1 bs0 kill++s1.h,nx:=s1.nx+aO9 ps}
def fT (ps:List Pl)(ds:List E)(s1:SS)(f0:Fm):Fm:=az9 (P3 ps ds s1.nx)++f0
theorem D6 {α:Type}(l m:List (Nat×α))(b:Nat):lk (l++m) b=match lk l b with|some x=>some x|none=>lk m b:=by
 induction l with
 |nil=>rfl
 |cons p l d=>
  obtain⟨k,x⟩:=p;rw[bG2,j4,j4]
  grind
theorem aI5 {α:Type}{b:Nat}:∀ {l:List (Nat×α)},lk l b=none->b∉l.map Prod.fst
 | [],_=>by simp
 | (k,y)::l,h=>by
  rw[j4]at h;split at h
  ·cases h
  ·rename_i e
   simp only[bF2,bD9,not_or];exact⟨fun h=>e h.symm,aI5 h⟩
theorem H4 {b:Nat}:∀ {l:List Nat},lk (L5 l) b=if b∈l then some none else none
 | []=>by simp[L5,lk]
 |k::l=>by
  rw[L5,j4,H4]
  grind
theorem ae7 (pv:List (At×SV))(b:Nat):∀(n j:Nat),(B7 pv b j n).length=n
 |0,_=>rfl
 |n+1,j=>by simp[B7,ae7 pv b n]
theorem av6 (pv:List (At×SV))(b:Nat):∀(n j i:Nat) (a:SV),(B7 pv b j n)[i]? =some a->i<n/\a=am5 pv b (j+i)
 |0,j,i,a,h=>by simp[B7]at h
 |n+1,j,0,a,h=>by simp only[B7,bB7,bA1]at h;exact⟨by omega,h.symm⟩
 |n+1,j,i+1,a,h=>by
  simp only[B7,bB2]at h;obtain⟨h1,h2⟩:=av6 pv b n (j+1) i a h
  grind
theorem ap9 {b j:Nat}:∀(pv:List (At×SV)),am5 pv b j= .any\/ ∃(i:Nat) (q:At×SV),pv[i]? =some q/\q.1= .cell b j/\am5 pv b j=q.2
 | []=>.inl rfl
 | (p,v)::l=>by
  unfold am5;cases hc:aU8 b j p with
  |true=>
   refine .inr ⟨0,(p,v),rfl,?_,rfl⟩;cases p with
   |tmp t=>cases hc
   |no=>cases hc
   |cell b' j'=>
    simp only[aU8,bA2,bE1]at hc
    grind
  |false=>
   rcases ap9 l with h| ⟨i,q,h1,h2,h3⟩
   ·exact .inl h
   ·exact .inr ⟨i+1,q,h1,h2,h3⟩
theorem al0 {k:Nat}{a:SV}:∀(pv:List (At×SV)),lk (az9 pv) k=some a-> ∃(i:Nat) (q:At×SV),pv[i]? =some q/\q.1= .tmp k/\q.2=a
 | [],h=>by cases h
 | (p,v)::l,h=>by
  unfold az9 at h;split at h
  ·rename_i t
   rw[j4]at h;split at h
   ·rename_i e
    simp only[bA1]at h;exact⟨0,(.tmp t,v),rfl,by rw[e],h⟩
   ·obtain⟨i,q,h1,h2⟩:=al0 l h
    exact⟨i+1,q,h1,h2⟩
  ·obtain⟨i,q,h1,h2⟩:=al0 l h
   exact⟨i+1,q,h1,h2⟩
  ·obtain⟨i,q,h1,h2⟩:=al0 l h
   exact⟨i+1,q,h1,h2⟩
theorem ad4 {k:Nat}:∀(pv:List (At×SV)),lk (az9 pv) k=none-> ∀q∈pv,q.1≠ .tmp k
 | [],_=>fun q hq=>by simp at hq
 | (p,v)::l,h=>by
  unfold az9 at h;intro q hq d;split at h
  ·rename_i t
   rw[j4]at h;split at h
   ·cases h
   ·rename_i e
    rcases bD9.1 hq with rfl|hq
    ·grind
    ·exact ad4 l h q hq d
  ·rcases bD9.1 hq with rfl|hq
   ·cases d
   ·exact ad4 l h q hq d
  ·rcases bD9.1 hq with rfl|hq
   ·cases d
   ·exact ad4 l h q hq d
theorem aH6 :∀(ps:List Pl) (ds:List E) (nb i:Nat) (q:At×SV),(P3 ps ds nb)[i]? =some q-> ∃p,ps[i]? =some p/\q.1=p.at_
 | [],ds,nb,i,q,h=>by simp[P3]at h
 |p::ps,ds,nb,0,q,h=>by simp only[P3,bB7,bA1]at h;exact⟨p,rfl,by rw[<-h]⟩
 |p::ps,ds,nb,i+1,q,h=>by
  simp only[P3,bB2]at h;exact aH6 ps _ _ i q h
theorem aM4 :∀(ps:List Pl) (ds:List E) (nb:Nat) (p:Pl),p∈ps-> ∃q∈P3 ps ds nb,q.1=p.at_
 | [],_,_,p,h=>by simp at h
 |p'::ps,ds,nb,p,h=>by
  rcases bD9.1 h with rfl|h
  ·exact⟨_,by simp[P3];exact .inl rfl,rfl⟩
  ·obtain⟨q,h1,h2⟩:=aM4 ps (pop p'.g ds) (nb+p'.g.na) p h
   exact⟨q,by simp[P3,h1],h2⟩
theorem aW5 {s1 : SS} {pv : List (At × SV)} {b : Nat} : ∀ {l : List Nat}, (∀ b ∈ l, ∃ c e z, s1.get b = some (.cells c e z)) →
  ∀y,lk (ovB s1 pv l) b=y->(b∈l/\ ∃c e z,s1.get b=some (.cells c e z)/\y=some (some (.cells (B7 pv b 0 c.length) e z)))\/(b∉l/\y=none)
 | [],_,y,h=>.inr ⟨by simp,h.symm⟩
 |b'::l,hl,y,h=>by
  obtain⟨c,e,z,hb⟩:=hl b' (by simp)
  unfold ovB at h;rw[hb]at h;simp only at h;rw[j4]at h
  by_cases d:b'=b
  ·grind
  ·rw[bC1 d]at h
   rcases aW5 (fun b hb=>hl b (by simp[hb])) y h with⟨h1,h2⟩| ⟨h1,h2⟩
   ·grind
   ·grind
section
variable {P :Program}{U:Nat->List Dat->Dat}
def PX (τ:Tau)(tm:T Value)(hp:Hp):At->Value->Prop
 | .tmp t,x=>x=(tm.get t).getD undef
 | .cell b j,x=>∃i o cs n e z,τ b=some (some (i,o))/\hp.m.get i=some (.cells cs n e z)/\cs.get (o+j)=some x
 | .no,_=>True
theorem X5.live {τ0 τ:Tau}{F:Nat->Option Blk}{s:SS}:∀ {ps:List Pl} {vs:List SV} {es:List E} {bs:List Nat},X5 P U τ0 τ F s ps vs es bs-> ∀ {k b:Nat},bs[k]? =some b-> ∃x,s.get b=some x
 | [],[],es,bs,h,k,b,hb=>by rw[h.2]at hb;simp at hb
 | [],_::_,es,bs,h,k,b,hb=>h.elim
 |p::ps,[],es,bs,h,k,b,hb=>h.elim
 |p::ps,v::vs,es,bs,h,k,b,hb=>by
  obtain⟨r,m,j,rfl,rfl,hm,d⟩:=h;cases hr:r.2 with
  |none=>rw[hr]at hb;exact d.live hb
  |some b0=>
   rw[hr]at hb;cases k with
   |succ k=>exact d.live (k:=k) hb
   |zero=>
    have e:p.g.na≠0:=fun h0=>by rw[hm.2.2.1 h0]at hr;cases hr
    obtain⟨so,_,n,L,x',h1,_,hx,_⟩:=hm.2.2.2.2.1 e;rw[hr]at h1;simp only[bA1]at h1;have e0:b0=b:=by simpa [G7]using hb
    grind
variable (P U) in
structure aH3 (τ1:Tau)(F1:Nat->Option Blk)(s1:SS)(hp1:Hp)(f0:Fm)(tm1:T Value)(ps:List Pl)(bs0 kill:List Nat)(τ:Tau)(F:Nat->Option Blk)(s:SS)(hp:Hp)(f:Fm)(tm:T Value)(vs:List SV)(es:List E)(bs:List Nat)(xs:List Value):Prop where
 hs1:SD P U τ1 F1 s1 hp1
 ht1:TD P U τ1 F1 f0 tm1
 hs:SD P U τ F s hp
 ht:TD P U τ F f tm
 ex:Ext τ1 F1 s1 hp1 τ F s hp
 mt:X5 P U τ1 τ F s ps vs es bs
 vx:VDL P U τ F vs xs
 px:∀(i:Nat) p x,ps[i]? =some p->xs[i]? =some x->PX τ tm hp p.at_ x
 lx:xs.length=ps.length
 pa:∀p∈ps,∃F0 x0,VD P U τ1 F0 p.a x0
 fr:∀t,(∀p∈ps,p.at_≠ .tmp t)->lk f t=lk f0 t
 ky:∀l,s.h=l++s1.h-> ∀b∈l.map Prod.fst,b<s1.nx->b∈bs0\/b∈kill\/b∈rbs ps
 rb:∀b∈rbs ps,b∉bs0/\b∉kill/\b<s1.nx
 c0:∀b∈bs0,b∉kill/\ ∃l l' e z,s1.get b=some (.cells l e z)/\s.get b=some (.cells l' e z)/\l'.length=l.length
 bd:∀(k k':Nat) b,bs[k]? =some b->bs[k']? =some b->k=k'
 bf:∀b∈bs,b∉bs0/\(s1.nx<=b\/b∈kill)
 lb:bs.length=aO9 ps
variable {τ1 :Tau}{F1:Nat->Option Blk}{s1:SS}{hp1:Hp}{f0:Fm}{tm1:T Value}{ps:List Pl}{bs0 kill:List Nat}{τ:Tau}{F:Nat->Option Blk}{s:SS}{hp:Hp}{f:Fm}{tm:T Value}{vs:List SV}{es:List E}{bs:List Nat}{xs:List Value}
def H9 (τ1 τ:Tau)(n:Nat)(bs:List Nat):Tau:=fun b=>if b<n then τ1 b else match bs[b-n]? with|some b'=>τ b'|none=>none
theorem ad3 {n b:Nat}(h:b<n):H9 τ1 τ n bs b=τ1 b:=by unfold H9;rw[bC3 h]
theorem ak9 {n k b:Nat}(h:bs[k]? =some b):H9 τ1 τ n bs (n+k)=τ b:=by
 unfold H9;rw[bC1 (by omega),bH3,h]
theorem aH3.head (h : aH3 P U τ1 F1 s1 hp1 f0 tm1 ps bs0 kill τ F s hp f tm vs es bs xs) {ds : List E} (hd : T7 U (sos ps) es ds) :
  SD P U (H9 τ1 τ s1.nx bs) F (sT ps ds s1 bs0 kill) hp/\TD P U (H9 τ1 τ s1.nx bs) F (fT ps ds s1 f0) tm/\Ext τ1 F1 s1 hp1 (H9 τ1 τ s1.nx bs) F (sT ps ds s1 bs0 kill) hp:=by
 obtain⟨l0,a1,a2,a3,a4,_⟩:=h.ex.hh;have ab:=h.ky l0 a1;have G:∀b p,τ1 b=some p->b<s1.nx:=fun b p hb=>Nat.lt_of_not_le fun ac=>by rw[h.hs1.new b ac]at hb;cases hb
 have hk:∀b p,τ1 b=some p->H9 τ1 τ s1.nx bs b=τ b:=fun b p hb=>by rw[ad3 (G b p hb),h.ex.st b (G b p hb)]
 have lo:∀b,b<s1.nx->H9 τ1 τ s1.nx bs b=τ b:=fun b hb=>by rw[ad3 hb,h.ex.st b hb]
 have W:=h.mt.vals hd hk (fun k b hb=>ak9 (n:=s1.nx) hb) h.pa h.vx
 have T:=h.mt.blks (nb:=s1.nx) hd;have O:Tle τ1 (H9 τ1 τ s1.nx bs):=fun b p hb=>by rw[ad3 (G b p hb)];exact hb
 have ah:∀(i:Nat) q,(P3 ps ds s1.nx)[i]? =some q-> ∃x,PX τ tm hp q.1 x/\VD P U (H9 τ1 τ s1.nx bs) F q.2 x:=by
  intro i q hq;obtain⟨p,h1,h2⟩:=aH6 _ _ _ _ _ hq;have hi:i<xs.length:=by rw[h.lx];exact(bA4.1 h1).1
  have hx:=bB3 hi;exact⟨_,by rw[h2];exact h.px i p _ h1 hx,W i q _ hq hx⟩
 have keep:∀b,b<s1.nx->b∉bs0->b∉kill->b∉rbs ps->s.get b=s1.get b:=fun b hb h1 h2 R=>by
  unfold SS.get;rw[a1,at8 _ _ fun hm=>?_]
  grind
 have aa:∀b∈bs0,∃c e z,s1.get b=some (.cells c e z):=fun b hb=>by
  obtain⟨_,l,_,e,z,h1,_⟩:=h.c0 b hb
  grind
 have   B : ∀ b x, (sT ps ds s1 bs0 kill).get b = some x →
   (∃k b0 x',b=s1.nx+k/\bs[k]? =some b0/\s.get b0=some x'/\(∀(τ2:Tau) o z,BD P U τ F o x' z->BD P U τ2 F o x z)/\(B6 P U x'->B6 P U x))\/
   (b<s1.nx/\b∉kill/\b∈bs0/\ ∃c e z,s1.get b=some (.cells c e z)/\x= .cells (B7 (P3 ps ds s1.nx) b 0 c.length) e z)\/
   (b<s1.nx/\b∉kill/\b∉bs0/\b∉rbs ps/\s1.get b=some x)\/
   (b<s1.nx/\b∉kill/\b∈rbs ps/\ ∃x',s.get b=some x'/\(∀(τ2:Tau) o z,BD P U τ F o x' z->BD P U τ2 F o x z)/\(B6 P U x'->B6 P U x)):=by
  intro b x hb;have d:(match lk (Z0 ps ds s1 bs0 kill++s1.h) b with|some x=>x|none=>none)=some x:=hb
  rw[D6,Z0,D6,D6]at d;cases N:lk (Y7 ps ds s1.nx) b with
  |some y=>
   rw[N]at d;simp only at d
   rcases T b y N with⟨k,b0,X,x',h1,h2,h3,h4,h5,h6⟩| ⟨X,x',h1,h3,h4,h5,h6⟩
   ·grind
   ·rw[h3]at d
    simp only[bA1]at d;subst d;obtain⟨_,g2,g3⟩:=h.rb b h1
    grind
  |none=>
   rw[N]at d;simp only at d
   rcases aW5 (s1:=s1) (pv:=P3 ps ds s1.nx) (b:=b) aa _ rfl with⟨h1,c,e,z,h2,h3⟩| ⟨h1,h3⟩
   ·rw[h3]at d
    simp only[bA1]at d;exact .inr (.inl ⟨h.hs1.bound h2,(h.c0 b h1).1,h1,c,e,z,h2,d.symm⟩)
   ·rw[h3,H4]at d
    by_cases V:b∈kill++(bs0++(rbs ps++ [s1.nx]))
    ·rw[bC3 V]at d;cases d
    ·rw[bC1 V]at d
     have Y:s1.get b=some x:=d;exact .inr (.inr (.inl ⟨h.hs1.bound Y,fun h=>V (bJ0 _ h),h1,fun h=>aI5 N (ai4 h),Y⟩))
 have aI3:∀b∈bs0,b∈(Z0 ps ds s1 bs0 kill).map Prod.fst:=fun b hb=>by
  rcases aW5 (s1:=s1) (pv:=P3 ps ds s1.nx) (b:=b) aa _ rfl with⟨_,c,e,z,_,h3⟩| ⟨h1,_⟩
  ·unfold Z0
   simp only[bE8,bD8];exact .inr (.inl (bI1.2 ⟨_,M6 h3,rfl⟩))
  ·grind
 have ae:∀b∈kill,b∈(Z0 ps ds s1 bs0 kill).map Prod.fst:=fun b hb=>by
  unfold Z0;simp only[bE8,bD8];refine .inr (.inr (bI1.2 ⟨(b,none),M6 ?_,rfl⟩));rw[H4,bC3 (bJ0 _ hb)]
 have mark:(s1.nx,none)∈Z0 ps ds s1 bs0 kill:=by
  unfold Z0;refine bI3 _ (bI3 _ (M6 ?_));rw[H4,bC3 (bI3 _ (by simp))]
 have A:∀b∈l0.map Prod.fst,b<s1.nx->b∈(Z0 ps ds s1 bs0 kill).map Prod.fst:=fun b hb hlt=>by
  rcases ab b hb hlt with h1|h1|h1
  ·grind
  ·grind
  ·unfold Z0
   simp only[bE8,bD8];exact .inl (ai4 h1)
 have J:∀k b0,bs[k]? =some b0->(if s1.nx+k<s1.nx then s1.nx+k else bs.getD (s1.nx+k-s1.nx) 0)=b0:=fun k b0 hb=>by
  rw[bC1 (by omega),bH3,List.getD,hb];rfl
 refine⟨h.hs.rebase (fun b=>if b<s1.nx then b else bs.getD (b-s1.nx) 0) (fun b x hb=>?_) (fun b c x y hb hc ad=>?_) (fun b i o hb=>?_) (fun b hb=>?_) h.hs1.fc (fun r hr=>(h.hs1.fz r hr).mono O h.ex.f),fun k a u=>?_,?_⟩
 ·rcases B b x hb with⟨k,b0,x',rfl,h2,h3,h4,h5⟩| ⟨hlt,t,C,c,e,z,h2,rfl⟩| ⟨hlt,t,C,al,h2⟩| ⟨hlt,t,_,x',h3,h4,h5⟩
  ·simp only[J k b0 h2]
   exact⟨x',h3,ak9 h2,fun i o y _ _ K=>h4 _ o y K,h5⟩
  ·simp only[bC3 hlt]
   obtain⟨_,l,l',e',z',k1,k2,k3⟩:=h.c0 b C;rw[h2]at k1;simp only[bA1,n5.cells.injEq]at k1;obtain⟨rfl,rfl,rfl⟩:=k1;refine⟨_,k2,lo b hlt,fun i o y g hy ⟨cs,n,e1,e2,e3⟩=>?_,fun⟨L,e,z,ph,h,_⟩=>by cases h⟩
   refine⟨cs,n,e1,by rw[ae7,<-k3];exact e2,fun j a ha=>?_⟩
   obtain⟨hj,rfl⟩:=av6 _ _ _ _ _ _ ha;rw[bD3];have aj:j<l'.length:=by omega
   obtain⟨x,hx,_⟩:=e3 j _ (bB3 aj)
   rcases ap9 (b:=b) (j:=j) (P3 ps ds s1.nx)with h1| ⟨i',q,q1,q2,q3⟩
   ·exact⟨x,hx,by rw[h1];exact .any x⟩
   ·obtain⟨x2,px,hv⟩:=ah i' q q1
    rw[q2]at px;obtain⟨i2,o2,ao,n2,ap,z2,p1,p2,p3⟩:=px;rw[g]at p1;cases p1;rw[hy,e1]at p2;simp only[bA1,Blk.cells.injEq]at p2;obtain⟨rfl,_⟩:=p2;exact⟨x2,p3,by rw[q3];exact hv⟩
  ·simp only[bC3 hlt]
   refine⟨x,by rw[keep b hlt C t al];exact h2,lo b hlt,fun i o y g hy K=>?_,id⟩
   rcases h.hs1.live b x h2 with⟨i1,o1,y1,g1,_,_,g4⟩| ⟨g1,_⟩
   ·exact g4.re K hk
   ·rw[h.ex.st b hlt,g1]at g;cases g
  ·simp only[bC3 hlt]
   exact⟨x',h3,lo b hlt,fun i o y _ _ K=>h4 _ o y K,h5⟩
 ·have hi : ∀ (b : Nat) (x : n5) (k b0 : Nat), (sT ps ds s1 bs0 kill).get b = some x → b < s1.nx → bs[k]? = some b0 → b ≠ b0 := by
   intro b x k b0 hb hlt ak e;subst e;obtain⟨f1,f2⟩:=h.bf b (bB1 ak)
   rcases B b x hb with⟨k',b0,x',rfl,_⟩| ⟨_,t,_⟩| ⟨_,t,_⟩| ⟨_,t,_⟩
   ·omega
   ·rcases f2 with h1|h1
    ·omega
    ·exact t h1
   ·rcases f2 with h1|h1
    ·omega
    ·exact t h1
   ·rcases f2 with h1|h1
    ·omega
    ·exact t h1
  by_cases D:b<s1.nx
  ·by_cases m:c<s1.nx
   ·simp only[bC3 D,bC3 m];exact ad
   ·rcases B c y hc with⟨k,b0,x',rfl,h2,_⟩| ⟨hlt,_⟩| ⟨hlt,_⟩| ⟨hlt,_⟩
    ·simp only[J k b0 h2,bC3 D]
     exact hi b x k b0 hb D h2
    ·omega
    ·exact absurd hlt m
    ·exact absurd hlt m
  ·rcases B b x hb with⟨k,b0,x',rfl,h2,_⟩| ⟨hlt,_⟩| ⟨hlt,_⟩| ⟨hlt,_⟩
   ·by_cases m:c<s1.nx
    ·simp only[J k b0 h2,bC3 m]
     exact(hi c y k b0 hc m h2).symm
    ·rcases B c y hc with⟨k',ai,x',rfl,R,_⟩| ⟨hlt,_⟩| ⟨hlt,_⟩| ⟨hlt,_⟩
     ·simp only[J k b0 h2,J k' ai R]
      intro e;subst e;exact ad (by rw[h.bd k k' b0 h2 R])
     ·exact absurd hlt m
     ·exact absurd hlt m
     ·exact absurd hlt m
   ·exact absurd hlt D
   ·exact absurd hlt D
   ·exact absurd hlt D
 ·by_cases hlt:b<s1.nx
  ·rw[lo b hlt]at hb;exact h.hs.lt b i o hb
  ·unfold H9 at hb
   rw[bC1 hlt]at hb;split at hb
   ·exact h.hs.lt _ i o hb
   ·cases hb
 ·have ac:s1.nx+aO9 ps<=b:=hb
  unfold H9;rw[bC1 (by omega),bJ9 (by rw[h.lb];omega)]
 ·unfold fT at u
  rw[D6]at u;cases N:lk (az9 (P3 ps ds s1.nx)) k with
  |some y=>
   rw[N]at u;simp only[bA1]at u;subst u;obtain⟨i,q,h1,h2,h3⟩:=al0 _ N;obtain⟨x,px,hv⟩:=ah i q h1;rw[h2]at px;rw[<-h3,<-show x=(tm.get k).getD undef from px];exact hv
  |none=>
   rw[N]at u;have M:=ad4 _ N;have:lk f k=lk f0 k:=h.fr k fun p hp e=>by
    obtain⟨q,q1,q2⟩:=aM4 ps ds s1.nx p hp;exact M q q1 (by rw[q2,e])
   exact(h.ht1 k a u).re (h.ht k a (by rw[this];exact u)) hk
 ·refine ⟨   O, h.ex.f, h.ex.nx, Nat.le_add_right _ _, fun b hb => ad3 hb, fun b x hb hlt => ?_, ⟨Z0 ps ds s1 bs0 kill, rfl, fun i hi   M => ?_, fun b i o hb  g => ?_, fun i y hi hy => ?_, fun hp => absurd rfl (hp (s1.nx, none) mark)⟩, ⟨[], rfl⟩, ⟨Z0 ps ds s1 bs0 kill, rfl, fun b c e z i o cs n hb ht hi hg hl => ⟨cs, ?_, fun _ _ => rfl⟩⟩⟩
  rotate_right
  ·rw[a2 i hi fun b' x o' h1 h2 h3=>?_]
   ·exact hg
   ·by_cases Z:b'=b
    ·subst Z
     have M:(b',none)∈Z0 ps ds s1 bs0 kill:=by
      unfold Z0;refine bI3 _ (bI3 _ (M6 ?_));rw[H4,bC3 ?_];simp only[bD8]
      rcases ab b' h3 (h.hs1.bound h1)with q|q|q
      ·exact .inr (.inl q)
      ·exact .inl q
      ·exact .inr (.inr (.inl q))
     obtain⟨_,q,_⟩:=hl none M;cases q
    ·exact h.hs1.inj b' b x _ i o' i o h1 hb Z h2 ht rfl
  ·rcases B b x hb with⟨k,b0,x',rfl,_⟩| ⟨_,_,_,c,e,z,h2,_⟩| ⟨_,_,_,_,h2⟩| ⟨_,_,_,x',h2,_⟩
   ·omega
   ·exact⟨_,h2⟩
   ·exact⟨_,h2⟩
   ·exact h.ex.low b x' h2 hlt
  ·exact a2 i hi fun b x o hb g hm=>M b x o hb g (A b hm (h.hs1.bound hb))
  ·unfold H9 at  g
   rw[bC1 (by omega)]at g
   split at g
   ·rename_i b'   d
    rcases(h.bf b' (bB1 d)).2 with h1|h1
    ·rcases a3 b' i o h1 g with h2| ⟨b0,x,o0,h2,h3,h4⟩
     ·exact .inl h2
     ·exact .inr ⟨b0,x,o0,h2,h3,A b0 h4 (h.hs1.bound h2)⟩
    ·by_cases hlt : b' < s1.nx
     ·have hg : ∃ x, s.get b' = some x := by
       exact h.mt.live d
      obtain⟨x,hx⟩:=hg;obtain⟨y,hy⟩:=h.ex.low b' x hx hlt;rw[h.ex.st b' hlt]at g;exact .inr ⟨b',y,o,hy,g,ae b' h1⟩
     ·rcases a3 b' i o (bH7 hlt) g with h2| ⟨b0,x,o0,h2,h3,h4⟩
      ·exact .inl h2
      ·exact .inr ⟨b0,x,o0,h2,h3,A b0 h4 (h.hs1.bound h2)⟩
   ·cases g
  ·rcases a4 i y hi hy with h1| ⟨b,o,h1,h2⟩
   ·exact .inl h1
   ·by_cases hlt:b<s1.nx
    ·exact .inr ⟨b,o,by rw[lo b hlt];exact h1,A b h2 hlt⟩
    ·rcases a3 b i o (bH7 hlt) h1 with h3| ⟨b0,x,o0,h3,h4,h5⟩
     ·omega
     ·have C:=h.hs1.bound h3
      exact .inr ⟨b0,o0,by rw[ad3 C];exact h4,A b0 h5 C⟩
end
end Go.Sx
namespace Go.Sx
open Go.Xe
structure L3 where
 name:String
 places:Code->Fm->SS->Option (List (At×G)×List Nat)
 inv:List Dat->Prop
 mu:List Dat->Nat
 gh:List (So×E):=[]
def ba6 (U:Nat->List Dat->Dat)(k:So)(e:E):Dat:=match k with
 | .i=>.int (e.toI U)
 | .b=>.bool (e.den U).toBool
 | .s=>.str (e.den U).toStr
 | .l=>.lst (e.toR U)
def i6 (U:Nat->List Dat->Dat):List So->List E->List Dat
 |k::ks,e::es=>ba6 U k e::i6 U ks es
 |_,_=>[]
def be6 {α:Type}:List So->Nat->(List E->Tr α)->Tr α
 | [],_,k=>k []
 |so::l,n,k=>.all so n fun e=>be6 l (n+1) fun es=>k (e::es)
def s8 (U:Nat->List Dat->Dat):List So->Nat->List E->List E
 |k::ks,n,e::es=>.dat n (ba6 U k e)::s8 U ks (n+1) es
 |_,_,_=>[]
def atv (f:Fm)(s:SS):At->Option SV
 | .tmp t=>match lk f t with
  |some v=>some v
  |none=>some .any
 | .cell b j=>match s.get b with
  |some (.cells l _ _)=>l[j]?
  |_=>none
 | .no=>some .any
def P8 (f:Fm)(s:SS):List (At×G)->Option (List SV)
 | []=>some []
 |p::l=>match atv f s p.1 with
  |some v=>match P8 f s l with
   |some vs=>some (v::vs)
   |none=>none
  |none=>none
def pls :List (At×G)->List SV->List Pl
 |p::l,v::vs=>⟨p.1,p.2,v⟩::pls l vs
 |_,_=>[]
def bm1 (t:Nat):At->Bool
 | .tmp t'=>Nat.beq t t'
 | .cell _ _=>false
 | .no=>false
def af9 :List Nat->Bool
 | []=>true
 |b::l=> !J0 b l&&af9 l
def N8 (s1 s:SS)(b:Nat):Bool:=match s1.get b with
 |some (.cells l e z)=>match s.get b with
  |some (.cells l' e' z')=>Nat.beq e e'&&Nat.beq z z'&&Nat.beq l.length l'.length
  |_=>false
 |_=>false
def aN2 (n:Nat)(f:Fm):List Nat:=match n,f with
 |n+1,(k,_)::f=>k::aN2 n f
 |_,_=>[]
section
variable (P :Program)(U:Nat->List Dat->Dat)
def mdone {α:Type}(l1 l2:Lab)(p q:Prop):M α:=fun _=>.need l1 p (.need l2 q .done)
def bq1 (an : L3) (pg : List (At × G)) (ps : List Pl) (bs0 kill : List Nat) (s1 : SS) (f0 : Fm) (ds : List E) (r : Exit × Fm) : M (Exit × Fm) := match r.1 with
 | .normal =>
  bif (aN2 (r.2.length - (fT ps ds s1 f0).length) r.2).all (fun t => pg.any (fun p => bm1 t p.1)) then
   i7 fun s=>match P8 r.2 s pg with
   |none=>a6 "loop: a place is gone"
   | some vs0 => a7 (norm P U ps vs0) fun vs => a7 (mtP U ps vs) fun t => i7 fun s2 =>
    bif (H5 (s2.h.length - (sT ps ds s1 bs0 kill).h.length) s2.h).all (fun b => Nat.ble s1.nx b || J0 b bs0 || J0 b kill || J0 b (rbs ps)) && bs0.all (N8 s1 s2) && af9 t.2 &&
      t.2.all (fun b=> !J0 b bs0&&(Nat.ble s1.nx b||J0 b kill))&&Nat.beq t.2.length (aO9 ps)then
     mdone (.pt (an.name++ "Inv") [an.gh,(sos ps).zip t.1]) (.mu (an.name++ "Mu") an.gh ((sos ps).zip t.1) ((sos ps).zip ds)) (an.inv (i6 U (sos ps) t.1)) (an.mu (i6 U (sos ps) t.1)<an.mu (i6 U (sos ps) ds))
    else a6 "loop: the head"
  else a6 "loop: a temporary"
 |e=>b9 (e,r.2)
def fvb (s:SS)(n:Nat):SS:= {s with fv:=s.fv+n}
def shead (an:L3)(pg:List (At×G))(ps:List Pl)(bs0:List Nat)(es:List E)(kill:List Nat)(body:Fm->M (Exit×Fm))(f0:Fm):M (Exit×Fm):=fun s=>
 .need (.pt (an.name++ "Inv") [an.gh,(sos ps).zip es]) (an.inv (i6 U (sos ps) es)) (be6 (sos ps) s.fv fun ds=>.asm (.pt (an.name++ "Inv") [an.gh,(sos ps).zip ds]) (an.inv (i6 U (sos ps) ds))
  (a7 (body (fT ps ds (fvb s (sos ps).length) f0)) (bq1 P U an pg ps bs0 kill (fvb s (sos ps).length) f0 ds) (sT ps ds (fvb s (sos ps).length) bs0 kill)))
def bq4 (an:L3)(b:Code)(body:Fm->M (Exit×Fm))(f0:Fm):M (Exit×Fm):=i7 fun s0=>match an.places b f0 s0 with
 |none=>a6 "loop: places"
 |some (pg,bs0)=>match P8 f0 s0 pg with
  |none=>a6 "loop: no such place"
  |some vs0=>a7 (norm P U (pls pg vs0) vs0) fun vs=>a7 (mtP U (pls pg vs0) vs) fun t=>i7 fun s1=>
   bif bs0.all (N8 s1 s1)&&af9 t.2&&t.2.all (fun b=> !J0 b bs0)&&Nat.beq t.2.length (aO9 (pls pg vs0))&&(rbs (pls pg vs0)).all (fun b=> !J0 b bs0&& !J0 b t.2&&Nat.ble (b+1) s1.nx)then
    shead P U an pg (pls pg vs0) bs0 t.1 t.2 body f0
   else a6 "loop: the start"
end
section
variable {P :Program}{U:Nat->List Dat->Dat}{ov:FuncId->Option TypeId}{nt:Nat}
theorem at4 {α:Type}{Q:α->Prop}:∀(l:List So) (n:Nat) (k:List E->Tr α),(be6 l n k).vc U Q-> ∀es:List E,es.length=l.length->(k (s8 U l n es)).vc U Q
 | [],n,k,h,es,hl=>by
  cases es with
  |nil=>exact h
  |cons e es=>simp at hl
 |so::l,n,k,h,es,hl=>by
  cases es with
  |nil=>simp at hl
  |cons e es=>
   have d:es.length=l.length:=by grind
   have key:(be6 l (n+1) fun es=>k (.dat n (ba6 U so e)::es)).vc U Q:=by
    cases so
    ·exact h (e.toI U)
    ·exact h (e.den U).toBool
    ·exact h (e.den U).toStr
    ·exact h (e.toR U)
   exact at4 l (n+1) _ key es d
theorem q9 :∀(l:List So) (n:Nat) (es:List E),es.length=l.length->T7 U l es (s8 U l n es)
 | [],n,[],h=>trivial
 | [],n,e::es,h=>by simp at h
 |k::l,n,[],h=>by simp at h
 |k::l,n,e::es,h=>⟨by cases k<;>rfl,q9 l (n+1) es (by simpa using h)⟩
theorem J5 :∀(l:List So) (n:Nat) (es:List E),es.length=l.length->i6 U l (s8 U l n es)=i6 U l es
 | [],n,[],h=>rfl
 | [],n,e::es,h=>by simp at h
 |k::l,n,[],h=>by simp at h
 |k::l,n,e::es,h=>by
  unfold s8 i6;rw[J5 l (n+1) es (by simpa using h)]
  cases k<;>rfl
theorem aI8 {τ0 τ:Tau}{F:Nat->Option Blk}{s:SS}:∀ {ps:List Pl} {vs:List SV} {es:List E} {bs:List Nat},X5 P U τ0 τ F s ps vs es bs->es.length=(sos ps).length
 | [],[],es,bs,h=>by rw[h.1];rfl
 | [],_::_,es,bs,h=>h.elim
 |p::ps,[],es,bs,h=>h.elim
 |p::ps,v::vs,es,bs,h=>by
  obtain⟨r,n,m,rfl,rfl,hm,j⟩:=h;have k:=aI8 j;unfold sos;cases d:p.g.so with
  |none=>rw[hm.2.1 d];exact k
  |some so=>
   obtain⟨e,he⟩:=hm.1 so d;rw[he];simp only[G7,bE4,k]
theorem aa2 {b:Nat}:∀ {l:List Nat},J0 b l=true->b∈l
 | [],h=>by cases h
 |k::l,h=>by
  unfold J0 at h
  by_cases e:b=k
  ·grind
  ·rw[n8 e,bB9]at h
   exact bF9 _ (aa2 h)
theorem Z7 :∀ {l:List Nat},af9 l=true-> ∀(k k':Nat) b,l[k]? =some b->l[k']? =some b->k=k'
 | [],_,k,k',b,h,_=>by simp at h
 |c::l,hd,k,k',b,h,h'=>by
  unfold af9 at hd;rw[bA2,bE7]at hd;have hn:=E6 hd.1;cases k with
  |zero=>grind
  |succ k=>
   cases k' with
   |zero=>grind
   |succ k'=>
    simp only[bB2]at h h';rw[Z7 hd.2 k k' b h h']
theorem ak2 {s1 s:SS}{b:Nat}(h:N8 s1 s b=true):∃l l' e z,s1.get b=some (.cells l e z)/\s.get b=some (.cells l' e z)/\l'.length=l.length:=by
 unfold N8 at h;split at h
 ·rename_i l e z h1
  split at h
  ·rename_i l' e' d h2
   simp only[bA2,bE1]at h
   grind
  ·cases h
 ·cases h
theorem aD5 {b:Nat}:∀(ps:List Pl) (ds:List E) (nb:Nat),b∈(Y7 ps ds nb).map Prod.fst->nb<=b\/b∈rbs ps
 | [],ds,nb,h=>by simp[Y7]at h
 |p::ps,ds,nb,h=>by
  have sub:∀b,b∈rbs ps->b∈rbs (p::ps):=fun b hb=>by
   unfold rbs
   grind
  have d:b∈(Y7 ps (pop p.g ds) (nb+p.g.na)).map Prod.fst->nb<=b\/b∈rbs (p::ps):=fun h=>by
   rcases aD5 ps _ _ h with h|h
   ·grind
   ·grind
  unfold Y7 at h;split at h
  ·grind
  ·split at h
   ·rename_i q hq
    simp only[bF2,bD9]at h
    rcases h with rfl|h
    ·obtain⟨X,e⟩:=G.fix_num hq (.int 0)
     right
     unfold rbs
     grind
    ·exact d h
   ·exact d h
theorem ax8 {s1:SS}{pv:List (At×SV)}{b:Nat}:∀(l:List Nat),b∈(ovB s1 pv l).map Prod.fst->b∈l
 | [],h=>by simp[ovB]at h
 |c::l,h=>by
  unfold ovB at h;split at h
  ·simp only[bF2,bD9]at h
   rcases h with rfl|h
   ·simp
   ·exact bF9 _ (ax8 l h)
  ·exact bF9 _ (ax8 l h)
theorem aw4 {b:Nat}:∀(l:List Nat),b∈(L5 l).map Prod.fst->b∈l
 | [],h=>by simp[L5]at h
 |c::l,h=>by
  simp only[L5,bF2,bD9]at h
  rcases h with rfl|h
  ·simp
  ·exact bF9 _ (aw4 l h)
theorem bc0 :∀ {pg:List (At×G)} {vs:List SV} {i:Nat} {p:Pl},(pls pg vs)[i]? =some p-> ∃q v,pg[i]? =some q/\vs[i]? =some v/\p.at_=q.1/\p.a=v
 | [],vs,i,p,h=>by simp[pls]at h
 |q::l,[],i,p,h=>by simp[pls]at h
 |q::l,v::vs,0,p,h=>by simp only[pls,bB7,bA1]at h;exact⟨q,v,rfl,rfl,by rw[<-h],by rw[<-h]⟩
 |q::l,v::vs,i+1,p,h=>by
  simp only[pls,bB2]at h;obtain⟨d,v',h1,h2,h3⟩:=bc0 (pg:=l) (vs:=vs) (i:=i) h
  grind
theorem bo5 :∀ {pg:List (At×G)} {vs:List SV},pg.length=vs.length->(pls pg vs).map Pl.at_=pg.map Prod.fst
 | [],[],_=>rfl
 | [],_::_,h=>by simp at h
 |_::_,[],h=>by simp at h
 |q::l,v::vs,h=>by
  simp only[pls,bF2];rw[bo5 (by simpa using h)]
variable {hp:Hp}{tm:T Value}
theorem bx7 {τ:Tau}{F:Nat->Option Blk}{s:SS}{f:Fm}(ht:TD P U τ F f tm)(hs:SD P U τ F s hp){p:At}{v:SV}(h:atv f s p=some v):∃x,VD P U τ F v x/\PX τ tm hp p x:=by
 cases p with
 |tmp t=>
  simp only[atv]at h;split at h
  ·rename_i v' d
   simp only[bA1]at h;subst h;exact⟨_,ht t v' d,rfl⟩
  ·simp only[bA1]at h
   subst h;exact⟨_,.any _,rfl⟩
 |cell b j=>
  simp only[atv]at h;split at h
  ·rename_i l e z hb
   rcases hs.live b _ hb with⟨i,o,y,h1,h2,h3,cs,n,rfl,h4,h5⟩| ⟨_,L,e',g,ph,h2,_⟩
   ·obtain⟨x,hx,d⟩:=h5 j v h
    exact⟨x,d,i,o,cs,n,e,z,h1,h2,hx⟩
   ·cases h2
  ·cases h
 |no=>
  simp only[atv,bA1]at h;subst h;exact⟨undef,.any _,trivial⟩
theorem af8 {τ : Tau} {F : Nat → Option Blk} {s : SS} {hp : Hp} {f : Fm} {tm : T Value} (ht : TD P U τ F f tm) (hs : SD P U τ F s hp) : ∀ {pg : List (At × G)} {vs : List SV}, P8 f s pg = some vs →
  pg.length=vs.length/\ ∃xs,VDL P U τ F vs xs/\ ∀(i:Nat) q x,pg[i]? =some q->xs[i]? =some x->PX τ tm hp q.1 x
 | [],vs,h=>by
  simp only[P8,bA1]at h;subst h;exact⟨rfl,[],.nil,fun i q x h=>by simp at h⟩
 |p::l,vs,h=>by
  unfold P8 at h;split at h
  ·rename_i v e
   split at h
   ·rename_i g d
    cases h;obtain⟨x,h1,h2⟩:=bx7 ht hs e;obtain⟨h3,xs,h4,h5⟩:=af8 ht hs d;refine⟨by simp[h3],x::xs,.cons h1 h4,fun i q y hq hy=>?_⟩
    grind
   ·cases h
  ·cases h
theorem PX.mono {τ τ':Tau}{p:At}{x:Value}(ht:Tle τ τ')(h:PX τ tm hp p x):PX τ' tm hp p x:=by
 cases p with
 |tmp t=>exact h
 |cell b j=>obtain⟨i,o,cs,n,e,z,h1,h2⟩:=h;exact⟨i,o,cs,n,e,z,ht _ _ h1,h2⟩
 |no=>trivial
theorem bf1 (l f:Fm):aN2 l.length (l++f)=l.map Prod.fst:=by
 induction l with
 |nil=>cases f<;>rfl
 |cons a l d=>obtain⟨k,x⟩:=a;simp only[bE4,bG2,aN2,bF2,d]
variable {ar :Option Nat}
variable {tm':T Value}
theorem XC.loop_next {b : Code} {tm1:T Value} {hp1 hp':Hp} {e : Exit} (h1 : XC P ov ar nt b tm hp .normal tm1 hp1) (h2 : XC P ov ar nt (.loop b) tm1 hp1 e tm' hp') (  d : hp.nx ≤ hp1.nx) (  g : hp1.nx ≤ hp'.nx)
  (hk:∀r,r<hp1.nx->hp1.m.get r=some .dfr->hp'.m.get r=some .dfr):XC P ov ar nt (.loop b) tm hp e tm' hp':=
 h1.comp h2 d g hk fun n m ds h j q1 q2=>by
  simp only[d7,q1];exact q2
theorem XC.loop_end {b:Code}{hp':Hp}{e:Exit}(h1:XC P ov ar nt b tm hp e tm' hp')(g:e≠ .normal):XC P ov ar nt (.loop b) tm hp e tm' hp':=
 h1.map fun n m ds d hk=>by
  simp only[d7,hk]
  grind
end
end Go.Sx
namespace Go.Sx
open Go.Xe
section
variable {P :Program}{U:Nat->List Dat->Dat}{ov:FuncId->Option TypeId}{nt:Nat}{ar:Option Nat}
variable {b :Code}{body:Fm->M (Exit×Fm)}{an:L3}{pg:List (At×G)}{ps:List Pl}{bs0 kill:List Nat}{s1:SS}{f0:Fm}{tm1:T Value}{τ1:Tau}{F1:Nat->Option Blk}{hp1:Hp}{n0:Nat}{Q:(Exit×Fm)×SS->Prop}
variable (P U ov) in
def bk6 (ar:Option Nat)(nt:Nat)(b:Code)(τ1:Tau)(F1:Nat->Option Blk)(s1:SS)(hp1:Hp)(f0:Fm)(Q:(Exit×Fm)×SS->Prop)(tm:T Value)(hp:Hp):Prop:=
 ∃ex f' s',Q ((ex,f'),s')/\ ∃τ' F' hp',Ext τ1 F1 s1 hp1 τ' F' s' hp'/\SD P U τ' F' s' hp'/\ ∃tm',XC P ov ar nt (.loop b) tm hp ex tm' hp'/\TD P U τ' F' f' tm'/\(∃pre,f'=pre++f0)/\hp.nx<=hp'.nx/\ ∀r,r<hp.nx->hp.m.get r=some .dfr->hp'.m.get r=some .dfr
theorem aN5 (    n : ∀  A, Z1 P U ov ar nt (body  A) b  A) (hs1 : SD P U τ1 F1 s1 hp1) (ht1 : TD P U τ1 F1 f0 tm1) (  B : ps.map Pl.at_ = pg.map Prod.fst) (pa : ∀ p ∈ ps, ∃ F0 x0, VD P U τ1 F0 p.a x0)
  (X:∀c∈bs0,c∉kill) (ae:∀c∈rbs ps,c∉bs0/\c∉kill/\c<s1.nx) (hB:∀es:List E,es.length=(sos ps).length->an.inv (i6 U (sos ps) es)->
   (a7 (body (fT ps (s8 U (sos ps) n0 es) s1 f0)) (bq1 P U an pg ps bs0 kill s1 f0 (s8 U (sos ps) n0 es)) (sT ps (s8 U (sos ps) n0 es) s1 bs0 kill)).vc U Q):
  ∀(N:Nat) (es:List E),an.mu (i6 U (sos ps) es)<N->es.length=(sos ps).length->an.inv (i6 U (sos ps) es)-> ∀(τ:Tau) (F:Nat->Option Blk) (hp:Hp) (tm:T Value),
   SD P U τ F (sT ps (s8 U (sos ps) n0 es) s1 bs0 kill) hp->TD P U τ F (fT ps (s8 U (sos ps) n0 es) s1 f0) tm->Ext τ1 F1 s1 hp1 τ F (sT ps (s8 U (sos ps) n0 es) s1 bs0 kill) hp->
   bk6 P U ov ar nt b τ1 F1 s1 hp1 f0 Q tm hp
 |0,es,h,_,_=>absurd h (Nat.not_lt_zero _)
 | N + 1, es,  bj,    G,    Z => by
  intro τ F hp tm z ah K;have hq:=hB es G Z;rw[m8]at hq;generalize al:s8 U (sos ps) n0 es=ds at hq z ah K;obtain⟨⟨e,A⟩,s',hq,τ',F',hp',d,C,tm',hx,V,pre,ad⟩:=n (fT ps ds s1 f0) τ F _ hp tm ah z _ hq z;have M:A=pre++fT ps ds s1 f0:=ad;have u:e≠ .normal->Q ((e,A),s')->bk6 P U ov ar nt b τ1 F1 s1 hp1 f0 Q tm hp:=fun aw hQ=>
   ⟨e,A,s',hQ,τ',F',hp',K.trans d,C,tm',hx.loop_end aw,V,⟨pre++az9 (P3 ps ds s1.nx),by rw[M,fT,bB5]⟩,d.nx,fun r hr hg=>d.dfr z hr hg (.inl rfl)⟩
  cases e with
  |exit j=>exact u (by simp) hq
  |ret=>exact u (by simp) hq
  | normal =>
   simp only[bq1]at hq;cases c1:(aN2 (A.length-(fT ps ds s1 f0).length) A).all (fun t=>pg.any (fun p=>bm1 t p.1))with
   |false=>rw[c1]at hq;exact hq.elim
   | true =>
    rw[c1,bB8]at hq;simp only[i7]at hq;cases c2:P8 A s' pg with
    |none=>rw[c2]at hq;exact hq.elim
    | some  bh =>
     rw[c2]at hq;simp only at hq;obtain⟨ap,xs,ai,az⟩:=af8 V C c2;rw[m8]at hq;obtain⟨vs,s2,hq,τ2,F2,hp2,m,D,rfl,aj⟩:=aI9 ps bh xs τ' F' s' hp' ai C _ hq C;rw[m8]at hq;obtain⟨⟨k,bs⟩,W,hq,o3,ao,av⟩:=aW1 (P:=P) (τ:=τ2) (F:=F2) τ1 ps vs s2 _ hq D.fc;have bb:=D.only o3 ao;have Y:Ext τ1 F1 s1 hp1 τ2 F2 W hp2:=((K.trans d).trans m).trans (Ext.only D o3);simp only[i7]at hq;cases c3:(H5 (W.h.length-(sT ps ds s1 bs0 kill).h.length) W.h).all (fun b=>Nat.ble s1.nx b||J0 b bs0||J0 b kill||J0 b (rbs ps))&&bs0.all (N8 s1 W)&&af9 bs&&
      bs.all (fun b=> !J0 b bs0&&(Nat.ble s1.nx b||J0 b kill))&&Nat.beq bs.length (aO9 ps)with
     |false=>rw[c3]at hq;exact hq.elim
     | true =>
      rw [c3,bB8] at hq;simp only [bA2] at c3;obtain ⟨⟨⟨⟨k1,k2⟩,k3⟩,k4⟩,k5⟩:=c3;rw [bD1] at k1 k2 k4;have L : an.inv (i6 U (sos ps) k):=hq.1;have ab : an.mu (i6 U (sos ps) k) < an.mu (i6 U (sos ps) ds):=(hq.2 hq.1).1;have J:=av W o3.h;have y:=aI8 J;have head : aH3 P U τ1 F1 s1 hp1 f0 tm1 ps bs0 kill τ2 F2  W hp2  A tm' vs   k bs xs := by
       refine⟨hs1,ht1,bb,V.mono m.t m.f,Y,J,aj,fun i p x hp be=>?_,?_,pa,fun t ht=>?_,fun l hl c hc hlt=>?_,ae,fun c hc=>⟨X c hc,ak2 (k2 c hc)⟩,Z7 k3,fun c hc=>?_,bA6 k5⟩
       ·have h1:=congrArg (fun l=>l[i]?) B
        simp only[bF1,hp,bE6]at h1;cases O:pg[i]? with
        |none=>rw[O]at h1;cases h1
        |some q=>
         rw[O]at h1;simp only[bE6,bA1]at h1;rw[h1];exact(az i q x O be).mono m.t
       ·have h1:=congrArg List.length B
        simp only[bC0]at h1;rw[h1,ap];exact ai.1.symm
       ·have  ax : t ∉ pre.map Prod.fst := by
         intro hm;rw[bD1,M,bC8,Nat.add_sub_cancel,bf1]at c1;have:=c1 t hm;rw[List.any_eq_true]at this;obtain⟨q,ba,g⟩:=this;have aa:q.1∈ps.map Pl.at_:=by rw[B];exact bI1.2 ⟨q,ba,rfl⟩
         obtain⟨p,hp1,hp2⟩:=bI1.1 aa;refine ht p hp1 ?_;rw[hp2];cases R:q.1 with
         |tmp t'=>rw[R]at g;simp only[bm1]at g;rw[bA6 g]
         |cell b j=>rw[R]at g;cases g
         |no=>rw[R]at g;cases g
        rw[M,at8 _ _ ax,fT,D6];cases aq:lk (az9 (P3 ps ds s1.nx)) t with
        |none=>rfl
        |some a=>
         obtain⟨i,q,q1,q2,_⟩:=al0 _ aq;obtain⟨p,p1,p2⟩:=aH6 _ _ _ _ _ q1;exact absurd (by rw[<-p2,q2]) (ht p (bB1 p1))
       ·obtain⟨l2,e2,_⟩:=(d.trans (m.trans (Ext.only D o3))).hh
        have bc:(sT ps ds s1 bs0 kill).h=Z0 ps ds s1 bs0 kill++s1.h:=rfl;have au:l=l2++Z0 ps ds s1 bs0 kill:=by
         rw[e2,bc,<-bB5]at hl;exact(List.append_cancel_right hl).symm
        rw[au,bE8,bD8]at hc
        rcases hc with hc|hc
        ·rw[e2,bC8,Nat.add_sub_cancel,aq5]at k1
         have:=k1 c hc;simp only[bH6,bF4]at this
         rcases this with((h1|h1)|h1)|h1
         ·omega
         ·exact .inl (aa2 h1)
         ·exact .inr (.inl (aa2 h1))
         ·exact .inr (.inr (aa2 h1))
        ·unfold Z0 at hc
         simp only[bE8,bD8]at hc
         rcases hc with h1|h1|h1
         ·rcases aD5 _ _ _ h1 with h2|h2
          ·omega
          ·exact .inr (.inr h2)
         ·exact .inl (ax8 _ h1)
         ·have:=aw4 _ h1
          simp only[bD8]at this
          rcases this with h2|h2|h2|h2
          ·exact .inr (.inl h2)
          ·exact .inl h2
          ·exact .inr (.inr h2)
          ·simp at h2;omega
       ·have:=k4 c hc
        simp only[bA2,bE7,bH6,bF4]at this;refine⟨E6 this.1,?_⟩
        rcases this.2 with h1|h1
        ·exact .inl h1
        ·exact .inr (aa2 h1)
      obtain⟨g1,g2,g3⟩:=head.head (q9 (sos ps) n0 k y);have ac:an.mu (i6 U (sos ps) k)<N:=by
       have:i6 U (sos ps) ds=i6 U (sos ps) es:=by rw[<-al];exact J5 _ _ _ G
       rw[this]at ab;omega
      obtain⟨ak,f4,s4,w1,bi,F4,ay,w2,w3,bg,w4,w5,w6,w7,w8⟩:=aN5 n hs1 ht1 B pa X ae hB N k ac y L _ _ _ _ g1 g2 g3;exact⟨ak,f4,s4,w1,bi,F4,ay,w2,w3,bg,hx.loop_next w4 d.nx w7 w8,w5,w6,bF8 d.nx w7,fun r hr hg=>w8 r (bF3 hr d.nx) (d.dfr z hr hg (.inl rfl))⟩
  |_=>exact u (by simp) hq
end
end Go.Sx
namespace Go.Sx
open Go.Xe
def annOf (l:List (Nat×(Fm->SS->L3)))(id:Nat):Option (Fm->SS->L3):=lk l id
def slp (P:Program)(U:Nat->List Dat->Dat)(l:List (Nat×(Fm->SS->L3))):ai3:=fun id b body f=>match annOf l id with
 |some an=>some (i7 fun s=>bq4 P U (an f s) b body f)
 |none=>none
def aU5 (U:Nat->List Dat->Dat):List (So×E)->List Dat
 | []=>[]
 | (k,e)::l=>ba6 U k e::aU5 U l
def E5 (U:Nat->List Dat->Dat)(name:String)(places:Code->Fm->SS->Option (List (At×G)×List Nat))(gh:Fm->SS->List (So×E))(inv:List Dat->List Dat->Prop)(mu:List Dat->List Dat->Nat):Fm->SS->L3:=
 fun f s=>⟨name,places,inv (aU5 U (gh f s)),mu (aU5 U (gh f s)),gh f s⟩
section
variable {P :Program}{U:Nat->List Dat->Dat}{ov:FuncId->Option TypeId}{nt:Nat}{ar:Option Nat}
theorem SD.fvb {τ:Tau}{F:Nat->Option Blk}{s:SS}{hp:Hp}(h:SD P U τ F s hp)(n:Nat):SD P U τ F (fvb s n) hp:=⟨h.live,h.inj,h.frz,h.lt,h.flt,h.new,h.fc,h.fz⟩
theorem Ext.fvb {τ τ':Tau}{F F':Nat->Option Blk}{s s':SS}{hp hp':Hp}(h:Ext τ F s hp τ' F' s' hp')(n:Nat):Ext τ F s hp τ' F' (fvb s' n) hp':=⟨h.t,h.f,h.nx,h.snx,h.st,h.low,h.hh,h.hf,h.win⟩
theorem bq5 {b : Code} {body : Fm → M (Exit × Fm)} (    r : ∀ f', Z1 P U ov ar nt (body f') b f') (an : L3) (f0 : Fm) : Z1 P U ov ar nt (bq4 P U an b body f0) (.loop b) f0 := by
 intro τ F s hp tm ht hs Q hq _;unfold bq4 at hq;simp only[i7]at hq;cases c1:an.places b f0 s with
 |none=>rw[c1]at hq;exact hq.elim
 | some pp =>
  obtain⟨pg,bs0⟩:=pp;rw[c1]at hq;simp only at hq;cases T:P8 f0 s pg with
  |none=>rw[T]at hq;exact hq.elim
  | some   N =>
   rw[T]at hq;simp only at hq;obtain⟨G,xs,A,ac⟩:=af8 ht hs T;generalize J:pls pg N=ps at hq;have m:ps.map Pl.at_=pg.map Prod.fst:=by rw[<-J];exact bo5 G
   rw[m8]at hq;obtain⟨vs,s2,hq,τ2,O,hp2,d,y,rfl,L⟩:=aI9 ps N xs τ F s hp A hs _ hq hs;rw[m8]at hq;obtain⟨⟨es,bs⟩,g,hq,o3,Y,aa⟩:=aW1 (P:=P) (τ:=τ2) (F:=O) τ2 ps vs s2 _ hq y.fc;have ad:=y.only o3 Y;have B:=d.trans (Ext.only y o3);simp only[i7]at hq;cases R:bs0.all (N8 g g)&&af9 bs&&bs.all (fun b=> !J0 b bs0)&&Nat.beq bs.length (aO9 ps)&&(rbs ps).all (fun b=> !J0 b bs0&& !J0 b bs&&Nat.ble (b+1) g.nx)with
   |false=>rw[R]at hq;exact hq.elim
   | true =>
    rw[R,bB8]at hq;simp only[bA2]at R;obtain⟨⟨⟨⟨k2,k3⟩,k4⟩,k5⟩,k6⟩:=R;rw[bD1]at k2 k4 k6;have K:∀c∈rbs ps,c∉bs0/\c∉bs/\c<g.nx:=fun c hc=>by
     have:=k6 c hc;simp only[bA2,bE7,bF4]at this;exact⟨E6 this.1.1,E6 this.1.2,this.2⟩
    have e:=ad.fvb (sos ps).length;have C:=B.fvb (sos ps).length;have z:=ht.mono d.t d.f;have k:=aa (fvb g (sos ps).length) o3.h;have j:=aI8 k;have D:an.inv (i6 U (sos ps) es):=hq.1;have hB:=at4 (U:=U) _ _ _ (hq.2 hq.1);have n:∀c∈bs0,c∉bs:=fun c hc hb=>by
     have:=k4 c hb;rw[bE7]at this;exact E6 this hc
    have pa:∀p∈ps,∃F0 x0,VD P U τ2 F0 p.a x0:=by
     intro p hp;obtain⟨i,hi⟩:=bF5.1 hp;rw[<-J]at hi;obtain⟨q,v,g1,X,g3,g4⟩:=bc0 hi;obtain⟨x,ak,ae⟩:=A.get X;exact⟨O,x,by rw[g4];exact ae.mono d.t d.f⟩
    have head : aH3 P U τ2  O (fvb  g (sos ps).length) hp2 f0 tm ps bs0 bs τ2  O (fvb  g (sos ps).length) hp2 f0 tm vs es bs xs := by
     refine⟨e,z,e,z,Ext.refl e,k,L,fun i p x hp ah=>?_,?_,pa,fun t _=>rfl,fun l hl c hc hlt=>?_,K,fun c hc=>⟨n c hc,ak2 (k2 c hc)⟩,Z7 k3,fun c hc=>⟨fun h=>n c h hc,.inr hc⟩,bA6 k5⟩
     ·have h1:=congrArg (fun l=>l[i]?) m
      simp only[bF1,hp,bE6]at h1;cases u:pg[i]? with
      |none=>rw[u]at h1;cases h1
      |some q=>
       rw[u]at h1;simp only[bE6,bA1]at h1;rw[h1];exact(ac i q x u ah).mono d.t
     ·have h1:=congrArg List.length m
      simp only[bC0]at h1;rw[h1,G];exact A.1.symm
     ·have : l = [] := by
       have:=congrArg List.length hl;rw[bC8]at this;cases l with
       |nil=>rfl
       |cons a l=>simp at this
      subst this;simp at hc
    obtain⟨g1,X,g3⟩:=head.head (q9 (sos ps) g.fv es j);obtain⟨W,f4,s4,w1,aj,F4,ab,w2,w3,ai,w4,w5,⟨pre,w6⟩,_⟩:=aN5 (U:=U) (an:=an) (pg:=pg) (kill:=bs) (n0:=g.fv) r e z m pa n K (fun V E Z=>hB V E (by rw[J5 _ _ _ E];exact Z))
     (an.mu (i6 U (sos ps) es)+1) es (bG1 _) j D _ _ _ _ g1 X g3
    exact⟨(W,f4),s4,w1,aj,F4,ab,C.trans w2,w3,ai,w4,w5,pre,w6⟩
theorem aX8 (l:List (Nat×(Fm->SS->L3))):R8 P U ov ar nt (slp P U l):=by
 intro e b body f r d hr;unfold slp at hr;split at hr
 ·rename_i an _
  simp only[bA1]at hr;subst hr;exact fun τ F s hp tm ht hs=>bq5 d (an f s) f τ F s hp tm ht hs
 ·cases hr
end
def bl5 :List Oper->List Nat
 | []=>[]
 |o::os=>match o.dst with
  |some d=>d::bl5 os
  |none=>bl5 os
def aq0 :Code->List Nat
 | .region _ ops _=>bl5 ops.toList
 | .seq x y=>aq0 x++aq0 y
 | .cond _ x y=>aq0 x++aq0 y
 | .block _ b=>aq0 b
 | .loop b=>aq0 b
 | .scope b=>aq0 b
 |_=>[]
def anys (own:List (Nat×G)):List Nat->List Nat->List (At×G)
 |_,[]=>[]
 |seen,t::l=>bif J0 t seen then anys own seen l else match lk own t with
  |some _=>anys own (t::seen) l
  |none=>(.tmp t,.any)::anys own (t::seen) l
def ownT :List (Nat×G)->List (At×G)
 | []=>[]
 | (t,g)::l=>(.tmp t,g)::ownT l
def bl4 (b:Nat):Nat->List G->List (At×G)
 |_,[]=>[]
 |j,g::l=>(.cell b j,g)::bl4 b (j+1) l
def E7 (own:List (Nat×G))(blks:Fm->SS->Option (List (Nat×List G))):Code->Fm->SS->Option (List (At×G)×List Nat):=fun c f s=>match blks f s with
 |some bl=>some (ownT own++(bl.map fun p=>bl4 p.1 0 p.2).flatten++anys own [] (aq0 c),bl.map Prod.fst)
 |none=>none
def mkPr (rs:Fm->SS->List (At×G))(own:List (Nat×G))(blks:Fm->SS->Option (List (Nat×List G))):Code->Fm->SS->Option (List (At×G)×List Nat):=fun c f s=>match E7 own blks c f s with
 |some r=>some (rs f s++r.1,r.2)
 |none=>none
end Go.Sx
namespace Go.Sx
open Go.Xe
def sx (P:Program)(U:Nat->List Dat->Dat)(anns:FuncId->List (Nat×(Fm->SS->L3)))(con:FuncId->Option (List SV->M SV))(n:Nat):B3:=
 N6 P U (fun call nt=>aQ7 P U call nt) (fun _ g _=>slp P U (anns g)) con n
def sxF (P:Program)(U:Nat->List Dat->Dat)(anns:FuncId->List (Nat×(Fm->SS->L3)))(con:FuncId->Option (List SV->M SV))(n:Nat)(g:FuncId):List SV->M SV:=
 sfun P U (sx P U anns con n) (fun nt=>aQ7 P U (sx P U anns con n) nt) (fun g _=>slp P U (anns g)) n g
section
variable {P :Program}{U:Nat->List Dat->Dat}{ov:FuncId->Option TypeId}
theorem br4 (d:FuncId->List (Nat×(Fm->SS->L3))){con:FuncId->Option (List SV->M SV)}(h:∀g k,con g=some k->z9 P U ov k g)(j:∀g,isT (ov g)=true->con g≠none)(n:Nat):s7 P U ov (sx P U d con n):=
 ay6 (fun _ e _=>ay8 e) (fun _ _ _ g _=>aX8 (d g)) h j n
theorem bz5 (d:FuncId->List (Nat×(Fm->SS->L3))){con:FuncId->Option (List SV->M SV)}(e:∀g k,con g=some k->z9 P U ov k g)(h:∀g,isT (ov g)=true->con g≠none)(n:Nat)(g:FuncId)(j:isT (ov g)=false):z9 P U ov (sxF P U d con n g) g:=
 bd2 (br4 d e h n) (fun _=>ay8 (br4 d e h n)) (fun _ g _=>aX8 (d g)) n g j
end
end Go.Sx
noncomputable section PartSm31
namespace Go.Sx
open Go.Xe Go.RowKit
def aH4 (w:World)(v:Value):Option Value:=match v with
 | .bool _| .int _ _| .string _=>some v
 | .slice none _ _=>some v
 | .slice (some ⟨i,_,none⟩) (l+1) c=>match w.heap[i]? with
  |some (.cells _ _ _)=>if l+1<=c/\c<unk then some v else none
  |_=>none
 | .slice (some _) 0 _=>some (.slice (some ⟨0,0,some 0⟩) 0 unk)
 |_=>none
def roT (w:World):Nat->List Value->T Value
 |_,[]=>.e
 |k,v::vs=>(roT w (k+1) vs).set k (aH4 w v)
theorem aJ1 (w:World):∀(vs:List Value) (k j:Nat),(roT w k vs).get j=if k<=j then(vs[j-k]?).bind (aH4 w)else none
 | [],k,j=>by simp[roT,T.get_e]
 |v::vs,k,j=>by
  have g:=aJ1 w vs (k+1) j;unfold roT;rw[T.get_set]
  by_cases d:j=k
  ·subst d;rw[bC3 rfl,bC3 (bC4 _)];simp
  ·rw[bC1 d,g]
   by_cases e:k+1<=j
   ·rw[bC3 e,bC3 (by omega),show j-k=(j-(k+1))+1 by omega,bB2]
   ·rw[bC1 e,bC1 (by omega)]
def roB (w:World):Obj->Option Blk
 | .cells C e _=>some (.ro (roT w 0 C.toList) C.size e 0)
 |_=>none
def roM (w:World):Nat->List Obj->T Blk
 |_,[]=>.e
 |k,o::os=>(roM w (k+1) os).set k (roB w o)
theorem bc3 (w:World):∀(os:List Obj) (k j:Nat),(roM w k os).get j=if k<=j then(os[j-k]?).bind (roB w)else none
 | [],k,j=>by simp[roM,T.get_e]
 |o::os,k,j=>by
  have g:=bc3 w os (k+1) j;unfold roM;rw[T.get_set]
  by_cases d:j=k
  ·subst d;rw[bC3 rfl,bC3 (bC4 _)];simp
  ·rw[bC1 d,g]
   by_cases e:k+1<=j
   ·rw[bC3 e,bC3 (by omega),show j-k=(j-(k+1))+1 by omega,bB2]
   ·rw[bC1 e,bC1 (by omega)]
def aQ3 (w:World):Hp:=⟨roM w 0 w.heap.toList,w.heap.size⟩
def ak1 (w:World):Sg:=fun i=>match w.heap[i]? with
 |some (.cells C _ _)=>some ⟨i,0,C.size,0⟩
 |_=>none
def BS.ro (w:World):BS:=⟨(· <w.heap.size),(· <w.heap.size),fun _ h=>h⟩
theorem ay2 (w:World)(i:Nat):(aQ3 w).m.get i=(w.heap[i]?).bind (roB w):=by
 show(roM w 0 w.heap.toList).get i=_;rw[bc3,bC3 (bI9 _)];simp
variable {w:World}
theorem aX0 {i:Nat}{C:Array Value}{e:TypeId}{f:Nat×Nat}(h:w.heap[i]? =some (.cells C e f)):(aQ3 w).m.get i=some (.ro (roT w 0 C.toList) C.size e 0):=by
 rw[ay2,h];rfl
theorem aH5 {v a:Value}(h:aH4 w v=some a):VR (ak1 w) a v:=by
 unfold aH4 at h;split at h
 ·cases h;exact .bool _
 ·cases h;exact .int _ _
 ·cases h;exact .string _
 ·cases h;exact .nils _ _
 ·rename_i i o l c
  split at h
  ·rename_i C e f hh
   split at h
   ·rename_i hc
    cases h;have hs:ak1 w i=some ⟨i,0,C.size,0⟩:=by unfold ak1;rw[hh]
    have:=VR.slice (σ:=ak1 w) i o _ (l+1) c c hs (.inl ⟨rfl,hc.2⟩) hc.1
    simpa using this
   ·cases h
  ·cases h
 ·cases h;exact .vague _ _
 ·cases h
theorem HR.ro (w : World) : HR (BS.ro w) w (ak1 w) (aQ3 w) w := by
 refine⟨rfl,rfl,rfl,bC4 _,fun _ h=>h,fun _ _=>rfl,fun i hi=>?_,fun i b k=>?_,fun i j b b' p q hi hj d hp hq=>?_⟩
 ·have hi:w.heap.size<=i:=hi
  unfold ak1;rw[Array.getElem?_eq_none hi]
 ·rw[ay2,Option.bind_eq_some_iff]at k
  obtain⟨o,g,hb⟩:=k;cases o with
  |cells C e f=>
   simp only[roB,bA1]at hb;subst hb;refine⟨⟨i,0,C.size,0⟩,_,by unfold ak1;rw[g],(bB6.1 g).1,g,C,f,rfl,rfl,rfl,by simp,fun j v hj m=>?_⟩
   rw[aJ1,bC3 (bI9 _),bI0,Option.bind_eq_some_iff]at m;obtain⟨u,h1,h2⟩:=m;exact⟨u,by simpa using h1,aH5 h2⟩
  |_=>cases hb
 ·have key : ∀ {i : Nat} {p : Xe.Pl}, ak1 w i = some p → p.blk = i := by
   intro i p h;unfold ak1 at h;split at h
   ·simp only[bA1]at h;rw[<-h]
   ·cases h
  rw[key hp,key hq];exact d
def roF (w:World):Nat->Option Blk:=fun i=>(aQ3 w).m.get i
theorem bp3 (w:World):∀i b,roF w i=some b->(aQ3 w).m.get i=some b/\i<(aQ3 w).nx:=by
 intro i b h;refine⟨h,?_⟩;rw[roF,ay2,Option.bind_eq_some_iff]at h;obtain⟨o,d,_⟩:=h;exact(bB6.1 d).1
def aN8 (f:TypeId->Nat->List (Nat×TypeId))(o:Nat):List Field->List (Nat×TypeId)
 | []=>[]
 |x::xs=>f x.type (o+x.offset)++aN8 f o xs
def S8 (P:Program):Nat->TypeId->Nat->List (Nat×TypeId)
 |0,_,_=>[]
 |d+1,t,o=>match P.underlying t with
  |some (.struct fs)=>aN8 (S8 P d) o fs.toList
  |some (.array n e)=>((List.range n).map fun i=>S8 P d e (o+i*P.cellsOf e)).flatten
  |_=>[(o,t)]
def isAgg (P:Program)(t:TypeId):Bool:=match P.underlying t with
 |some (.struct _)=>true
 |some (.array _ _)=>true
 |_=>false
section
variable {H :Type}{enc:TypeId×Value->H}{P:Program}{w:World}{spare:Nat->Bool}{held:Bool}
theorem X8 {α:Type}{cs:List α}{a n j:Nat}{v:α}(h:((cs.drop a).take n)[j]? =some v):cs[a+j]? =some v:=by
 rw[bD4]at h;split at h
 ·rw[bE0]at h;exact h
 ·cases h
theorem aE3 {f:TypeId->Nat->List (Nat×TypeId)}{o:Nat}{p:Nat×TypeId}:∀ {l:List Field},p∈aN8 f o l-> ∃x∈l,p∈f x.type (o+x.offset)
 | [],h=>by simp[aN8]at h
 |x::xs,h=>by
  unfold aN8 at h
  rcases bD8.1 h with h|h
  ·exact⟨x,by simp,h⟩
  ·obtain⟨y,h1,h2⟩:=aE3 h
   exact⟨y,by simp[h1],h2⟩
theorem ad5 : ∀ (d : Nat) {   p : Nat} {t : TypeId} {cs : List Value} {x : DataW H × List MemPlace}, DataW.trod enc P w 0 spare held    p t cs = some x → ∀ (a o : Nat) (u : TypeId), (o, u) ∈ S8 P d t a →
  ∃(j:Nat) (cs':List Value) (g:Nat) (x':DataW H×List MemPlace),o=a+j/\g<=p/\isAgg P u=false/\DataW.trod enc P w 0 spare held g u cs'=some x'/\ ∀(k:Nat) v,cs'[k]? =some v->cs[j+k]? =some v
 |0,p,t,cs,x,h,a,o,u,hm=>by simp[S8]at hm
 |d+1,p,t,cs,x,h,a,o,u,hm=>by
  unfold S8 at hm;split at hm
  ·rename_i r ht
   obtain⟨xs,n,rfl,_,_,_,hf⟩:=DataW.trod_struct ht h;obtain⟨f,y,z⟩:=aE3 hm;obtain⟨i,hi⟩:=bF5.1 y;have A:r[i]? =some f:=by simpa using hi
   have:=hf i f A;have hlt:i<xs.length:=by
    have:=(bA4.1 hi).1
    simp_all
   rw[bB3 hlt]at this;obtain⟨j,cs',g,x',h1,h2,h3,h4,h5⟩:=ad5 d this (a+f.offset) o u z;exact⟨f.offset+j,cs',g,x',by omega,by omega,h3,h4,fun k v q=>by rw[bG0];exact X8 (h5 k v q)⟩
  ·rename_i n e ht
   obtain⟨i,hi,hm⟩:∃i,i<n/\(o,u)∈S8 P d e (a+i*P.cellsOf e):=by
    simp only[List.mem_flatten,bI1,List.mem_range]at hm;obtain⟨l,⟨i,hi,rfl⟩,hm⟩:=hm;exact⟨i,hi,hm⟩
   obtain⟨m,x',h1,h2⟩:∃m x',p=m+1/\DataW.trod enc P w 0 spare held m e ((cs.drop (i*P.cellsOf e)).take (P.cellsOf e))=some x':=by
    cases p with
    |zero=>simp[DataW.trod]at h
    |succ m=>
     unfold DataW.trod at h;rw[ht]at h;simp only at h;split at h
     ·rw[bI2]at h
      obtain⟨xs,hx,_⟩:=h;have:=mapM_some_get hx i i (by simp[hi])
      have hl:=mapM_some_length hx;have hlt:i<xs.length:=by simp at hl;omega
      rw[bB3 hlt]at this;exact⟨m,_,rfl,this⟩
     ·cases h
   subst h1;obtain⟨j,cs',g,B,h1,h2,h3,h4,h5⟩:=ad5 d h2 _ o u hm;exact⟨i*P.cellsOf e+j,cs',g,B,by omega,by omega,h3,h4,fun k v q=>by rw[bG0];exact X8 (h5 k v q)⟩
  ·rename_i h1 h2
   simp only[bG5,bA3]at hm;obtain⟨rfl,rfl⟩:=hm;refine⟨0,cs,p,x,by omega,bC4 _,?_,h,fun k v q=>by simpa using q⟩
   unfold isAgg;split
   ·rename_i r hh;exact absurd hh (h1 r)
   ·rename_i n e hh;exact absurd hh (h2 n e)
   ·rfl
end
end Go.Sx
end PartSm31
noncomputable section PartSm32
namespace Go.Sx
open Go.Xe Go.RowKit
inductive DW (P : Program) : Kd → Dat → Prop
 |int (k:IntKind) (n:Int) (h:k.min<=n/\n<=k.max):DW P (.int k) (.int n)
 |bool (b:Bool):DW P .bool (.bool b)
 |str (s:List UInt8) (h:s.length<=maxLen):DW P .str (.str s)
 | sl (e : TypeId) (rows : Rows) (hl : rows.length ≤ maxLen) (hz : ∀ r ∈ rows, r.length = (kf P e).length)
   (h:∀(r k:Nat) (row:List Dat) (kd:Kd) (d:Dat),rows[r]? =some row->row[k]? =some d->(kf P e)[k]? =some kd->DW P kd d):DW P (.sl e) (.lst rows)
def aV0 (P:Program)(e:TypeId):Bool:=
 Nat.beq (S8 P 20 e 0).length (kf P e).length&&Nat.beq (P.cellsOf e) (kf P e).length&&Nat.ble 1 (kf P e).length&&
  ((S8 P 20 e 0).zipIdx.all fun p=>Nat.beq p.1.1 p.2)&&((S8 P 20 e 0).zip (kf P e)).all fun p=>decide (kd1 P p.1.2=p.2)
def aN4 (P:Program):Nat->Kd->Bool
 |_,.int _=>true
 |_,.bool=>true
 |_,.str=>true
 |n+1,.sl e=>aV0 P e&&(kf P e).all (aN4 P n)
 |_,_=>false
def bk4 (P:Program)(S:Kd->Prop):Prop:=∀kd,S kd->match kd with
 | .int _=>True
 | .bool=>True
 | .str=>True
 | .sl e=>aV0 P e=true/\ ∀k∈kf P e,S k
 |_=>False
def inL (es:List TypeId):Kd->Bool
 | .int _=>true
 | .bool=>true
 | .str=>true
 | .sl e=>J0 e es
 |_=>false
theorem bu1 (P:Program):bk4 P fun kd=>∃m,aN4 P m kd=true:=by
 rintro kd ⟨m,h⟩
 cases kd with
 |sl e=>
  cases m with
  |zero=>cases h
  |succ m=>
   simp only[aN4,bA2,bD1]at h;exact⟨h.1,fun k hk=>⟨m,h.2 k hk⟩⟩
 |_=>first|trivial| (cases m<;>cases h)
section
variable {H :Type}{enc:TypeId×Value->H}{P:Program}{w:World}{spare:Nat->Bool}{held:Bool}
theorem aw6 {e:TypeId}(h:aV0 P e=true):P.cellsOf e=(kf P e).length/\1<=(kf P e).length/\ ∀k kd,(kf P e)[k]? =some kd-> ∃u,(k,u)∈S8 P 20 e 0/\kd1 P u=kd:=by
 simp only[aV0,bA2,bE1,bF4]at h;obtain⟨⟨⟨⟨h1,h2⟩,h3⟩,h4⟩,h5⟩:=h;refine⟨h2,h3,fun k kd hk=>?_⟩
 have hlt:k<(kf P e).length:=(bA4.1 hk).1;have hl:k<(S8 P 20 e 0).length:=by omega
 have d:=bB3 hl;rw[bD1]at h4 h5;have a1:=h4 ((S8 P 20 e 0)[k],k) (by rw[List.mem_zipIdx_iff_getElem?];exact d)
 have a2:=h5 ((S8 P 20 e 0)[k],kd) (bB1 (i:=k) (by rw[List.getElem?_zip_eq_some];exact⟨d,hk⟩))
 simp only[bE1,bC2]at a1 a2
 grind
theorem bk7 (a:Addr)(i j:Nat):(a.add i).add j=a.add (i+j):=by
 unfold Addr.add
 by_cases hi:i=0
 ·subst hi;simp
 ·by_cases hj:j=0
  ·subst hj;simp
  ·rw[bC1 hi,bC1 hj,bC1 (by omega)];simp[bG0]
variable (P w) in
def ai0 (kd:Kd)(v:Value)(d:Dat):Prop:=∃a,aH4 w v=some a/\PV P (roF w) kd a d/\DW P kd d
theorem aM3 {S:Kd->Prop}(hS:bk4 P S):∀(N t:Nat),t<N-> ∀(u:TypeId) (cs:List Value) (x:DataW H×List MemPlace),DataW.trod enc P w 0 spare held t u cs=some x->S (kd1 P u)-> ∃v d,cs=[v]/\ai0 P w (kd1 P u) v d
 |0,_,h,_,_,_,_,_=>absurd h (Nat.not_lt_zero _)
 |N+1,t,hN,u,cs,x,ht,hg=>by
  unfold kd1 at hg⊢;split at hg
  ·rename_i k R
   clear hg;obtain⟨n,rfl,_,hw⟩:=DataW.trod_int R ht;refine⟨.int k n,.int n,rfl,.int k n,rfl,.int k n,.int k n ?_⟩;unfold Lit.wf at hw
   grind
  ·rename_i R
   obtain⟨b,rfl,_⟩:=DataW.trod_bool R ht;exact⟨.bool b,.bool b,rfl,.bool b,rfl,.bool b,.bool b⟩
  ·rename_i R
   obtain⟨s,rfl,_,hs⟩:=DataW.trod_string R ht;refine⟨.string s,.str s.data.toList,rfl,.string s,rfl,?_,.str _ ?_⟩
   ·exact .str s.data.toList
   ·simp_all
  ·rename_i e R
   obtain⟨ad,aq⟩:=hS _ hg;obtain⟨l1,l2,l3⟩:=aw6 ad
   rcases DataW.trod_slice R ht with⟨rfl,_⟩| ⟨a,len,cap,K,rest,n,rfl,rfl,_,_,au,ao,bb,ap,_,_⟩
   ·exact⟨.slice none 0 0,.lst [],rfl,.slice none 0 0,rfl,.nils e,.sl e [] (bI9 _) (fun r h=>by simp at h) (fun r k row kd d h=>by simp at h)⟩
   ·cases len with
    |zero=>
     refine⟨.slice (some a) 0 cap,.lst [],rfl,.slice (some ⟨0,0,some 0⟩) 0 unk,?_,.vague e,.sl e [] (bI9 _) (fun r h=>by simp at h) (fun r k row kd d h=>by simp at h)⟩
     obtain⟨i,o,sp⟩:=a;cases sp<;>rfl
    |succ len=>
    have cell:∀r k,r<len+1->k<(kf P e).length-> ∀kd,(kf P e)[k]? =some kd-> ∃v d,w.cell? (a.add (r*P.cellsOf e+k))=some v/\ai0 P w kd v d:=by
     intro r k hr hk kd g;have h1:=ap r hr;have hlt:r<K.length:=by omega
     rw[bB3 hlt,Option.bind_eq_some_iff]at h1;obtain⟨cs,ai,aj⟩:=h1;obtain⟨_,ay,ak⟩:=World.cells?_some ai;obtain⟨u',aw,ae⟩:=l3 k kd g;obtain⟨j,cs',L,x',q1,q2,q3,q4,q5⟩:=ad5 20 aj 0 k u' aw;obtain⟨v,d,rfl,hv⟩:=aM3 hS N L (by omega) u' cs' x' q4 (by rw[ae];exact aq kd (bB1 g))
     refine⟨v,d,?_,by rw[ae]at hv;exact hv⟩
     have:=q5 0 v rfl;have hj:j=k:=by omega
     subst hj;rw[bG6]at this;rw[<-this,<-ak j (by omega)]
     congr 1
     exact(bk7 a _ _).symm
    have first:∃kd,(kf P e)[0]? =some kd:=⟨_,bB3 (by omega)⟩
    obtain⟨ax,ac⟩:=first
    obtain⟨v0,_,m,_⟩:=cell 0 0 (by omega) (by omega) ax ac
    obtain⟨i,o,sp⟩:=a;have av:sp=none:=by
     cases sp with
     |none=>rfl
     |some q=>
      have hb:((⟨i,o,some q⟩:Addr).add (0*P.cellsOf e+0)).block=i:=by unfold Addr.add;split<;>rfl
      unfold World.cell? at m;rw[hb]at m;split at m
      ·rename_i hh
       have:((⟨i,o,some q⟩:Addr).add (0*P.cellsOf e+0)).spot.isSome=true:=by unfold Addr.add;simp
       grind
      ·cases m
    subst av;have E:∀j,(⟨i,o,none⟩:Addr).add j=⟨i,o+j,none⟩:=fun j=>bI7 _ _ _
    obtain⟨C,e',f,hh⟩:∃C e' f,w.heap[i]? =some (.cells C e' f):=by
     rw[E]at m;unfold World.cell? at m
     grind
    have G:∀r k,r<len+1->k<(kf P e).length-> ∀kd,(kf P e)[k]? =some kd-> ∃v d,C[o+r*(kf P e).length+k]? =some v/\ai0 P w kd v d:=by
     intro r k hr hk kd g;obtain⟨v,d,h1,h2⟩:=cell r k hr hk kd g;refine⟨v,d,?_,h2⟩;rw[E,cell_of_row w i _ C e' f hh,l1]at h1
     grind
    clear cell;have J:∀p:Nat×Nat,∃q:Value×Dat,p.1<len+1-> ∀kd,(kf P e)[p.2]? =some kd->C[o+p.1*(kf P e).length+p.2]? =some q.1/\ai0 P w kd q.1 q.2:=by
     intro⟨r,k⟩;simp only
     by_cases hr:r<len+1
     ·cases hk:(kf P e)[k]? with
      |none=>exact⟨(undef,.int 0),fun _ kd h=>by cases h⟩
      |some kd=>
       obtain⟨v,d,h1,h2⟩:=G r k hr (bA4.1 hk).1 kd hk;exact⟨(v,d),fun _ be h=>by cases h;exact⟨h1,h2⟩⟩
     ·exact⟨(undef,.int 0),fun h=>absurd h hr⟩
    obtain⟨ch,az⟩:=Classical.axiomOfChoice J;obtain⟨T,bc⟩:∃T:Nat->Nat->Value,∀r k,T r k=(ch (r,k)).1:=⟨fun r k=>(ch (r,k)).1,fun _ _=>rfl⟩
    obtain⟨V,ba⟩:∃V:Nat->Nat->Dat,∀r k,V r k=(ch (r,k)).2:=⟨fun r k=>(ch (r,k)).2,fun _ _=>rfl⟩
    have y:∀r k,r<len+1-> ∀kd,(kf P e)[k]? =some kd->C[o+r*(kf P e).length+k]? =some (T r k)/\ai0 P w kd (T r k) (V r k):=by simp_all
    have z1:=l2;generalize hz:(kf P e).length=z at*;have ab:o+(len+1)*z<=C.size:=by
     have hk:(kf P e)[z-1]? =some ((kf P e)[z-1]'(by omega)):=bB3 (by omega)
     have:=(y len (z-1) (by omega) _ hk).1
     grind
    let rows:Rows:=(List.range (len+1)).map fun r=>(List.range z).map fun k=>V r k
    have B:∀(r k:Nat) (row:List Dat) (d:Dat),rows[r]? =some row->row[k]? =some d->r<len+1/\k<z/\d=V r k:=by grind
    have D:rows.length=len+1:=by simp[rows]
    have rz:∀r∈rows,r.length=z:=by
     intro r hr;simp only[rows,bI1]at hr;obtain⟨i,_,rfl⟩:=hr;simp
    have O:cap<unk:=by have:=ao;unfold maxLen at this;unfold unk;omega
    have Z:aH4 w (.slice (some ⟨i,o,none⟩) (len+1) cap)=some (.slice (some ⟨i,o,none⟩) (len+1) cap):=by
     unfold aH4;simp only[hh];rw[bC3 ⟨au,O⟩]
    have A:∀k,k<z-> ∃kd,(kf P e)[k]? =some kd:=fun k hk=>⟨_,bB3 (by omega)⟩
    have ah:∀p:Nat×Nat,∃a,p.1<len+1->p.2<z->aH4 w (T p.1 p.2)=some a:=by
     intro⟨r,k⟩;simp only
     by_cases h:r<len+1/\k<z
     ·obtain⟨kd,g⟩:=A k h.2
      obtain⟨_,a,ha,_⟩:=y r k h.1 kd g;exact⟨a,fun _ _=>ha⟩
     ·exact⟨undef,fun h1 h2=>absurd ⟨h1,h2⟩ h⟩
    obtain⟨ca,al⟩:=Classical.axiomOfChoice ah;obtain⟨aa,Y⟩:∃aa:Nat->Nat->Value,∀r k,aa r k=ca (r,k):=⟨fun r k=>ca (r,k),fun _ _=>rfl⟩
    have X:∀r k,r<len+1->k<z->aH4 w (T r k)=some (aa r k):=by
     intro r k h1 h2;rw[Y];exact al (r,k) h1 h2
    refine⟨_,.lst rows,rfl,_,Z,?_,?_⟩
    ·rw[<-D]
     refine .sl e i o cap (.ro (roT w 0 C.toList) C.size e' 0) (roT w 0 C.toList) C.size z (zb:=0) rows aa (aX0 hh) rfl ⟨.inl ⟨O,by omega⟩,fun _=>O,fun h=>by cases h⟩ (by rw[D];exact ab) hz.symm rz ?_ ?_
     ·intro r k row d h1 h2
      obtain⟨M,W,rfl⟩:=B r k row d h1 h2;obtain⟨kd,g⟩:=A k W;have:=(y r k M kd g).1;rw[aJ1,bC3 (bI9 _),bI0];have e1:C.toList[o+r*z+k]? =some (T r k):=by rw[<-this];simp
      rw[e1];exact X r k M W
     ·intro r k row kd d h1 h2 g
      obtain⟨M,W,rfl⟩:=B r k row d h1 h2;obtain⟨_,a,ha,hp,_⟩:=y r k M kd g;have:=X r k M W;rw[ha]at this;cases this;exact hp
    ·refine .sl e rows (by rw[D];omega) (fun r hr=>by rw[hz];exact rz r hr) ?_
     intro r k row kd d h1 h2 g;obtain⟨M,W,rfl⟩:=B r k row d h1 h2;exact(y r k M kd g).2.choose_spec.2.2
  ·exact(hS _ hg).elim
variable {xs:Array Value}{ps:List MemPlace}
theorem bl0 {S : Kd → Prop} ( t : bk4 P S) {u : TypeId}  {d : DataW H}  (h : DataW.Trod enc P w 0 spare held u (.agg xs) d ps) (hl : aV0 P u = true) ( x : ∀ kd ∈ kf P u, S kd) :
  ∀(k:Nat) (kd:Kd),(kf P u)[k]? =some kd-> ∃(v:Value) (d:Dat),xs[k]? =some v/\ai0 P w kd v d:=by
 intro k kd g;obtain⟨p,h⟩:=h;obtain⟨B,C,y⟩:=aw6 hl;obtain⟨r,n,m⟩:=y k kd g;obtain⟨j,cs',e,x',q1,q2,D,z,A⟩:=ad5 20 h 0 k r n;obtain⟨v,d,rfl,q⟩:=aM3 t (e+1) e (bG1 _) r cs' x' z (by rw[m];exact x kd (bB1 g))
 have:=A 0 v rfl;have hj:j=k:=by omega
 subst hj;refine⟨v,d,by simpa [Value.cells]using this,by rw[m]at q;exact q⟩
theorem bt7 {u : TypeId}  {d : DataW H}  (h : DataW.Trod enc P w 0 spare held u (.agg xs) d ps) {m : Nat} (hl : aV0 P u = true) ( e : (kf P u).all (aN4 P m) = true) :
  ∀(k:Nat) (kd:Kd),(kf P u)[k]? =some kd-> ∃(v:Value) (d:Dat),xs[k]? =some v/\ai0 P w kd v d:=
 bl0 (bu1 P) h hl fun kd hk=>⟨m,bD1.1 e kd hk⟩
end
section
variable {P :Program}{U:Nat->List Dat->Dat}{ov:FuncId->Option TypeId}
theorem HR.roBelow {σ:Sg}{hp:Hp}{w w':World}(h:HR (BS.ro w) w σ hp w'):Below w.heap.size w w':=
 ⟨h.os,h.tape,h.output,h.size,h.kept⟩
end
end Go.Sx
end PartSm32
noncomputable section PartSm33
namespace Go.Sx
open Go.Xe
inductive Lf where
 |g (k:G)
 |ptr (i z:Nat)
 |nilp
 |clo (g:FuncId) (is:List (Nat×Nat))
 |cst (k:G) (e:E)
def Lf.so :Lf->Option So
 | .g k=>k.so
 |_=>none
def Lf.na :Lf->Nat
 | .g k=>k.na
 |_=>0
def Lf.blk (x:Lf)(d:E):Option n5:=match x with
 | .g k=>k.blk .any d
 |_=>none
def lvv (num:Nat->Nat)(x:Lf)(e:E)(nb:Nat):SV:=match x with
 | .g k=>tv k .any e nb
 | .ptr i z=>.ptr (num i) z (.int 0) 0
 | .nilp=>.nilp
 | .clo g is=>.fn (.func g) [] (is.map fun p=>.ptr (num p.1) p.2 (.int 0) 0)
 | .cst k e=>tv k .any e nb
def aP5 (x:Lf)(es:List E):List E:=match x.so with
 |some _=>tl1 es
 |none=>es
def be7 (num:Nat->Nat):List Lf->List E->Nat->List SV
 | [],_,_=>[]
 |x::l,es,nb=>lvv num x (hd1 es) nb::be7 num l (aP5 x es) (nb+x.na)
def O3 :List Lf->List E->Nat->List (Nat×Option n5)
 | [],_,_=>[]
 |x::l,es,nb=>match x.blk (hd1 es)with
  |some X=>(nb,some X)::O3 l (aP5 x es) (nb+x.na)
  |none=>O3 l (aP5 x es) (nb+x.na)
def g8 :List Lf->List So
 | []=>[]
 |x::l=>G7 x.so (g8 l)
def C2 :List Lf->Nat
 | []=>0
 |x::l=>x.na+C2 l
section
variable (P :Program)(U:Nat->List Dat->Dat)
def bo0 (x:Lf)(v:SV):M SV:=match x with
 | .g k=>aq6 P U k v
 | .cst k _=>aq6 P U k v
 |_=>b9 v
def eqS (so:So)(d e:E):Option E:=match so with
 | .i=>some (A3 d e)
 | .s=>some (aj7 d e)
 | .b=>some (bb3 d e)
 | .l=>match e with
  | .op .nil []=>some (A3 (i9 d) (.int 0))
  |_=>none
def aP0 :List Lf->List SV->M (List SV)
 |x::l,v::vs=>a7 (bo0 P U x v) fun v'=>a7 (aP0 l vs) fun vs'=>b9 (v'::vs')
 | [],[]=>b9 []
 |_,_=>a6 "contract: places"
def bl9 (bl:List Nat)(i b:Nat):Bool:=match bl[i]? with
 |some b'=>Nat.beq b b'
 |none=>false
def mtC (bl:List Nat):List (Nat×Nat)->List SV->Bool
 | [],[]=>true
 |p::is,.ptr b z (.int m) f::l=>bl9 bl p.1 b&&Nat.beq p.2 z&&decide (m=0)&&Nat.beq f 0&&mtC bl is l
 |_,_=>false
def bg2 (bl : List Nat) (x : Lf) (v : SV) : M (Option E × Option Nat) := match x with
 | .g k=>mt1 U k .any v
 | .ptr i z=>match v with
  | .ptr b z' (.int m) f=>bif bl9 bl i b&&Nat.beq z z'&&decide (m=0)&&Nat.beq f 0 then b9 (none,none)else a6 "contract: another pointer"
  |_=>a6 "contract: no pointer"
 | .nilp=>match v with
  | .nilp=>b9 (none,none)
  |_=>a6 "contract: not nil"
 | .clo g is=>match v with
  | .fn (.func g') [] l=>bif Nat.beq g g'&&mtC bl is l then b9 (none,none)else a6 "contract: another function"
  |_=>a6 "contract: no function"
 | .cst k e => bif Nat.beq k.na 0 then a7 (mt1 U k .any v) fun r => match r.1, k.so with
   |some d,some so=>match eqS so d e with
    |some c=>a7 (i3 U c) fun _=>b9 (none,none)
    |none=>a6 "contract: known"
   |_,_=>a6 "contract: known"
  else a6 "contract: known"
def mtL (bl:List Nat):List Lf->List SV->M (List E×List Nat)
 |x::l,v::vs=>a7 (bg2 U bl x v) fun r=>a7 (mtL bl l vs) fun t=>b9 (G7 r.1 t.1,G7 r.2 t.2)
 | [],[]=>b9 ([],[])
 |_,_=>a6 "contract: places"
end
section
variable {P :Program}{U:Nat->List Dat->Dat}
variable {τ:Tau}{F:Nat->Option Blk}{hp:Hp}
theorem bg5   {s : SS}  (x : Lf) {v : SV} {u : Value} ( d : VD P U τ F v u) (hs : SD P U τ F s hp) :
  OKh P U (bo0 P U x v) τ F s hp fun v' τ' F' hp'=>hp'=hp/\VD P U τ' F' v' u:=by
 cases x with
 |g k=>exact ax3 k d hs
 |cst k e=>exact ax3 k d hs
 |_=>exact OKh.ret ⟨rfl,d⟩
theorem ax4 : ∀ (ps : List Lf) (vs : List SV) (xs : List Value) (τ : Tau) (F : Nat → Option Blk) (s : SS) (hp : Hp), VDL P U τ F vs xs → SD P U τ F s hp →
  OKh P U (aP0 P U ps vs) τ F s hp fun g τ' F' hp'=>hp'=hp/\VDL P U τ' F' g xs
 | [],[],xs,τ,F,s,hp,e,hs=>OKh.ret ⟨rfl,e⟩
 | [],v::vs,xs,τ,F,s,hp,e,hs=>OKh.fail
 |p::ps,[],xs,τ,F,s,hp,e,hs=>OKh.fail
 |p::ps,v::vs,xs,τ,F,s,hp,e,hs=>by
  obtain⟨y,ys,rfl,h1,h2⟩:=e.uncons;unfold aP0;refine(bg5 p h1 hs).bind fun v' τ1 F1 s1 hp1 ex hs1 ⟨h,j⟩=>(ax4 ps vs ys τ1 F1 s1 hp1 (h2.mono ex.t ex.f) hs1).bind fun g τ2 m s2 hp2 d k ⟨k1,k2⟩=>OKh.ret ⟨by rw[k1,h],.cons (j.mono d.t d.f) k2⟩
theorem by0 {so:So}{d e c:E}(h:eqS so d e=some c)(hp:c.pr U):af2 U so d e:=by
 unfold eqS at h;split at h
 ·cases h;exact Q0 hp
 ·cases h
  rw[E.pr_iff,J7]at hp;show(d.den U).toStr=(e.den U).toStr
  simpa using hp
 ·cases h
  rw[E.pr_iff,aE9]at hp;show(d.den U).toBool=(e.den U).toBool
  simpa using hp
 ·split at h
  ·cases h
   have:=Q0 hp;rw[c9,o6]at this;show d.toR U=_;have h0:d.toR U=[]:=List.length_eq_zero_iff.1 (by omega)
   rw[h0];rfl
  ·cases h
variable (P U) in
def LOK (bl:List Nat)(τ:Tau)(F:Nat->Option Blk)(s:SS)(x:Lf)(v:SV)(r:Option E×Option Nat):Prop:=
 (∀so,x.so=some so-> ∃e,r.1=some e)/\(x.so=none->r.1=none)/\(x.na=0->r.2=none)/\
 (∀u,VD P U τ F v u-> ∀(τ2:Tau) (num:Nat->Nat) (nb:Nat) (d:E),(∀i b,bl[i]? =some b->τ2 (num i)=τ b)->(∀e so,r.1=some e->x.so=some so->af2 U so e d)->(∀b,r.2=some b->τ2 nb=τ b)->VD P U τ2 F (lvv num x d nb) u)/\
 (x.na≠0-> ∃so,x.so=some so/\bk1 P U τ F s so x.blk r)
theorem bb6 {bl:List Nat}:∀ {is:List (Nat×Nat)} {l:List SV} {num:Nat->Nat},mtC bl is l=true->(is.map fun p=>SV.ptr (num p.1) p.2 (.int 0) 0).length=l.length
 | [],[],num,_=>rfl
 | [],_::_,num,h=>by simp[mtC]at h
 |p::is,[],num,h=>by simp[mtC]at h
 |p::is,a::l,num,h=>by
  unfold mtC at h;split at h
  ·grind
  ·rename_i d e
   cases d;cases e;simp only[bA2]at h;have:=bb6 (num:=num) h.2
   grind
  ·cases h
theorem bb5 {bl : List Nat} {τ τ2 : Tau} {F : Nat → Option Blk} {num : Nat → Nat} : ∀ {is : List (Nat × Nat)} {l : List SV} {ys : List Value}, mtC bl is l = true → (∀ i b, bl[i]? = some b → τ2 (num i) = τ b) → VDL P U τ F l ys →
  ∀ {i:Nat} {a:SV} {x:Value},(is.map fun p=>SV.ptr (num p.1) p.2 (.int 0) 0)[i]? =some a->ys[i]? =some x->VD P U τ2 F a x
 | [],l,ys,h,hb,g,i,a,x,d,hx=>by simp at d
 |p::is,[],ys,h,hb,g,i,a,x,d,hx=>by simp[mtC]at h
 |p::is,b0::l,ys,h,hb,g,i,a,x,d,hx=>by
  unfold mtC at h;split at h
  ·grind
  ·rename_i j k
   cases j;cases k;simp only[bA2,bE1,bC2]at h;obtain⟨⟨⟨⟨h1,h2⟩,h3⟩,h4⟩,h5⟩:=h;subst h3;subst h4;obtain⟨y,n,rfl,k1,k2⟩:=g.uncons;cases i with
   |zero=>
    simp only[bF2,bB7,bA1]at d hx;subst d;subst hx;unfold bl9 at h1;split at h1
    ·rename_i b' e
     have:=bA6 h1;subst this;cases k1 with
     |ptr _ _ _ _ m o' h h0=>rw[h2];exact .ptr _ _ (.int 0) 0 m o' (by rw[hb _ _ e];exact h) h0
    ·cases h1
   |succ i=>
    simp only[bF2,bB2]at d hx;exact bb5 h5 hb k2 d hx
  ·cases h
theorem bu7 {s:SS}(bl:List Nat)(x:Lf)(v:SV):OKp U (bg2 U bl x v) s fun r=>∀s',s'.h=s.h->LOK P U bl τ F s' x v r:=by
 cases x with
 |g k=>
  refine(aV9 (P:=P) (τ:=τ) (F:=F) (fun _=>none) k .any v).mono fun r h s' q=>?_
  obtain⟨h1,h2,h3,h4,h5⟩:=h s' q;refine⟨h1,h2,h3,fun u j τ2 num nb d _ hd hb=>h4 u j τ2 nb d (fun b p e=>by cases e) ⟨fun _=>none,undef,.any _⟩ hd hb,fun A=>h5.1 A⟩
 |ptr i z=>
  simp only[bg2];split
  ·rename_i b J m f
   cases hc:bl9 bl i b&&Nat.beq z J&&decide (m=0)&&Nat.beq f 0 with
   |false=>exact OKp.fail
   |true=>
    simp only[bA2,bE1,bC2]at hc;obtain⟨⟨⟨hi,rfl⟩,rfl⟩,rfl⟩:=hc;refine OKp.ret fun s' _=>⟨fun so h=>(by cases h),fun _=>rfl,fun _=>rfl,fun u j τ2 num nb d hb _ _=>?_,fun h=>absurd rfl h⟩
    unfold bl9 at hi;split at hi
    ·rename_i b' y
     have:=bA6 hi;subst this;cases j with
     |ptr _ _ _ _ E o' h h0=>exact .ptr (num i) z (.int 0) 0 E o' (by rw[hb i b y];exact h) h0
    ·cases hi
  ·exact OKp.fail
 |clo g is=>
  simp only[bg2];split
  ·rename_i C l
   cases hc:Nat.beq g C&&mtC bl is l with
   |false=>exact OKp.fail
   |true=>
    rw[bA2]at hc;have:=bA6 hc.1;subst this;refine OKp.ret fun s' _=>⟨fun so h=>(by cases h),fun _=>rfl,fun _=>rfl,fun u j τ2 num nb d hb _ _=>?_,fun h=>absurd rfl h⟩
    cases j with
    |fn _ _ _ xs ys h1 h2 h3 h4=>
     refine .fn _ _ _ xs ys h1 (fun i a x t hx=>by simp at t) (by rw[<-h3];exact bb6 hc.2) fun i a x t hx=>?_
     exact bb5 hc.2 hb ⟨h3,h4⟩ t hx
  ·exact OKp.fail
 |nilp=>
  simp only[bg2];split
  ·refine OKp.ret fun s' _=>⟨fun so h=>(by cases h),fun _=>rfl,fun _=>rfl,fun u j τ2 num nb d _ _ _=>?_,fun h=>absurd rfl h⟩
   cases j;exact .nilp
  ·exact OKp.fail
 |cst k e=>
  simp only[bg2];cases hn:Nat.beq k.na 0 with
  |false=>exact OKp.fail
  |true=>
   have hn:=bA6 hn;rw[bB8];refine(aV9 (P:=P) (τ:=τ) (F:=F) (fun _=>none) k .any v).bind fun r s1 L _ hr=>?_
   split
   ·rename_i d so hd B
    split
    ·rename_i c hc
     refine OKp.need.bind fun _ s2 M D hp=>OKp.ret fun s' q=>?_
     obtain⟨h1,h2,h3,h4,h5⟩:=hr s' q;refine⟨fun so h=>(by cases h),fun _=>rfl,fun _=>rfl,fun u j τ2 num nb K _ _ _=>?_,fun h=>absurd rfl h⟩
     refine h4 u j τ2 nb e (fun b p e=>by cases e) ⟨fun _=>none,undef,.any _⟩ (fun e' G he n=>?_) fun b hb=>?_
     ·rw[hd]at he;cases he
      rw[B]at n;cases n;exact by0 hc hp
     ·rw[h3 hn]at hb;cases hb
    ·exact OKp.fail
   ·exact OKp.fail
variable (P U) in
def Y5 (bl:List Nat)(τ:Tau)(F:Nat->Option Blk)(s:SS):List Lf->List SV->List E->List Nat->Prop
 | [],[],es,bs=>es=[]/\bs=[]
 |x::l,v::vs,es,bs=>∃r es' bs',es=G7 r.1 es'/\bs=G7 r.2 bs'/\LOK P U bl τ F s x v r/\Y5 bl τ F s l vs es' bs'
 |_,_,_,_=>False
theorem aW0 {τ:Tau}{F:Nat->Option Blk}(bl:List Nat):∀(ps:List Lf) (vs:List SV) (s:SS),OKp U (mtL U bl ps vs) s fun r=>∀s',s'.h=s.h->Y5 P U bl τ F s' ps vs r.1 r.2
 | [],[],s=>OKp.ret fun _ _=>⟨rfl,rfl⟩
 | [],_::_,s=>OKp.fail
 |_::_,[],s=>OKp.fail
 |p::ps,v::vs,s=>by
  unfold mtL;refine(bu7 (P:=P) (τ:=τ) (F:=F) bl p v).bind fun r s1 e _ h1=>(aW0 (τ:=τ) (F:=F) bl ps vs s1).bind fun t s2 g _ h2=>OKp.ret fun s' d=>?_
  exact⟨r,t.1,t.2,rfl,rfl,h1 s' d,h2 s' (by rw[d,e.h])⟩
section
variable {bl :List Nat}{τ:Tau}{F:Nat->Option Blk}{s:SS}
theorem Lf.blk_none {x:Lf}(h:x.na=0)(d:E):x.blk d=none:=by
 cases x with
 |g k=>exact G.blk_none h .any d
 |_=>rfl
theorem aO0 {x : Lf} {ps : List Lf} {v : SV} {r : Option E × Option Nat} {  m ds : List E} (h : LOK P U bl τ F s x v r) (hd : T7 U (g8 (x :: ps)) (G7 r.1   m) ds) :
  (∀e so,r.1=some e->x.so=some so->af2 U so e (hd1 ds))/\T7 U (g8 ps) m (aP5 x ds)/\(∀b,r.2=some b->x.na=1)/\(x.na=0\/x.na=1):=by
 obtain⟨p,q,t,u,y⟩:=h;have n:x.na=0\/x.na=1:=by
  cases x with
  |g k=>exact k.na_le
  |_=>exact .inl rfl
 refine⟨?_,?_,fun b hb=>?_,n⟩
 ·intro e so he j
  unfold g8 at hd;rw[j,he]at hd;cases ds with
  |nil=>exact hd.elim
  |cons d ds=>exact hd.1
 ·unfold g8 at hd
  cases j:x.so with
  |none=>
   rw[j,q j]at hd;unfold aP5;rw[j];exact hd
  |some so=>
   obtain⟨e,he⟩:=p so j;rw[j,he]at hd;cases ds with
   |nil=>exact hd.elim
   |cons d ds=>unfold aP5;rw[j];exact hd.2
 ·grind
theorem Y5.vals : ∀ {ps : List Lf} {vs : List SV} {es : List E} {bs : List Nat} {ds : List E} {xs : List Value} {τ2 : Tau} {num : Nat → Nat} {nb : Nat}, Y5 P U bl τ F s ps vs es bs → T7 U (g8 ps) es ds →
  (∀i b,bl[i]? =some b->τ2 (num i)=τ b)->(∀k b,bs[k]? =some b->τ2 (nb+k)=τ b)->VDL P U τ F vs xs->VDL P U τ2 F (be7 num ps ds nb) xs
 | [], [], es, bs, ds, xs, τ2, num, nb, h, hd, hk, hb, hx => by
   have:xs=[]:=bA7 hx.1.symm;subst this;exact VDL.nil
 | [],_::_,es,bs,ds,xs,τ2,num,nb,h,hd,hk,hb,hx=>h.elim
 |x::ps,[],es,bs,ds,xs,τ2,num,nb,h,hd,hk,hb,hx=>h.elim
 |x::ps,v::vs,es,bs,ds,xs,τ2,num,nb,h,hd,hk,hb,hx=>by
  obtain⟨r,j,g,rfl,rfl,hm,e⟩:=h;obtain⟨y,ys,rfl,h1,h2⟩:=hx.uncons;obtain⟨s1,s2,n,m⟩:=aO0 hm hd;unfold be7;refine .cons (hm.2.2.2.1 y h1 τ2 num nb (hd1 ds) hk s1 fun b hr=>?_) (Y5.vals e s2 hk (fun k b d=>?_) h2)
  ·have:=hb 0 b (by rw[hr];rfl)
   grind
  ·rcases m with h0|h0
   ·rw[h0,bG6]
    have hr:r.2=none:=hm.2.2.1 h0;rw[hr]at hb;exact hb k b d
   ·obtain⟨so,_,b',L,x',hr,_⟩:=hm.2.2.2.2 (by omega)
    rw[hr]at hb;have:=hb (k+1) b d
    grind
theorem Y5.blks : ∀ {ps : List Lf} {vs : List SV} {es : List E} {bs : List Nat} {ds : List E} {nb : Nat}, Y5 P U bl τ F s ps vs es bs → T7 U (g8 ps) es ds →
  ∀b' y,lk (O3 ps ds nb) b'=some y-> ∃k b X x',b'=nb+k/\bs[k]? =some b/\y=some X/\s.get b=some x'/\(∀(τ2:Tau) o z,BD P U τ F o x' z->BD P U τ2 F o X z)/\(B6 P U x'->B6 P U X)
 | [],vs,es,bs,ds,nb,h,hd=>fun b' y hy=>by simp[O3,lk]at hy
 |x::ps,[],es,bs,ds,nb,h,hd=>h.elim
 |x::ps,v::vs,es,bs,ds,nb,h,hd=>by
  obtain⟨r,C,A,rfl,rfl,hm,j⟩:=h;obtain⟨s1,s2,J,D⟩:=aO0 hm hd;intro b' y hy;have t:=Y5.blks (nb:=nb+x.na) j s2
  by_cases e:x.na=0
  ·have hr:r.2=none:=hm.2.2.1 e
   have d:lk (O3 ps (aP5 x ds) (nb+x.na)) b'=some y:=by
    unfold O3 at hy;rw[Lf.blk_none e]at hy;exact hy
   obtain⟨k,b,X,x',h1,h2⟩:=t b' y d;exact⟨k,b,X,x',by rw[h1,e,bG6],by rw[hr];exact h2⟩
  ·have m:x.na=1:=D.resolve_left e
   obtain⟨so,p,b0,L,x',hr,n,hx,g⟩:=hm.2.2.2.2 e;obtain⟨u,G,k1,k2⟩:=g (hd1 ds) (s1 L so n p);have d:lk ((nb,some u)::O3 ps (aP5 x ds) (nb+x.na)) b'=some y:=by
    unfold O3 at hy
    grind
   rw[j4]at d;split at d
   ·rename_i B
    simp only[bA1]at d;exact⟨0,b0,_,x',B.symm,by rw[hr];rfl,d.symm,hx,k1,k2⟩
   ·obtain⟨k,b,X,q,h1,h2,h3⟩:=t b' y d
    exact⟨k+1,b,X,q,by rw[h1,m];omega,by rw[hr];exact h2,h3⟩
theorem Y5.live :∀ {ps:List Lf} {vs:List SV} {es:List E} {bs:List Nat},Y5 P U bl τ F s ps vs es bs-> ∀ {k b:Nat},bs[k]? =some b-> ∃x,s.get b=some x
 | [],[],es,bs,h,k,b,hb=>by rw[h.2]at hb;simp at hb
 | [],_::_,es,bs,h,k,b,hb=>h.elim
 |p::ps,[],es,bs,h,k,b,hb=>h.elim
 |p::ps,v::vs,es,bs,h,k,b,hb=>by
  obtain⟨r,j,g,rfl,rfl,hm,d⟩:=h;cases hr:r.2 with
  |none=>rw[hr]at hb;exact d.live hb
  |some b0=>
   rw[hr]at hb;cases k with
   |succ k=>exact d.live (k:=k) hb
   |zero=>
    have e:p.na≠0:=fun h0=>by rw[hm.2.2.1 h0]at hr;cases hr
    obtain⟨so,_,m,L,x',h1,_,hx,_⟩:=hm.2.2.2.2 e;rw[hr]at h1;simp only[bA1]at h1;have e0:b0=b:=by simpa [G7]using hb
    grind
theorem Y5.len :∀ {ps:List Lf} {vs:List SV} {es:List E} {bs:List Nat},Y5 P U bl τ F s ps vs es bs->es.length=(g8 ps).length
 | [],[],es,bs,h=>by rw[h.1];rfl
 | [],_::_,es,bs,h=>h.elim
 |p::ps,[],es,bs,h=>h.elim
 |p::ps,v::vs,es,bs,h=>by
  obtain⟨r,m,k,rfl,rfl,hm,g⟩:=h;have j:=g.len;unfold g8;cases d:p.so with
  |none=>rw[hm.2.1 d];exact j
  |some so=>
   obtain⟨e,he⟩:=hm.1 so d;rw[he];simp only[G7,bE4,j]
end
inductive Vs where
 |one (l:Lf)
 |agg (ls:List Lf)
def Vs.lfs :Vs->List Lf
 | .one l=>[l]
 | .agg ls=>ls
def Vs.fl :Vs->SV->Option (List SV)
 | .one _,v=>some [v]
 | .agg ls,.agg l=>bif Nat.beq l.length ls.length then some l else none
 |_,_=>none
def hdV :List SV->SV
 | []=>.any
 |v::_=>v
def Vs.mk :Vs->List SV->SV
 | .one _,l=>hdV l
 | .agg _,l=>.agg l
def aB9 :List Vs->List SV->Option (List SV)
 | [],[]=>some []
 |a::r,v::vs=>match a.fl v with
  |some l=>match aB9 r vs with
   |some m=>some (l++m)
   |none=>none
  |none=>none
 |_,_=>none
def L6 :List Vs->List Lf
 | []=>[]
 |a::r=>a.lfs++L6 r
def aV8 :List Vs->List SV->List SV
 | [],_=>[]
 |a::r,fl=>a.mk (fl.take a.lfs.length)::aV8 r (fl.drop a.lfs.length)
theorem VDL.split {d:List SV}{xs ys:List Value}(h:VDL P U τ F d (xs++ys)):VDL P U τ F (d.take xs.length) xs/\VDL P U τ F (d.drop xs.length) ys:=by
 induction xs generalizing d with
 |nil=>exact⟨by simpa using VDL.nil,by simpa using h⟩
 |cons x xs g=>
  cases d with
  |nil=>have:=h.1;simp at this
  |cons a d=>
   obtain⟨y,j,e,h1,h2⟩:=h.uncons;cases e;obtain⟨k1,k2⟩:=g h2;exact⟨.cons h1 k1,k2⟩
variable {l:List SV}
theorem Vs.fl_ok   {a : Vs} {v : SV}  {x : Value} (h : a.fl v = some l) ( k : VD P U τ F v x) :
  ∃xs,VDL P U τ F l xs/\xs.length=a.lfs.length/\ ∀(τ2:Tau) j d,VDL P U τ2 j d xs->VD P U τ2 j (a.mk d) x:=by
 cases a with
 |one p=>
  simp only[Vs.fl,bA1]at h;subst h;refine⟨[x],.cons k .nil,rfl,fun τ2 j d g=>?_⟩
  cases d with
  |nil=>have:=g.1;simp at this
  |cons b d=>obtain⟨y,ys,e,h1,_⟩:=g.uncons;cases e;exact h1
 |agg ls=>
  unfold Vs.fl at h;split at h
  ·grind
  ·rename_i n m hh
   cases hh;cases hc:Nat.beq m.length ls.length with
   |false=>grind
   |true=>
    rw[hc,bB8,bA1]at h;subst h;cases k with
    |agg _ xs h1 h2=>exact⟨xs,⟨h1,h2⟩,by rw[<-h1];exact bA6 hc,fun τ2 j d g=>.agg d xs g.1 g.2⟩
  ·cases h
theorem aI2 {τ : Tau} {F : Nat → Option Blk} : ∀ {as : List Vs} {vs fl : List SV} {args : List Value}, aB9 as vs = some fl → VDL P U τ F vs args →
  ∃fx,VDL P U τ F fl fx/\fx.length=(L6 as).length/\ ∀(τ2:Tau) e j rest,VDL P U τ2 e j fx->VDL P U τ2 e (aV8 as (j++rest)) args
 | [],[],fl,args,h,g=>by
  simp only[aB9,bA1]at h;subst h;have:args=[]:=bA7 g.1.symm;subst this;exact⟨[],.nil,rfl,fun _ _ _ _ _=>.nil⟩
 | [],_::_,fl,args,h,g=>by simp[aB9]at h
 |_::_,[],fl,args,h,g=>by simp[aB9]at h
 |a::r,v::vs,fl,args,h,g=>by
  unfold aB9 at h;split at h
  ·rename_i l hl
   split at h
   ·rename_i m hm
    cases h;obtain⟨y,ys,rfl,h1,h2⟩:=g.uncons;obtain⟨xs,k1,k2,k3⟩:=Vs.fl_ok hl h1;obtain⟨fx,q1,q2,q⟩:=aI2 hm h2;refine⟨xs++fx,k1.append q1,by simp[L6,k2,q2],fun τ2 e j rest k=>?_⟩
    obtain⟨n,p⟩:=k.split;have d:xs.length<=j.length:=by rw[k.1];simp
    unfold aV8;rw[<-k2,List.take_append_of_le_length d,List.drop_append_of_le_length d];exact .cons (k3 τ2 e _ n) (q τ2 e _ rest p)
   ·cases h
  ·cases h
def resL :List Vs->SV->Option (List SV)
 | [_],a=>some [a]
 |_,.tup l=>some l
 |_,_=>none
def aP4 :List Vs->List SV->SV
 | [_],l=>hdV l
 |_,l=>.tup l
theorem bv4   {res : List Vs} {a : SV}  {v : Value} (h : resL res a = some l) ( k : VD P U τ F a v) :
  ∃xs,VDL P U τ F l xs/\ ∀(τ2:Tau) g n,VDL P U τ2 g n xs->VD P U τ2 g (aP4 res n) v:=by
 unfold resL at h;split at h
 ·simp only[bA1]at h
  subst h;refine⟨[v],.cons k .nil,fun τ2 g j d=>?_⟩
  cases j with
  |nil=>have:=d.1;simp at this
  |cons b j=>obtain⟨y,ys,e,h1,_⟩:=d.uncons;cases e;exact h1
 ·rename_i r m p
  cases h;cases k with
  |tup _ xs h1 h2=>
   refine⟨xs,⟨h1,h2⟩,fun τ2 g j d=>?_⟩
   unfold aP4;split
   ·grind
   ·exact .tup j xs d.1 d.2
 ·cases h
abbrev ai1:=TypeId ×Nat×List Lf
def bm4 :List ai1->List Lf
 | []=>[]
 |a::r=>a.2.2++bm4 r
def aB8 (s : SS) : List ai1 → List Nat → Option (List SV)
 | [],[]=>some []
 | a :: r, b :: bs => match s.get b with
  | some (.cells l e' z') => bif Nat.beq a.1 e' && Nat.beq a.2.1 z' && Nat.beq l.length a.2.2.length then
    match aB8 s r bs with
    |some m=>some (l++m)
    |none=>none
   else none
  |_=>none
 |_,_=>none
def Q9 (num:Nat->Nat):Nat->List ai1->List SV->List (Nat×Option n5)
 |_,[],_=>[]
 |i,a::r,fl=>(num i,some (.cells (fl.take a.2.2.length) a.1 a.2.1))::Q9 num (i+1) r (fl.drop a.2.2.length)
def BX (τ:Tau)(hp:Hp):List ai1->List Nat->List Value->Prop
 | [],[],fx=>fx=[]
 |a::r,b::bs,fx=>∃xs ys,fx=xs++ys/\xs.length=a.2.2.length/\(∃i o cs n,τ b=some (some (i,o))/\hp.m.get i=some (.cells cs n a.1 a.2.1)/\o+xs.length<=n/\ ∀(j:Nat) x,xs[j]? =some x->cs.get (o+j)=some x)/\BX τ hp r bs ys
 |_,_,_=>False
theorem BX.mono {τ':Tau}(ht:Tle τ τ'):∀ {r:List ai1} {bs:List Nat} {fx:List Value},BX τ hp r bs fx->BX τ' hp r bs fx
 | [],[],fx,h=>h
 | [],_::_,fx,h=>h.elim
 |_::_,[],fx,h=>h.elim
 |a::r,b::bs,fx,h=>by
  obtain⟨xs,ys,h1,h2,⟨i,o,cs,n,h3,h4⟩,h5⟩:=h;exact⟨xs,ys,h1,h2,⟨i,o,cs,n,ht _ _ h3,h4⟩,h5.mono ht⟩
theorem BX.len :∀ {r:List ai1} {bs:List Nat} {fx:List Value},BX τ hp r bs fx->bs.length=r.length/\fx.length=(bm4 r).length
 | [],[],fx,h=>by have h:fx=[]:=h;subst h;exact⟨rfl,rfl⟩
 | [],_::_,fx,h=>h.elim
 |_::_,[],fx,h=>h.elim
 |a::r,b::bs,fx,h=>by
  obtain⟨xs,ys,rfl,h2,_,h5⟩:=h;obtain⟨k1,k2⟩:=h5.len;exact⟨by simp[k1],by simp[bm4,h2,k2]⟩
theorem aH8 {τ : Tau} {F : Nat → Option Blk} {s : SS} {hp : Hp} (hs : SD P U τ F s hp) : ∀ {r : List ai1} {bs : List Nat} {fl : List SV}, aB8 s r bs = some fl → ∃ fx, VDL P U τ F fl fx ∧ BX τ hp r bs fx
 | [],[],fl,h=>by
  simp only[aB8,bA1]at h;subst h;exact⟨[],.nil,rfl⟩
 | [],_::_,fl,h=>by simp[aB8]at h
 |_::_,[],fl,h=>by simp[aB8]at h
 | a :: r, b :: bs, fl, h => by
  unfold aB8 at h;split at h
  ·rename_i l e'  z hb
   cases hc:Nat.beq a.1 e'&&Nat.beq a.2.1 z&&Nat.beq l.length a.2.2.length with
   |false=>rw[hc]at h;cases h
   | true =>
    rw[hc,bB8]at h;simp only[bA2,bE1]at hc;obtain⟨⟨rfl,rfl⟩,p⟩:=hc;split at h
    ·rename_i m hm
     cases h;obtain⟨fx,q1,q2⟩:=aH8 hs hm
     rcases hs.live b _ hb with⟨i,o,y,h1,h2,h3,cs,n,rfl,h4,h5⟩| ⟨_,L,e',z,ph,h2,_⟩
     ·have     d : ∀ j, ∃ x, ∀ a', l[j]? = some a' → cs.get (o + j) = some x ∧ VD P U τ F a' x := by
       intro j;cases hj:l[j]? with
       |none=>exact⟨undef,fun a' e=>by cases e⟩
       |some a'=>simp_all
      obtain⟨u,k⟩:=Classical.axiomOfChoice d
      let xs:=(List.range l.length).map u
      have g:xs.length=l.length:=by simp[xs]
      have q:∀(j:Nat) x,xs[j]? =some x-> ∃a',l[j]? =some a'/\x=u j:=by
       intro j x hx;have hj:j<l.length:=by grind
       refine⟨l[j],bB3 hj,?_⟩
       grind
      have B:VDL P U τ F l xs:=⟨g.symm,fun j a' x A hx=>by
       obtain⟨_,_,rfl⟩:=q j x hx;exact(k j a' A).2⟩
      refine⟨xs++fx,B.append q1,xs,fx,rfl,by rw[g];exact p,⟨i,o,cs,n,h1,h2,by rw[g];exact h4,fun j x hx=>?_⟩,q2⟩
      obtain⟨a',t,rfl⟩:=q j x hx;exact(k j a' t).1
     ·cases h2
    ·cases h
  ·cases h
theorem aI7 {τ τ2 : Tau} {F : Nat → Option Blk} {hp : Hp} {num : Nat → Nat} {rest : List SV} : ∀ {r : List ai1} {bs : List Nat} {fx : List Value} { g : List SV} {i0 : Nat}, BX τ hp r bs fx → VDL P U τ2 F  g fx → ∀ {b : Nat} {y : Option n5}, lk (Q9 num i0 r ( g ++ rest)) b = some y →
  ∃j p X i o Y,b=num (i0+j)/\bs[j]? =some p/\y=some X/\(∃l e z,X= .cells l e z)/\τ p=some (some (i,o))/\hp.m.get i=some Y/\BD P U τ2 F o X Y
 | [],[],fx,g,i0,h,k,b,y,hy=>by simp[Q9,lk]at hy
 | [],_::_,fx,g,i0,h,k,b,y,hy=>h.elim
 |_::_,[],fx,g,i0,h,k,b,y,hy=>h.elim
 |a::r,b0::bs,fx,g,i0,h,k,b,y,hy=>by
  obtain⟨xs,ys,rfl,h2,⟨i,o,cs,n,h3,h4,h5,D⟩,E⟩:=h;obtain⟨t,C⟩:=k.split;have d:xs.length<=g.length:=by rw[k.1];simp
  unfold Q9 at hy;rw[<-h2,List.take_append_of_le_length d,List.drop_append_of_le_length d,j4]at hy;split at hy
  ·rename_i e
   simp only[bA1]at hy;subst hy;refine⟨0,b0,_,i,o,_,e.symm,rfl,rfl,⟨_,_,_,rfl⟩,h3,h4,cs,n,rfl,by rw[t.1];exact h5,fun j a' G=>?_⟩
   obtain⟨x,hx,q⟩:=t.get G;exact⟨x,D j x hx,q⟩
  ·obtain⟨j,p,X,J,o',Y,u,A,B⟩:=aI7 E C hy
   exact⟨j+1,p,X,J,o',Y,by rw[u];congr 1;omega,A,B⟩
theorem ax0 {num:Nat->Nat}:∀ {r:List ai1} {fl:List SV} {i0 j:Nat},j<r.length->num (i0+j)∈(Q9 num i0 r fl).map Prod.fst
 | [],fl,i0,j,h=>by simp at h
 |a::r,fl,i0,0,h=>by simp[Q9]
 |a::r,fl,i0,j+1,h=>by
  simp only[Q9,bF2,bD9]
  right
  have:=ax0 (num:=num) (r:=r) (fl:=fl.drop a.2.2.length) (i0:=i0+1) (j:=j) (by simpa using h)
  grind
end
end Go.Sx
end PartSm33
noncomputable section PartSm34
namespace Go.Sx
open Go.Xe
structure Con where
 name:String
 args:List Vs
 blks:List ai1
 find:List SV->SS->Option (List Nat)
 pre:List Dat->Prop
 res:List Vs
 post:List ai1
 find':SV->SS->Option (List Nat)
 rel:List Dat->List Dat->Prop
def Con.inL (c:Con):List Lf:=L6 c.args++bm4 c.blks
def Con.outL (c:Con):List Lf:=L6 c.res++bm4 c.post
def j8 :Nat->Nat->List Nat
 |_,0=>[]
 |i,n+1=>i::j8 (i+1) n
theorem p8 :∀(n i:Nat),(j8 i n).length=n
 |0,_=>rfl
 |n+1,i=>by simp[j8,p8 n]
theorem aa6 :∀(n i k:Nat),(j8 i n)[k]? =if k<n then some (i+k)else none
 |0,i,k=>by simp[j8]
 |n+1,i,0=>by simp[j8]
 |n+1,i,k+1=>by
  simp only[j8,bB2,aa6 n (i+1) k]
  grind
def idN :Nat->Nat:=fun i=>i
def aq2 (c:Con)(es:List E):List SV:=be7 idN c.inL es c.blks.length
def af0 (c:Con)(es:List E):List SV:=aV8 c.args (aq2 c es)
def gst (c:Con)(es:List E)(fv:Nat):SS:=⟨Q9 idN 0 c.blks ((aq2 c es).drop (L6 c.args).length)++O3 c.inL es c.blks.length,c.blks.length+C2 c.inL,[],fv,[]⟩
def az8 (τ:Tau)(ns:List Nat):Tau:=fun b=>match ns[b]? with
 |some b'=>τ b'
 |none=>none
def M7 (c:Con)(bl:List Nat)(n:Nat)(i:Nat):Nat:=bif Nat.ble (i+1) c.blks.length then bl.getD i 0 else n+(i-c.blks.length)
def J1 (c:Con)(es:List E)(s:SS)(bl:List Nat):List SV:=be7 (M7 c bl s.nx) c.outL es (s.nx+(c.post.length-c.blks.length))
def fst_ (c:Con)(es:List E)(s:SS)(bl kill:List Nat):SS:=
 ⟨Q9 (M7 c bl s.nx) 0 c.post ((J1 c es s bl).drop (L6 c.res).length)++(O3 c.outL es (s.nx+(c.post.length-c.blks.length))++(L5 (kill++(bl++ [s.nx]))++s.h)),s.nx+(c.post.length-c.blks.length)+C2 c.outL,s.fc,s.fv+(g8 c.outL).length,s.fz⟩
def aN9 (s:SS)(b:Nat):Bool:=(s.get b).isSome
section
variable (P :Program)(U:Nat->List Dat->Dat)
def cfin (c:Con)(es:List E)(a:SV):M Unit:=i7 fun s=>match resL c.res a with
 |none=>a6 "contract: result"
 |some l=>match aB9 c.res l with
  |none=>a6 "contract: results"
  |some fl1=>match c.find' a s with
   |none=>a6 "contract: new blocks"
   |some nw=>match aB8 s c.post (j8 0 c.blks.length++nw)with
    |none=>a6 "contract: blocks behind"
    |some fl2=>a7 (aP0 P U c.outL (fl1++fl2)) fun vs=>a7 (mtL U (j8 0 c.blks.length++nw) c.outL vs) fun t=>i7 fun s2=>
     bif (j8 0 c.blks.length++nw).all (aN9 s2)&&af9 (nw++t.2)&&nw.all (Nat.ble (c.blks.length+C2 c.inL))&&t.2.all (Nat.ble c.blks.length)&&Nat.beq t.2.length (C2 c.outL)&&Nat.beq (nw.length+c.blks.length) c.post.length then
      fun _=>.need (.pt (c.name++ "Rel") [(g8 c.inL).zip es,(g8 c.outL).zip t.1]) (c.rel (i6 U (g8 c.inL) es) (i6 U (g8 c.outL) t.1)) .done
     else a6 "contract: the end"
def cvc (c:Con)(run:List SV->M SV):Tr (Unit×SS):=
 be6 (g8 c.inL) 0 fun es=>.asm (.pt (c.name++ "Pre") [(g8 c.inL).zip es]) (c.pre (i6 U (g8 c.inL) es)) ((a7 (run (af0 c es)) (cfin P U c es)) (gst c es (g8 c.inL).length))
def kcon (c:Con)(args:List SV):M SV:=i7 fun s0=>match aB9 c.args args with
 |none=>a6 "contract: arguments"
 |some fl1=>match c.find args s0 with
  |none=>a6 "contract: no blocks"
  |some bl=>match aB8 s0 c.blks bl with
   |none=>a6 "contract: blocks"
   |some fl2=>a7 (aP0 P U c.inL (fl1++fl2)) fun vs=>a7 (mtL U bl c.inL vs) fun t=>i7 fun s1=>
    bif bl.all (aN9 s1)&&af9 (bl++t.2)&&Nat.beq t.2.length (C2 c.inL)&&Nat.ble c.blks.length c.post.length then
     fun _=>.need (.pt (c.name++ "Pre") [(g8 c.inL).zip t.1]) (c.pre (i6 U (g8 c.inL) t.1)) (be6 (g8 c.outL) s1.fv fun ds=>.asm (.pt (c.name++ "Rel") [(g8 c.inL).zip t.1,(g8 c.outL).zip ds]) (c.rel (i6 U (g8 c.inL) t.1) (i6 U (g8 c.outL) ds))
      (.ret (aP4 c.res (aV8 c.res (J1 c ds s1 bl)),fst_ c ds s1 bl t.2)))
    else a6 "contract: the start"
end
section
variable {P :Program}{U:Nat->List Dat->Dat}{ov:FuncId->Option TypeId}
theorem aE4 {s:SS}{b:Nat}(h:aN9 s b=true):∃x,s.get b=some x:=Option.isSome_iff_exists.1 h
theorem I1 {τ:Tau}{d:List Nat}{b b':Nat}(h:d[b]? =some b'):az8 τ d b=τ b':=by unfold az8;rw[h]
variable {c:Con}
theorem by3  {τ : Tau} {F : Nat → Option Blk} {s : SS} {hp : Hp} {vs : List SV} {  u   A : List Value} {bl    d : List Nat} {es ds : List E} {fv : Nat} (hs : SD P U τ F s hp) (hv : VDL P U τ F vs (  u ++   A)) (h1 :   u.length = (L6 c.args).length)
  (hb:BX τ hp c.blks bl A) (hm:Y5 P U bl τ F s c.inL vs es d) (hd:af9 (bl++d)=true) (p:∀b∈bl,∃x,s.get b=some x) (hn:d.length=C2 c.inL) (J:T7 U (g8 c.inL) es ds):
  SD P U (az8 τ (bl++d)) F (gst c ds fv) hp/\VDL P U (az8 τ (bl++d)) F (aq2 c ds) (u++A)/\ ∀b x,(gst c ds fv).get b=some x-> ∃b' x',(bl++d)[b]? =some b'/\s.get b'=some x':=by
 have aa:bl.length=c.blks.length:=hb.len.1;have n1:∀i b,bl[i]? =some b->(bl++d)[i]? =some b:=fun i b h=>by rw[bB0 (bA4.1 h).1];exact h
 have V:∀k b,d[k]? =some b->(bl++d)[c.blks.length+k]? =some b:=fun k b h=>by
  grind
 have r:VDL P U (az8 τ (bl++d)) F (aq2 c ds) (u++A):=hm.vals J (fun i b h=>I1 (n1 i b h)) (fun k b h=>I1 (V k b h)) hv
 obtain ⟨_,v2⟩:=r.split;rw [h1] at v2;have Z:=hm.blks (nb:=c.blks.length) J;have   D : ∀ b x, (gst c ds fv).get b = some x →
   (∃b' i o Y,bl[b]? =some b'/\(∃l e z,x= .cells l e z)/\τ b'=some (some (i,o))/\hp.m.get i=some Y/\BD P U (az8 τ (bl++d)) F o x Y)\/
   (∃k b' x',b=c.blks.length+k/\d[k]? =some b'/\s.get b'=some x'/\(∀(τ2:Tau) o z,BD P U τ F o x' z->BD P U τ2 F o x z)/\(B6 P U x'->B6 P U x)):=by
  intro b x g;have n:(match lk (Q9 idN 0 c.blks ((aq2 c ds).drop (L6 c.args).length)++O3 c.inL ds c.blks.length) b with|some x=>x|none=>none)=some x:=g
  rw[D6]at n;cases N:lk (Q9 idN 0 c.blks ((aq2 c ds).drop (L6 c.args).length)) b with
  |some y=>
   rw[N]at n;simp only at n;subst n;rw[<-bI5 ((aq2 c ds).drop (L6 c.args).length)]at N;obtain⟨j,bj,X,i,o,Y,t,B,C,L,M,e6,e7⟩:=aI7 hb v2 N;cases C;have:b=j:=by rw[t];show 0+j=j;omega
   grind
  |none=>grind
 have src:∀b x,(gst c ds fv).get b=some x-> ∃b' x',(bl++d)[b]? =some b'/\s.get b'=some x':=by
  intro b x g
  rcases D b x g with⟨b',i,o,Y,t,_⟩| ⟨k,b',x',rfl,B,C,_⟩
  ·obtain⟨x',K⟩:=p b' (bB1 t)
   grind
  ·grind
 refine⟨⟨fun b x g=>?_,fun b W x y i o j q g O R t B=>?_,hs.frz,fun b i o h=>?_,hs.flt,fun b G=>?_,(fun _ _ h=>by cases h),fun _ h=>by cases h⟩,r,src⟩
 ·rcases D b x g with⟨b',i,o,Y,t,B,C,L,M⟩| ⟨k,b',x',rfl,B,C,L,M⟩
  ·obtain⟨x',K⟩:=p b' (bB1 t)
   rcases hs.live b' x' K with⟨i',o',y',k1,_,k3,_⟩| ⟨k1,_⟩
   ·rw[C]at k1
    cases k1;exact .inl ⟨i,o,Y,by rw[I1 (n1 b b' t)];exact C,L,k3,M⟩
   ·grind
  ·rcases hs.live b' x' C with⟨i,o,y,k1,k2,k3,T⟩| ⟨k1,k2⟩
   ·exact .inl ⟨i,o,y,by rw[I1 (V k b' B)];exact k1,k2,k3,L _ o y T⟩
   ·exact .inr ⟨by rw[I1 (V k b' B)];exact k1,M k2⟩
 ·obtain⟨b',x',k1,k2⟩:=src b x g
  obtain⟨c',y',k3,T⟩:=src W y O;rw[I1 k1]at t;rw[I1 k3]at B;refine hs.inj b' c' x' y' i o j q k2 T (fun e=>?_) t B
  subst e;exact R (Z7 hd b W b' k1 k3)
 ·unfold az8 at h
  split at h
  ·exact hs.lt _ i o h
  ·cases h
 ·have G:c.blks.length+C2 c.inL<=b:=G
  unfold az8
  grind
variable (P U) in
def RX (c:Con)(X:List Value->Hp->Value->Hp->Prop)(es:List E)(τ:Tau)(F:Nat->Option Blk)(hp:Hp)(xs:List Value):Prop:=
 ∃v τ' F' s' hp' vs fx1 fx2 es' nw accs,X xs hp v hp'/\Ext τ F (gst c (s8 U (g8 c.inL) 0 es) (g8 c.inL).length) hp τ' F' s' hp'/\SD P U τ' F' s' hp'/\VDL P U τ' F' vs (fx1++fx2)/\fx1.length=(L6 c.res).length/\
  (∀(τ2:Tau) F2 gl rest,VDL P U τ2 F2 gl fx1->VD P U τ2 F2 (aP4 c.res (aV8 c.res (gl++rest))) v)/\BX τ' hp' c.post (j8 0 c.blks.length++nw) fx2/\Y5 P U (j8 0 c.blks.length++nw) τ' F' s' c.outL vs es' accs/\
  (∀b∈j8 0 c.blks.length++nw,∃x,s'.get b=some x)/\af9 (nw++accs)=true/\(∀b∈nw,c.blks.length+C2 c.inL<=b)/\(∀b∈accs,c.blks.length<=b)/\accs.length=C2 c.outL/\nw.length+c.blks.length=c.post.length/\
  c.rel (i6 U (g8 c.inL) es) (i6 U (g8 c.outL) es')
variable (P U) in
def M4 (c:Con)(Pm:List Value->Prop)(X:List Value->Hp->Value->Hp->Prop):Prop:=∀(es:List E),es.length=(g8 c.inL).length->c.pre (i6 U (g8 c.inL) es)-> ∀τ F hp xs,SD P U τ F (gst c (s8 U (g8 c.inL) 0 es) (g8 c.inL).length) hp->VDL P U τ F (af0 c (s8 U (g8 c.inL) 0 es)) xs->Pm xs->RX P U c X es τ F hp xs
variable (P U ov) in
def d6 (c:Con)(g:FuncId):Prop:=∀(es:List E),es.length=(g8 c.inL).length->c.pre (i6 U (g8 c.inL) es)-> ∀τ F hp xs,SD P U τ F (gst c (s8 U (g8 c.inL) 0 es) (g8 c.inL).length) hp->VDL P U τ F (af0 c (s8 U (g8 c.inL) 0 es)) xs->RX P U c (E4 P ov g) es τ F hp xs
theorem aG1  {run : List SV → M SV} {Pm : List Value → Prop} {X : List Value → Hp → Value → Hp → Prop} (   x : ∀ es τ F hp xs, VDL P U τ F (af0 c es) xs → Pm xs → SD P U τ F (gst c es (g8 c.inL).length) hp → OKh P U (run (af0 c es)) τ F (gst c es (g8 c.inL).length) hp fun a τ' F' hp' => ∃ v, X xs hp v hp' ∧ VD P U τ' F' a v)
  (ab:(cvc P U c run).vc U fun _=>True):M4 P U c Pm X:=by
 intro es e u τ F hp xs hs hx Y;unfold RX;have hq:=at4 (U:=U) _ _ _ ab es e;have hq:=hq (by rw[J5 _ _ _ e];exact u)
 generalize L:s8 U (g8 c.inL) 0 es=ds at*;rw[m8]at hq;obtain⟨a,s1,hq,τ1,F1,hp1,D,hs1,v,j,aa⟩:=x _ τ F hp xs hx Y hs _ hq hs;unfold cfin at hq;simp only[i7]at hq;cases A:resL c.res a with
 |none=>rw[A]at hq;exact hq.elim
 |some l=>
 rw[A]at hq;simp only at hq;cases B:aB9 c.res l with
 |none=>rw[B]at hq;exact hq.elim
 |some E=>
 rw[B]at hq;simp only at hq;cases c3:c.find' a s1 with
 |none=>rw[c3]at hq;exact hq.elim
 |some nw=>
 rw[c3]at hq;simp only at hq;cases C:aB8 s1 c.post (j8 0 c.blks.length++nw)with
 |none=>rw[C]at hq;exact hq.elim
 |some G=>
 rw[C]at hq;simp only at hq;obtain⟨us,T,V⟩:=bv4 A aa;obtain⟨p,N,O,R⟩:=aI2 B T;obtain⟨q,J,K⟩:=aH8 hs1 C;rw[m8]at hq;obtain⟨vs,s2,hq,τ2,F2,hp2,n,k,rfl,ac⟩:=ax4 c.outL (E++G) (p++q) τ1 F1 s1 hp1 (N.append J) hs1 _ hq hs1;rw[m8]at hq;obtain⟨⟨m,d⟩,s3,hq,o3,r,W⟩:=aW0 (P:=P) (τ:=τ2) (F:=F2) (j8 0 c.blks.length++nw) c.outL vs s2 _ hq k.fc;simp only[i7]at hq;cases z:(j8 0 c.blks.length++nw).all (aN9 s3)&&af9 (nw++d)&&nw.all (Nat.ble (c.blks.length+C2 c.inL))&&d.all (Nat.ble c.blks.length)&&Nat.beq d.length (C2 c.outL)&&Nat.beq (nw.length+c.blks.length) c.post.length with
 |false=>rw[z]at hq;exact hq.elim
 |true=>
 rw[z]at hq;simp only[bA2,bD1,bF4,bE1]at z;obtain⟨⟨⟨⟨⟨k1,k2⟩,k3⟩,k4⟩,k5⟩,k6⟩:=z;have g:c.rel (i6 U (g8 c.inL) ds) (i6 U (g8 c.outL) m):=hq.1;have hd:i6 U (g8 c.inL) ds=i6 U (g8 c.inL) es:=by rw[<-L];exact J5 _ _ _ e
 rw[hd]at g;have Z:=k.only o3 r;exact⟨v,τ2,F2,s3,hp2,vs,p,q,m,nw,d,j,D.trans (n.trans (Ext.only k o3)),Z,ac,O,fun y F3 gl rest hg=>V y F3 _ (R y F3 gl rest hg),K.mono n.t,W s3 o3.h,
  fun b hb=>aE4 (k1 b hb),k2,k3,k4,k5,k6,g⟩
theorem aG0 {run:List SV->M SV}{g:FuncId}(h:z9 P U ov run g)(j:(cvc P U c run).vc U fun _=>True):d6 P U ov c g:=
 fun es d e τ F hp xs hs hx=>aG1 (Pm:=fun _=>True) (fun es τ F hp xs hl _ hs=>h _ xs τ F _ hp hl hs) j es d e τ F hp xs hs hx trivial
end
end Go.Sx
end PartSm34
noncomputable section PartSm35
namespace Go.Sx
open Go.Xe
section
variable {P :Program}{U:Nat->List Dat->Dat}{ov:FuncId->Option TypeId}
variable {c:Con}{bl:List Nat}
theorem au1 {n i b:Nat}(hi:i<c.blks.length)(h:bl[i]? =some b):M7 c bl n i=b:=by
 unfold M7;rw[bA8 hi,bB8,List.getD,h];rfl
theorem au0 {n k:Nat}:M7 c bl n (c.blks.length+k)=n+k:=by
 unfold M7;have:Nat.ble (c.blks.length+k+1) c.blks.length=false:=by
  cases h:Nat.ble (c.blks.length+k+1) c.blks.length with
  |false=>rfl
  |true=>simp_all;omega
 grind
theorem by2  {τ1 : Tau} {F1 : Nat → Option Blk} {s1 : SS} {hp1 : Hp} {kill:List Nat} {  J : List E} {fv : Nat} {τ' : Tau} {F' : Nat → Option Blk} {s' : SS} {hp' : Hp} {vs : List SV} {  V   W : List Value} {es ds : List E} {nw    d : List Nat}
  (hs1:SD P U τ1 F1 s1 hp1) (bp:bl.length=c.blks.length) (bt:kill.length=C2 c.inL) (au:∀b∈bl++kill,∃x,s1.get b=some x) (_:af9 (bl++kill)=true)
  (bh:∀b x,(gst c J fv).get b=some x-> ∃b' x',(bl++kill)[b]? =some b'/\s1.get b'=some x')
  (ex:Ext (az8 τ1 (bl++kill)) F1 (gst c J fv) hp1 τ' F' s' hp') (hs:SD P U τ' F' s' hp') (hv:VDL P U τ' F' vs (V++W)) (bq:V.length=(L6 c.res).length) (hb:BX τ' hp' c.post (j8 0 c.blks.length++nw) W)
  (hm:Y5 P U (j8 0 c.blks.length++nw) τ' F' s' c.outL vs es d) (hl:∀b∈j8 0 c.blks.length++nw,∃x,s'.get b=some x) (hd:af9 (nw++d)=true) (ce:∀b∈nw,c.blks.length+C2 c.inL<=b)
  (cb:∀b∈d,c.blks.length<=b) (bv:d.length=C2 c.outL) (cd:nw.length+c.blks.length=c.post.length) (bg:T7 U (g8 c.outL) es ds):
  SD P U (H9 τ1 τ' s1.nx (nw++d)) F' (fst_ c ds s1 bl kill) hp'/\Ext τ1 F1 s1 hp1 (H9 τ1 τ' s1.nx (nw++d)) F' (fst_ c ds s1 bl kill) hp'/\VDL P U (H9 τ1 τ' s1.nx (nw++d)) F' (J1 c ds s1 bl) (V++W):=by
 have be:c.post.length-c.blks.length=nw.length:=by omega
 have ay:(gst c J fv).nx=(bl++kill).length:=by show c.blks.length+C2 c.inL=_;rw[bC8,bp,bt]
 have ap:∀b x,s1.get b=some x->b<s1.nx:=fun b x h=>hs1.bound h
 have aw:∀b p,τ1 b=some p->b<s1.nx:=fun b p hb=>Nat.lt_of_not_le fun aa=>by rw[hs1.new b aa]at hb;cases hb
 have lo:∀b,b<s1.nx->H9 τ1 τ' s1.nx (nw++d) b=τ1 b:=fun b hb=>ad3 hb
 have bm:∀k b,(bl++kill)[k]? =some b->b<s1.nx/\τ' k=τ1 b:=by
  intro k b h;obtain⟨x,hx⟩:=au b (bB1 h);exact⟨ap b x hx,by rw[ex.st k (by rw[ay];exact(bA4.1 h).1),I1 h]⟩
 have al:∀i b,(j8 0 c.blks.length++nw)[i]? =some b->H9 τ1 τ' s1.nx (nw++d) (M7 c bl s1.nx i)=τ' b:=by
  intro i b h
  by_cases hi:i<c.blks.length
  ·rw[bB0 (by rw[p8];exact hi),aa6,bC3 hi,bD3]at h
   cases h;have Z:bl[i]? =some (bl[i]'(by omega)):=bB3 (by omega)
   have bw:(bl++kill)[i]? =some (bl[i]'(by omega)):=by grind
   obtain⟨k1,k2⟩:=bm i _ bw;rw[au1 hi Z,lo _ k1,k2]
  ·rw[bA9 (by rw[p8];omega),p8]at h
   obtain⟨k,rfl⟩:∃k,i=c.blks.length+k:=⟨i-c.blks.length,by omega⟩
   rw[bH3]at h;rw[au0];exact ak9 (by rw[bB0 (bA4.1 h).1];exact h)
 have az:∀k b,d[k]? =some b->H9 τ1 τ' s1.nx (nw++d) (s1.nx+(c.post.length-c.blks.length)+k)=τ' b:=by
  intro k b h;rw[be,bG0];exact ak9 (by rw[bA9 (by omega),bH3];exact h)
 have R:VDL P U (H9 τ1 τ' s1.nx (nw++d)) F' (J1 c ds s1 bl) (V++W):=hm.vals bg al az hv;obtain⟨_,v2⟩:=R.split;rw[bq]at v2;have bb:=hm.blks (nb:=s1.nx+(c.post.length-c.blks.length)) bg;have O:Tle τ1 (H9 τ1 τ' s1.nx (nw++d)):=fun b p hb=>by rw[lo b (aw b p hb)];exact hb
 have B:∀k b,(j8 0 c.blks.length++(nw++d))[k]? =some b->H9 τ1 τ' s1.nx (nw++d) (M7 c bl s1.nx k)=τ' b:=by
  intro k b h
  by_cases hi:k<c.blks.length
  ·refine al k b ?_
   rw[bB0 (by rw[p8];exact hi)]at h⊢
   exact h
  ·rw[bA9 (by rw[p8];omega),p8]at h
   obtain⟨j,rfl⟩:∃j,k=c.blks.length+j:=⟨k-c.blks.length,by omega⟩
   rw[bH3]at h;rw[au0];exact ak9 h
 have ax:∀(k k':Nat) b,(j8 0 c.blks.length++(nw++d))[k]? =some b->(j8 0 c.blks.length++(nw++d))[k']? =some b->k=k':=by
  have hge:∀b∈nw++d,c.blks.length<=b:=fun b hb=>by
   grind
  intro k k' b h h'
  by_cases hk:k<c.blks.length
  ·rw[bB0 (by rw[p8];exact hk),aa6,bC3 hk,bD3]at h
   cases h
   by_cases M:k'<c.blks.length
   ·rw[bB0 (by rw[p8];exact M),aa6,bC3 M,bD3]at h'
    grind
   ·rw[bA9 (by rw[p8];omega)]at h'
    have:=hge k (bB1 h');omega
  ·rw[bA9 (by rw[p8];omega)]at h
   by_cases M:k'<c.blks.length
   ·rw[bB0 (by rw[p8];exact M),aa6,bC3 M,bD3]at h'
    cases h';have:=hge k' (bB1 h);omega
   ·rw[bA9 (by rw[p8];omega)]at h'
    have:=Z7 hd _ _ b h h';rw[p8]at this;omega
 have   K : ∀ b x, (fst_ c ds s1 bl kill).get b = some x →
   (∃k b',b=M7 c bl s1.nx k/\(j8 0 c.blks.length++(nw++d))[k]? =some b'/\(∃x',s'.get b'=some x')/\
    ((∃i o Y,τ' b'=some (some (i,o))/\hp'.m.get i=some Y/\F' i=none/\BD P U (H9 τ1 τ' s1.nx (nw++d)) F' o x Y)\/(τ' b'=some none/\B6 P U x)))\/
   (b<s1.nx/\b∉bl/\b∉kill/\s1.get b=some x):=by
  intro b x D;have g:(match lk (Q9 (M7 c bl s1.nx) 0 c.post ((J1 c ds s1 bl).drop (L6 c.res).length)++(O3 c.outL ds (s1.nx+(c.post.length-c.blks.length))++(L5 (kill++(bl++ [s1.nx]))++s1.h))) b with|some x=>x|none=>none)=some x:=D
  rw[D6,D6,D6]at g;cases c1:lk (Q9 (M7 c bl s1.nx) 0 c.post ((J1 c ds s1 bl).drop (L6 c.res).length)) b with
  |some y=>
   rw[c1]at g;simp only at g;subst g;rw[<-bI5 ((J1 c ds s1 bl).drop (L6 c.res).length)]at c1;obtain⟨j,bj,X,i,o,Y,T,C,e3,_,e5,e6,e7⟩:=aI7 hb v2 c1;cases e3
   left
   obtain⟨x',ah⟩:=hl bj (bB1 C);have hF:F' i=none:=by
    rcases hs.live bj x' ah with⟨i',o',y',k1,_,k3,_⟩| ⟨k1,_⟩
    ·grind
    ·grind
   refine⟨j,bj,by rw[T,bD3],?_,⟨x',ah⟩,.inl ⟨i,o,Y,e5,e6,hF,e7⟩⟩
   rw[<-bB5,bB0 (bA4.1 C).1];exact C
  |none=>
   rw[c1]at g;simp only at g;cases c2:lk (O3 c.outL ds (s1.nx+(c.post.length-c.blks.length))) b with
   |some y=>
    rw[c2]at g;simp only at g;subst g;obtain⟨k,b',X,x',T,C,e3,e4,e5,e6⟩:=bb b _ c2;cases e3
    left
    refine⟨c.blks.length+(nw.length+k),b',by rw[au0,T,be,bG0],?_,⟨x',e4⟩,?_⟩
    ·rw[bA9 (by rw[p8];omega),p8,bH3,bA9 (by omega),bH3];exact C
    ·rcases hs.live b' x' e4 with⟨i,o,y,k1,k2,k3,k4⟩| ⟨k1,k2⟩
     ·exact .inl ⟨i,o,y,k1,k2,k3,e5 _ o y k4⟩
     ·exact .inr ⟨k1,e6 k2⟩
   |none=>
    rw[c2,H4]at g;simp only at g
    by_cases hk:b∈kill++(bl++ [s1.nx])
    ·rw[bC3 hk]at g;cases g
    ·rw[bC1 hk]at g
     have t:s1.get b=some x:=g;refine .inr ⟨ap b x t,fun L=>?_,fun h=>hk (bJ0 _ h),t⟩
     obtain⟨i,hi⟩:=bF5.1 L;have hlt:i<c.blks.length:=by have:=(bA4.1 hi).1;omega
     have:=ax0 (num:=M7 c bl s1.nx) (r:=c.post) (fl:=(J1 c ds s1 bl).drop (L6 c.res).length) (i0:=0) (j:=i) (by omega)
     rw[bD3,au1 hlt hi]at this;exact absurd this (aI5 c1)
 obtain⟨lg,a1,a2,a3,a4,_⟩:=ex.hh;have A:∀b0 x i o,(gst c J fv).get b0=some x->az8 τ1 (bl++kill) b0=some (some (i,o))-> ∃b' x',b'∈bl++kill/\s1.get b'=some x'/\τ1 b'=some (some (i,o)):=by
  intro b0 x i o h0 ht;obtain⟨b',x',k1,k2⟩:=bh b0 x h0;rw[I1 k1]at ht;exact⟨b',x',bB1 k1,k2,ht⟩
 have bk:∀b i o,b<(gst c J fv).nx->τ' b=some (some (i,o))-> ∃b' x',b'∈bl++kill/\s1.get b'=some x'/\τ1 b'=some (some (i,o)):=by
  intro b i o hb ht;rw[ay]at hb;have hg:=bB3 hb;obtain⟨_,k2⟩:=bm b _ hg;obtain⟨x,hx⟩:=au _ (bB1 hg);rw[k2]at ht;exact⟨_,x,bB1 hg,hx,ht⟩
 have ai:∀b i o,τ' b=some (some (i,o))->hp1.nx<=i\/ ∃b' x' o',b'∈bl++kill/\s1.get b'=some x'/\τ1 b'=some (some (i,o')):=by
  intro b i o ht
  by_cases hb:b<(gst c J fv).nx
  ·obtain⟨b',x',h1,h2,h3⟩:=bk b i o hb ht
   exact .inr ⟨b',x',o,h1,h2,h3⟩
  ·rcases a3 b i o (bH7 hb) ht with h| ⟨b0,x,o0,h1,h2,_⟩
   ·omega
   ·obtain⟨b',x',k1,k2,k3⟩:=A b0 x i o0 h1 h2
    exact .inr ⟨b',x',o0,k1,k2,k3⟩
 have apart:∀b x i o c' y o',s1.get b=some x->b∉bl->b∉kill->τ1 b=some (some (i,o))->c'∈bl++kill->s1.get c'=some y->τ1 c'=some (some (i,o'))->False:=by
  intro b x i o c' y o' h1 h2 h3 h4 h5 h6 h7;have ac:b≠c':=fun e=>by
   subst e
   rcases bD8.1 h5 with h|h
   ·exact h2 h
   ·exact h3 h
  exact hs1.inj b c' x y i o i o' h1 h6 ac h4 h7 rfl
 have av:∀b∈bl,b∈(Q9 (M7 c bl s1.nx) 0 c.post ((J1 c ds s1 bl).drop (L6 c.res).length)).map Prod.fst:=by
  intro b L;obtain⟨i,hi⟩:=bF5.1 L;have hlt:i<c.blks.length:=by have:=(bA4.1 hi).1;omega
  have:=ax0 (num:=M7 c bl s1.nx) (r:=c.post) (fl:=(J1 c ds s1 bl).drop (L6 c.res).length) (i0:=0) (j:=i) (by omega)
  rw[bD3,au1 hlt hi]at this;exact this
 have keys:∀b∈bl++kill,b∈(Q9 (M7 c bl s1.nx) 0 c.post ((J1 c ds s1 bl).drop (L6 c.res).length)++(O3 c.outL ds (s1.nx+(c.post.length-c.blks.length))++L5 (kill++(bl++ [s1.nx])))).map Prod.fst:=by
  intro b L;simp only[bE8,bD8]
  rcases bD8.1 L with h|h
  ·exact .inl (av b h)
  ·exact .inr (.inr (bI1.2 ⟨(b,none),M6 (by rw[H4,bC3 (bJ0 _ h)]),rfl⟩))
 have u:∀b x i o,s1.get b=some x->b∉bl->b∉kill->τ1 b=some (some (i,o))->hp'.m.get i=hp1.m.get i:=by
  intro b x i o h1 h2 h3 h4;refine a2 i (hs1.lt b i o h4) fun b0 x0 o0 k1 k2 _=>?_
  obtain⟨b',x',q1,q2,q3⟩:=A b0 x0 i o0 k1 k2;exact apart b x i o b' x' o0 h1 h2 h3 h4 q1 q2 q3
 refine⟨⟨fun b x D=>?_,fun b G x y i o j q D bc ac T C=>?_,hs.frz,fun b i o h=>?_,hs.flt,fun b aa=>?_,hs1.fc,fun r hr=>(hs1.fz r hr).mono O ex.f⟩,⟨O,ex.f,ex.nx,?_,fun b hb=>lo b hb,fun b x D hlt=>?_,⟨Q9 (M7 c bl s1.nx) 0 c.post ((J1 c ds s1 bl).drop (L6 c.res).length)++(O3 c.outL ds (s1.nx+(c.post.length-c.blks.length))++L5 (kill++(bl++ [s1.nx]))),?_,fun i hi ae=>?_,fun b i o ba ht=>?_,fun i y hi hy=>?_,fun hp=>absurd rfl (hp (s1.nx,none) (bI3 _ (bI3 _ (M6 (by rw[H4,bC3 (bI3 _ (by simp))])))))⟩,⟨[],rfl⟩,⟨Q9 (M7 c bl s1.nx) 0 c.post ((J1 c ds s1 bl).drop (L6 c.res).length)++(O3 c.outL ds (s1.nx+(c.post.length-c.blks.length))++L5 (kill++(bl++ [s1.nx]))),?_,fun b c' e z i o cs n ba bx cc hg bu=>⟨cs,?_,fun _ _=>rfl⟩⟩⟩,R⟩
 rotate_right 2
 ·show Q9 (M7 c bl s1.nx) 0 c.post ((J1 c ds s1 bl).drop (L6 c.res).length) ++ (O3 c.outL ds (s1.nx + (c.post.length - c.blks.length)) ++ (L5 (kill ++ (bl ++ [s1.nx])) ++ s1.h)) =
   (Q9 (M7 c bl s1.nx) 0 c.post ((J1 c ds s1 bl).drop (L6 c.res).length)++(O3 c.outL ds (s1.nx+(c.post.length-c.blks.length))++L5 (kill++(bl++ [s1.nx]))))++s1.h
  rw[bB5,bB5]
 ·have  ae : b ∉ kill ++ (bl ++ [s1.nx]) := fun q => by
   obtain⟨_,q',_⟩:=bu none (bI3 _ (bI3 _ (M6 (by rw[H4,bC3 q]))))
   cases q'
  rw[u b _ i o ba (fun q=>ae (bI3 _ (bJ0 _ q))) (fun q=>ae (bJ0 _ q)) bx]
  exact hg
 ·rcases K b x D with⟨k,b',rfl,C,_,h⟩| ⟨hlt,ab,ad,t⟩
  ·rcases h with⟨i,o,Y,h1,h2,h3,h4⟩| ⟨h1,h2⟩
   ·exact .inl ⟨i,o,Y,by rw[B k b' C];exact h1,h2,h3,h4⟩
   ·exact .inr ⟨by rw[B k b' C];exact h1,h2⟩
  ·rcases hs1.live b x t with⟨i,o,y,h1,h2,h3,h4⟩| ⟨h1,h2⟩
   ·refine .inl ⟨i,o,y,by rw[lo b hlt];exact h1,by rw[u b x i o t ab ad h1];exact h2,?_,h4.mono O ex.f⟩
    cases hF:F' i with
    |none=>rfl
    |some y'=>
     exfalso
     rcases a4 i y' (hs1.lt b i o h1) hF with h5| ⟨b0,o0,h5,_⟩
     ·rw[h3]at h5;cases h5
     ·rcases ai b0 i o0 h5 with h6| ⟨b',x',o',h6,h7,h8⟩
      ·have:=hs1.lt b i o h1;omega
      ·exact apart b x i o b' x' o' t ab ad h1 h6 h7 h8
   ·exact .inr ⟨by rw[lo b hlt];exact h1,h2⟩
 ·have mixed : ∀ {b  G x y i o j q} {k b' : Nat}, (j8 0 c.blks.length ++ (nw ++    d))[k]? = some b' → H9 τ1 τ' s1.nx (nw ++    d) (M7 c bl s1.nx k) = some (some (i, o)) → b = M7 c bl s1.nx k → s1.get  G = some y →  G < s1.nx →  G ∉ bl →  G ∉ kill →
    H9 τ1 τ' s1.nx (nw++d) G=some (some (j,q))->i≠j/\(x:n5)=x:=by
   intro b G x y i o j q k b' k1 k2 _ k3 k4 k5 k6 k7;refine⟨fun e=>?_,rfl⟩
   subst e;rw[B k b' k1]at k2;rw[lo G k4]at k7
   rcases ai b' i o k2 with h| ⟨bn,ca,bz,h1,h2,h3⟩
   ·have:=hs1.lt G i q k7;omega
   ·exact apart G y i q bn ca bz k3 k5 k6 k7 h1 h2 h3
  rcases K b x D with⟨k,b',rfl,k1,⟨x',ah⟩,_⟩| ⟨hlt,ab,ad,t⟩
  ·rcases K G y bc with⟨k',ao,rfl,k2,⟨y',bi⟩,_⟩| ⟨N,aj,ak,aq⟩
   ·rw[B k b' k1]at T
    rw[B k' ao k2]at C;refine hs.inj b' ao x' y' i o j q ah bi (fun e=>?_) T C
    subst e;exact ac (by rw[ax k k' b' k1 k2])
   ·exact(mixed (b:=M7 c bl s1.nx k) (x:=x) k1 T rfl aq N aj ak C).1
  ·rcases K G y bc with⟨k',ao,rfl,k2,⟨y',bi⟩,_⟩| ⟨N,aj,ak,aq⟩
   ·exact Ne.symm (mixed (b:=M7 c bl s1.nx k') (x:=x) k2 C rfl t hlt ab ad T).1
   ·rw[lo b hlt]at T
    rw[lo G N]at C;exact hs1.inj b G x y i o j q t aq ac T C
 ·by_cases hlt:b<s1.nx
  ·rw[lo b hlt]at h
   exact bF3 (hs1.lt b i o h) ex.nx
  ·unfold H9 at h
   rw[bC1 hlt]at h;split at h
   ·exact hs.lt _ i o h
   ·cases h
 ·have aa:s1.nx+(c.post.length-c.blks.length)+C2 c.outL<=b:=aa
  unfold H9;rw[bC1 (by omega),bJ9 (by rw[bC8,bv];omega)]
 ·show s1.nx<=s1.nx+(c.post.length-c.blks.length)+C2 c.outL
  omega
 ·rcases K b x D with⟨k,b',rfl,k1,_⟩| ⟨_,_,_,t⟩
  ·by_cases hk:k<c.blks.length
   ·have Z:bl[k]? =some (bl[k]'(by omega)):=bB3 (by omega)
    rw[au1 hk Z]at hlt⊢;exact au _ (bJ0 _ (bB1 Z))
   ·obtain⟨j,rfl⟩:∃j,k=c.blks.length+j:=⟨k-c.blks.length,by omega⟩
    rw[au0]at hlt;omega
  ·exact⟨x,t⟩
 ·show Q9 (M7 c bl s1.nx) 0 c.post ((J1 c ds s1 bl).drop (L6 c.res).length) ++ (O3 c.outL ds (s1.nx + (c.post.length - c.blks.length)) ++ (L5 (kill ++ (bl ++ [s1.nx])) ++ s1.h)) =
   (Q9 (M7 c bl s1.nx) 0 c.post ((J1 c ds s1 bl).drop (L6 c.res).length)++(O3 c.outL ds (s1.nx+(c.post.length-c.blks.length))++L5 (kill++(bl++ [s1.nx]))))++s1.h
  rw[bB5,bB5]
 ·refine a2 i hi fun b0 x0 o0 k1 k2 _=>?_
  obtain⟨b',x',q1,q2,q3⟩:=A b0 x0 i o0 k1 k2;exact ae b' x' o0 q2 q3 (keys b' q1)
 ·unfold H9 at ht
  rw[bC1 (by omega)]at ht
  split at ht
  ·rcases ai _ i o ht with h| ⟨b',x',o',h1,h2,h3⟩
   ·exact .inl h
   ·exact .inr ⟨b',x',o',h2,h3,keys b' h1⟩
  ·cases ht
 ·rcases a4 i y hi hy with h| ⟨b0,o0,h5,_⟩
  ·exact .inl h
  ·rcases ai b0 i o0 h5 with h6| ⟨b',x',o',h6,h7,h8⟩
   ·omega
   ·exact .inr ⟨b',o',by rw[lo b' (ap b' x' h7)];exact h8,keys b' h6⟩
theorem bu6 {g:FuncId}(hg:d6 P U ov c g):z9 P U ov (kcon P U c) g:=by
 intro l args τ F s hp hl hs Q hq _;unfold kcon at hq;simp only[i7]at hq;cases K:aB9 c.args l with
 |none=>rw[K]at hq;exact hq.elim
 |some M=>
 rw[K]at hq;simp only at hq;cases c2:c.find l s with
 |none=>rw[c2]at hq;exact hq.elim
 |some bl=>
 rw[c2]at hq;simp only at hq;cases L:aB8 s c.blks bl with
 |none=>rw[L]at hq;exact hq.elim
 |some N=>
 rw[L]at hq;simp only at hq;obtain⟨z,V,W,X⟩:=aI2 K hl;obtain⟨O,R,T⟩:=aH8 hs L;rw[m8]at hq;obtain⟨vs,s2,hq,τ2,G,hp2,y,r,rfl,aa⟩:=ax4 c.inL (M++N) (z++O) τ F s hp (V.append R) hs _ hq hs;rw[m8]at hq;obtain⟨⟨es,e⟩,u,hq,o3,C,Z⟩:=aW0 (P:=P) (τ:=τ2) (F:=G) bl c.inL vs s2 _ hq r.fc;simp only[i7]at hq;cases E:bl.all (aN9 u)&&af9 (bl++e)&&Nat.beq e.length (C2 c.inL)&&Nat.ble c.blks.length c.post.length with
 |false=>rw[E]at hq;exact hq.elim
 |true=>
 rw[E]at hq;simp only[bA2,bD1,bF4,bE1]at E;obtain⟨⟨⟨k1,k2⟩,k3⟩,k4⟩:=E;have D:=r.only o3 C;have hm:=Z u o3.h;have j:=hm.len;have m:c.pre (i6 U (g8 c.inL) es):=hq.1;have q:∀b∈bl,∃x,u.get b=some x:=fun b hb=>aE4 (k1 b hb)
 have B:=T.mono y.t;obtain⟨g1,g2,g3⟩:=by3 (fv:=(g8 c.inL).length) D aa W B hm k2 q k3 (q9 (g8 c.inL) 0 es j);have p:VDL P U (az8 τ2 (bl++e)) G (af0 c (s8 U (g8 c.inL) 0 es)) args:=by
  obtain⟨w1,_⟩:=g2.split;have:=X _ _ _ ((aq2 c (s8 U (g8 c.inL) 0 es)).drop z.length) w1;rw[bI8]at this;exact this
 obtain⟨v,τ',F',s',hp',ak,A,aj,n,nw,J,r1,r2,r3,r4,r5,r6,r7,r8,r9,ab,ac,ad,ae,ah,ai⟩:=hg es j m _ G hp2 args g1 p;have d:=r8.len;have hQ:=at4 (U:=U) _ _ _ (hq.2 m) n d (by rw[J5 _ _ _ d];exact ai)
 have Y:∀b∈bl++e,∃x,u.get b=some x:=fun b hb=>by
  rcases bD8.1 hb with h|h
  ·grind
  ·obtain⟨k,hk⟩:=bF5.1 h
   exact hm.live hk
 obtain⟨f1,f2,f3⟩:=by2 (U:=U) D B.len.1 k3 Y k2 g3 r2 r3 r4 r5 r7 r8 r9 ab ac ad ae ah (q9 (g8 c.outL) u.fv n d);refine⟨_,_,hQ,_,F',hp',(y.trans (Ext.only r o3)).trans f2,f1,v,r1,?_⟩;obtain⟨w1,_⟩:=f3.split;have:=r6 _ _ _ ((J1 c (s8 U (g8 c.outL) u.fv n) u bl).drop A.length) w1
 simp_all
end
def ae9 (P:Program)(U:Nat->List Dat->Dat):List (FuncId×Con)->FuncId->Option (List SV->M SV)
 | [],_=>none
 |p::l,g=>bif Nat.beq p.1 g then some (kcon P U p.2)else ae9 P U l g
section
variable {P :Program}{U:Nat->List Dat->Dat}{ov:FuncId->Option TypeId}
variable (P U ov) in
def P2 :List (FuncId×Con)->Prop
 | []=>True
 |p::l=>d6 P U ov p.2 p.1/\P2 l
theorem aM9 :∀ {l:List (FuncId×Con)},P2 P U ov l-> ∀g k,ae9 P U l g=some k->z9 P U ov k g
 | [],_,g,k,h=>by cases h
 |p::l,d,g,k,h=>by
  unfold ae9 at h;cases hb:Nat.beq p.1 g with
  |true=>
   rw[hb,bB8,bA1]at h;rw[<-h,<-bA6 hb];exact bu6 d.1
  |false=>rw[hb,bB9]at h;exact aM9 d.2 g k h
theorem noT {C:FuncId->Prop}:∀g,isT (noOv g)=true->C g:=fun _ h=>Bool.noConfusion (show false=true from h)
theorem bg9 {a:FuncId}{t:TypeId}{rest:FuncId->Option TypeId}(h:isT (some t)=false)(hr:∀g,isT (rest g)=false):∀g,isT (aC0 a t rest g)=false:=by
 intro g;unfold aC0
 grind
theorem H2 {L : FuncId} {rest : FuncId → Option TypeId} {con : FuncId → Option (List SV → M SV)} (h : (con L).isSome = true)
  (hr:∀g,isT (rest g)=false:=by first|exact fun _=>rfl|exact bg9 rfl (fun _=>rfl)|exact bg9 rfl (bg9 rfl (fun _=>rfl))|exact bg9 rfl (bg9 rfl (bg9 rfl (fun _=>rfl)))):∀g,isT (aC0 L af4 rest g)=true->con g≠none:=by
 intro g d e;unfold aC0 at d;cases hb:Nat.beq g L with
 |true=>simp_all
 |false=>grind
end
end Go.Sx
end PartSm35
noncomputable section PartSm36
namespace Go.Sx
open Go.Xe Go.RowKit
section
variable {P :Program}{U:Nat->List Dat->Dat}{ov:FuncId->Option TypeId}
theorem bf5 (hm : P.follows .mixedOrders = true) (  R : ∀ g t, ov g = some t → Z2 P g t) {c : Con} {f : FuncId} (hg : d6 P U ov c f) (h1 : c.blks = []) (h2 : c.res = [.one (.g .bool)]) (h3 : c.post = []) (   L : ∀ d e, c.rel d e → e = [.bool true])
  (ha:C2 c.inL=0) (hA:∀nb ds,O3 c.inL ds nb=[]) {es:List E} (B:es.length=(g8 c.inL).length) (K:c.pre (i6 U (g8 c.inL) es)) {xs ys:List Value} {w:World}
  (hl:VDL P U (fun _=>none) (roF w) (af0 c (s8 U (g8 c.inL) 0 es)) xs) (hx:VRL (ak1 w) xs ys):
  Calls P f ys.toArray w fun e w'=>e= .returned (.bool true)/\Below w.heap.size w w':=by
 have A:gst c (s8 U (g8 c.inL) 0 es) (g8 c.inL).length=⟨[],0,[],(g8 c.inL).length,[]⟩:=by
  unfold gst;rw[hA,h1,ha];rfl
 have hs:SD P U (fun _=>none) (roF w) (gst c (s8 U (g8 c.inL) 0 es) (g8 c.inL).length) (aQ3 w):=by
  rw[A];exact⟨fun b x hb=>(by cases hb),fun b c x y i o j q hb=>(by cases hb),fun i b h=>(bp3 w i b h).1,fun b i o h=>(by cases h),fun i b h=>(bp3 w i b h).2,fun b _=>rfl,fun c t h=>(by simp at h),fun r h=>(by simp at h)⟩
 obtain⟨v,τ',F',s',hp',vs,ad,N,m,nw,aa,⟨n0,hr⟩,_,_,r4,r5,r6,r7,M,_,_,_,_,_,_,X⟩:=hg es B K _ _ _ xs hs hl;have p:=L _ _ X;have J:c.outL=[.g .bool]:=by unfold Con.outL;rw[h2,h3];rfl
 have z:N=[]:=by
  have:=r7.len.2;rw[h3]at this;exact bA7 this
 subst z;rw[bI5]at r4;rw[J]at M p;have ah:=q9 (U:=U) (g8 [.g .bool]) 0 m M.len;have hd:∃e,m=[e]/\(e.den U).toBool=true:=by
  have:=M.len;cases m with
  |nil=>simp[g8,Lf.so,G.so,G7]at this
  |cons e k=>
   have D:k=[]:=by
    have:k.length=0:=by simpa [g8,Lf.so,G.so,G7]using this
    exact bA7 this
   subst D;refine⟨e,rfl,?_⟩;have h: [Dat.bool (e.den U).toBool]=[Dat.bool true]:=p
   simpa using h
 obtain⟨e,rfl,he⟩:=hd;have T:VD P U τ' F' (.bool e) v:=by
  cases vs with
  |nil=>exact M.elim
  |cons a Y=>
   obtain⟨r,k,ac,e1,e2,n,C⟩:=M;cases Y with
   |cons b ab=>exact C.elim
   |nil=>
    obtain⟨rfl,rfl⟩:=C;obtain⟨y,Z,rfl,hy,W⟩:=r4.uncons;have hz:Z=[]:=bA7 W.1.symm;subst hz;obtain⟨e0,ae⟩:=n.1 .b rfl;have h5:=n.2.2.2.1 y hy τ' (fun i=>(j8 0 c.blks.length++nw).getD i 0) 0 e (fun i b hb=>by rw[List.getD,hb];rfl) (fun e2 so O ai=>by
     rw[O]at e1;have:e=e2:=by simpa [G7]using e1
     subst this;cases so<;>rfl) (fun b hb=>by
      have:=n.2.2.1 rfl;rw[this]at hb;cases hb)
    have h6:=r6 τ' F' [.bool e] [] (.cons h5 .nil);rw[h2]at h6;exact h6
 cases T;rw[he]at hr;refine((aI0 hm R n0).run f xs (aQ3 w) _ hp' (hr n0 (bC4 _)) (BS.ro w) w (ak1 w) w ys hx (HR.ro w)).mono fun e w' he=>?_
 obtain⟨σ',u,rfl,_,hv,V⟩:=he;cases hv;exact⟨rfl,HR.roBelow V⟩
end
end Go.Sx
end PartSm36
noncomputable section PartSm37
namespace Go.Sx
open Go.Xe
structure Jn where
 name:String
 gh:List SV->SS->List (So×E)
 one:Bool
 res:List (Option IntKind)
 rel:List Dat->List Dat->Prop
section
variable {P :Program}{U:Nat->List Dat->Dat}{ov:FuncId->Option TypeId}
end
section
variable {P :Program}{U:Nat->List Dat->Dat}
def yesM :List SV->M SV:=fun l=>match l with
 | []=>b9 (.bool (.bool true))
 |_=>a6 "an argument"
def ba2 (_ e:List Dat):Prop:=e=[.bool true]
def J4 (n:String):Con:=⟨n,[],[],fun _ _=>some [],fun d=>d=[],[.one (.g .bool)],[],fun _ _=>some [],ba2⟩
theorem bj9 {ov:FuncId->Option TypeId}{L:FuncId}(h:isT (ov L)=true)(n:String):d6 P U ov (J4 n) L:=by
 refine aG0 (run:=yesM) (fun l args τ F s hp hl hs=>?_) fun _=>⟨rfl,fun _=>trivial⟩
 cases l with
 |cons a l=>exact OKh.fail
 |nil=>
  obtain rfl:args=[]:=bA7 hl.1.symm;refine OKh.ret ⟨Value.bool true,⟨1,fun m hm=>?_⟩,VD.bool (.bool true)⟩
  obtain⟨m,rfl⟩:∃k,m=k+1:=⟨m-1,by omega⟩
  show(bif isT (ov L)&&([]:List Value).isEmpty then some (Value.bool true,hp)else _)=some (Value.bool true,hp)
  rw[h];rfl
end
end Go.Sx
end PartSm37
namespace Go.Sx
open Go.Xe
def shrI (k:IntKind)(a b:Int):Int:=a.fdiv (2^(min b.toNat k.bits))
abbrev cI (L:Rows)(i:Int)(j:Nat):Int:=(u5 L i j).toInt
abbrev cS (L:Rows)(i:Int)(j:Nat):List UInt8:=(u5 L i j).toStr
abbrev cB (L:Rows)(i:Int)(j:Nat):Bool:=(u5 L i j).toBool
abbrev cL (L:Rows)(i:Int)(j:Nat):Rows:=(u5 L i j).rows
abbrev ln {α:Type}(l:List α):Int:=(l.length:Int)
abbrev Nr (x:Int)(q:Prop):Prop:=Nd (x=x) q
abbrev Ni (x:Int)(q:Prop):Prop:=Nd (¬x<x) q
def byteAt (s:List UInt8)(i:Int):Int:=((s.getD i.toNat 0).toNat:Int)
theorem B9 {p q:Prop}:(p/\(p->p/\(p->q)))↔(p/\(p->q)):=⟨fun h=>⟨h.1,fun x=>(h.2 x).2 x⟩,fun h=>⟨h.1,fun x=>⟨x,h.2⟩⟩⟩
theorem B8 {p q:Prop}:(p->p/\(p->q))↔(p->q):=⟨fun h x=>(h x).2 x,fun h x=>⟨x,h⟩⟩
theorem n7 (n:Int):(Dat.int n).toInt=n:=rfl
theorem i5 (s:List UInt8):(Dat.str s).toStr=s:=rfl
theorem C9 (l:Rows):(Dat.lst l).rows=l:=rfl
section
variable {α :Type}{f:α->List Dat}
theorem G0 {T:List α}{i:Int}{s:α}(h:T[i.toNat]? =some s)(j:Nat):u5 (T.map f) i j=(f s).getD j (.int 0):=by
 unfold u5;rw[show(T.map f).getD i.toNat []=f s by rw[bD2,bF1,h];rfl]
theorem get_at {T:List α}{i:Int}(h0:0<=i)(h1:i<(T.length:Int)):∃o,T[i.toNat]? =some o:=⟨_,bB3 (by omega)⟩
theorem map_inj_of {d:Type}{f:α->d}(hf:∀a b,f a=f b->a=b):∀ {l m:List α},l.map f=m.map f->l=m
 | [],[],_=>rfl
 | [],b::m,h=>by simp at h
 |a::l,[],h=>by simp at h
 |a::l,b::m,h=>by
  simp only[bF2,bG9]at h;rw[hf a b h.1,map_inj_of hf h.2]
theorem aQ4 {rows:Rows}(f:α->List Dat)(R:α->Prop)(h:∀r∈rows,∃a,R a/\r=f a):∃L:List α,(∀a∈L,R a)/\rows=L.map f:=by
 induction rows with
 |nil=>exact⟨[],fun a h=>(by simp at h),rfl⟩
 |cons r rows j=>
  obtain⟨a,g,e⟩:=h r (by simp)
  obtain⟨L,d,e'⟩:=j fun r hr=>h r (by simp[hr])
  exact⟨a::L,fun b hb=>by rcases bD9.1 hb with rfl|hb;exact g;exact d b hb,by rw[e,e'];rfl⟩
end
theorem W2 {α:Type}{l:List α}{k:Nat}{a:α}(h:l[k]? =some a):l.take (k+1)=l.take k++ [a]:=by
 rw[List.take_add_one,h];rfl
theorem drop_at {α:Type}{l:List α}{k:Nat}{a:α}(h:l[k]? =some a):l.drop k=a::l.drop (k+1):=by
 have hk:=(bA4.1 h).1;rw[List.drop_eq_getElem_cons hk,(bA4.1 h).2]
theorem v8 {k:Int}(h:0<=k):(k+1).toNat=k.toNat+1:=by omega
theorem at7 {k:List KV}{n:Nat}(h:k.length=n)(v:Dat):aa0 n (k.map KV.dat++ [v])=k:=by
 unfold aa0;rw[List.take_left' (by rw[bC0];exact h),aU9]
theorem bd8 {k:List KV}{n:Nat}(h:k.length=n)(v:Dat):(k.map KV.dat++ [v]).getD n (.int 0)=v:=by
 rw[bD2,bA9 (by rw[bC0];omega),bC0,show n-k.length=0 by omega];rfl
theorem an2 (k x:List KV)(h:k.length=x.length)(v d:Dat):∀M:Rows,mgetR (mputR M k v) x d=if x=k then v else mgetR M x d
 | []=>by
  unfold mputR mgetR;rw[at7 h,bd8 h]
  by_cases e:x=k
  ·subst e;rw[bC3 rfl,bC3 rfl]
  ·rw[bC1 e,bC1 (show¬k=x from fun c=>e c.symm)];rfl
 |r::M=>by
  unfold mputR
  by_cases hr:aa0 k.length r=k
  ·rw[bC3 hr]
   unfold mgetR;rw[at7 h,bd8 h,<-h,hr]
   by_cases e:x=k
   ·subst e;rw[bC3 rfl,bC3 rfl]
   ·rw[bC1 e,bC1 (show¬k=x from fun c=>e c.symm),bC1 (show¬k=x from fun c=>e c.symm)]
  ·rw[bC1 hr]
   unfold mgetR
   by_cases e:aa0 x.length r=x
   ·rw[bC3 e,bC3 e,bC1 (fun c=>hr (by rw[h,e,c]))]
   ·rw[bC1 e,bC1 e];exact an2 k x h v d M
theorem aE7 (k x:List KV)(h:k.length=x.length)(v:Dat):∀M:Rows,mhasR (mputR M k v) x=(decide (x=k)||mhasR M x)
 | []=>by
  unfold mputR mhasR;rw[at7 h]
  by_cases e:x=k
  ·subst e;simp
  ·simp[e,show¬k=x from fun c=>e c.symm,mhasR]
 |r::M=>by
  unfold mputR
  by_cases hr:aa0 k.length r=k
  ·rw[bC3 hr]
   unfold mhasR;rw[at7 h,<-h,hr]
   by_cases e:x=k
   ·subst e;simp
   ·simp[e,show¬k=x from fun c=>e c.symm]
  ·rw[bC1 hr]
   unfold mhasR;rw[aE7 k x h v M]
   by_cases e:aa0 x.length r=x<;>simp[e]
end Go.Sx
set_option linter.unusedVariables false
noncomputable section PartSm39
namespace Go.Sx
open Go.Xe
def numK :Kd->Bool
 | .int _=>true
 | .bool=>true
 | .str=>true
 |_=>false
theorem PV.num {P:Program}{F F':Nat->Option Blk}{k:Kd}{v:Value}{d:Dat}(hk:numK k=true)(p:PV P F k v d):PV P F' k v d:=by
 cases p with
 |int k n=>exact .int k n
 |bool b=>exact .bool b
 |str s=>exact .str s
 |nils e=>cases hk
 |vague e=>cases hk
 |_=>cases hk
section
variable {P :Program}{U:Nat->List Dat->Dat}{ov:FuncId->Option TypeId}
def ag5 :SV->Bool
 | .int _ _=>true
 | .bool _=>true
 | .str _=>true
 |_=>false
def bc9 (a:SV):Bool:=match a with
 | .tup l=>l.all ag5
 |a=>ag5 a
variable {F F':Nat->Option Blk}{v:Value}
theorem bc7 {τ τ':Tau}{a:SV}(h:ag5 a=true)(d:VD P U τ F a v):VD P U τ' F' a v:=by
 cases d with
 |int k e=>exact .int k e
 |bool e=>exact .bool e
 |str e=>exact .str e
 |_=>cases h
theorem bp6 {τ τ':Tau}{a:SV}(h:bc9 a=true)(e:VD P U τ F a v):VD P U τ' F' a v:=by
 unfold bc9 at h;split at h
 ·cases e with
  |tup _ xs h1 h2=>
   rw[bD1]at h;exact .tup _ xs h1 fun i a x d hx=>bc7 (h a (bB1 d)) (h2 i a x d hx)
 ·exact bc7 h e
def bx5 (P:Program)(s:SS)(a:SV)(s1:SS):Tr (SV×SS):=match a,s1.h with
 | .sl b z o n c,(k,some (.rows L e z' ph))::(k2,none)::h=>
  bif Nat.beq h.length s.h.length&&Nat.beq k2 k&&Nat.ble s.nx k&&(kf P e).all numK then .ret (.sl b z o n c,⟨(k,some (.rows L e z' ph))::s.h,s1.nx,s1.fc,s1.fv,s.fz⟩)else .ret (.sl b z o n c,s1)
 |a,(k2,none)::h=>bif bc9 a&&Nat.beq h.length s.h.length&&Nat.ble s.nx k2 then .ret (a,⟨s.h,s1.nx,s1.fc,s1.fv,s.fz⟩)else .ret (a,s1)
 |a,_=>.ret (a,s1)
def bo6 (P:Program)(run:List SV->M SV):List SV->M SV:=fun l s=>(run l s).bind fun r=>bx5 P s r.1 r.2
theorem bo7 {run:List SV->M SV}{g:FuncId}(hr:z9 P U ov run g):z9 P U ov (bo6 P run) g:=by
 intro l args τ F s hp hl hs Q hq _;unfold bo6 at hq;rw[Tr.vc_bind]at hq;obtain⟨a,s1,h1,τ1,F1,hp1,ex,hs1,v,hx,G⟩:=hr l args τ F s hp hl hs _ hq hs;simp only at h1;unfold bx5 at h1;split at h1
 ·rename_i b z o n c k L e B ph k2 h hh
  cases hc:Nat.beq h.length s.h.length&&Nat.beq k2 k&&Nat.ble s.nx k&&(kf P e).all numK with
  |false=>rw[hc]at h1;exact⟨_,_,h1,τ1,F1,hp1,ex,hs1,v,hx,G⟩
  |true=>
   rw[hc]at h1;simp only[bA2,bE1,bF4,bD1]at hc;obtain⟨⟨⟨J,c2⟩,V⟩,W⟩:=hc;subst k2;obtain⟨R,a1,a2,a3,a4,a5⟩:=ex.hh;rw[hh]at a1;have u: [(k,some (n5.rows L e B ph)),(k,none)]++h=R++s.h:=a1;obtain⟨C,D⟩:=List.append_inj' u J;subst C;subst D;have get:∀b,(⟨(k,some (.rows L e B ph))::s.h,s1.nx,s1.fc,s1.fv,s.fz⟩:SS).get b=s1.get b:=fun b=>by
    unfold SS.get;rw[hh,j4,j4,j4]
    by_cases hb:k=b
    ·rw[bC3 hb,bC3 hb]
    ·rw[bC1 hb,bC1 hb,bC1 hb]
   have old:∀b x,s1.get b=some x->k≠b->s.get b=some x:=fun b x hb A=>by
    rw[<-get]at hb;unfold SS.get at hb⊢;rw[j4,bC1 A]at hb;exact hb
   have new:∀b x,s.get b=some x->b∈ [(k,some (n5.rows L e B ph)),(k,none)].map Prod.fst->False:=fun b x hb hm=>by
    have:=hs.bound hb;simp only[bF2,List.map_nil,bD9,List.not_mem_nil,or_false,or_self]at hm;omega
   refine⟨_,_,h1,τ1,F,hp1,⟨ex.t,Fle.refl F,ex.nx,ex.snx,ex.st,fun b x hb hlt=>ex.low b x (by rw[<-get];exact hb) hlt,⟨[(k,some (.rows L e B ph))],rfl,fun i hi O=>a2 i hi fun b x o p1 p2 m=>new b x p1 m,fun b i o hb ht=>?_,fun i y hi hy=>.inl hy,fun _ i y hy=>hy⟩,ex.hf,?_⟩,
    ⟨fun b x hb=>?_,fun b c x y i o j q hb hc=>hs1.inj b c x y i o j q (by rw[<-get];exact hb) (by rw[<-get];exact hc),fun i b hF=>hs1.frz i b (ex.f i b hF),hs1.lt,fun i b hF=>hs1.flt i b (ex.f i b hF),hs1.new,hs1.fc,fun r hr=>(hs.fz r hr).mono ex.t (Fle.refl F)⟩,v,hx,?_⟩
   ·rcases a3 b i o hb ht with h| ⟨b0,x,o0,h1,h2,h3⟩
    ·exact .inl h
    ·exact(new b0 x h1 h3).elim
   ·exact⟨[(k,some (.rows L e B ph))],rfl,fun b c e z i o cs n hb ht hi N _=>⟨cs,by rw[a2 i hi fun b' x o' p1 p2 m=>new b' x p1 m];exact N,fun _ _=>rfl⟩⟩
   ·rw[get]at hb
    by_cases hk:k=b
    ·subst hk
     have hx:x= .rows L e B ph:=by
      rw[<-get]at hb;unfold SS.get at hb;rw[j4,bC3 rfl]at hb;exact(bC7 hb).symm
     subst hx
     rcases hs1.live k _ hb with⟨i,o,y,p1,p2,m,cs,n,q1,⟨Y,Z,r3,r4⟩,X⟩|p
     ·refine .inl ⟨i,o,y,p1,p2,?_,cs,n,q1,⟨Y,Z,r3,fun r j row d hr hd=>?_⟩,X⟩
      ·cases hF:F i with
       |none=>rfl
       |some y'=>rw[ex.f i y' hF]at m;cases m
      ·obtain⟨x,t1,t2⟩:=r4 r j row d hr hd
       exact⟨x,t1,fun kd E=>(t2 kd E).num (W kd (bB1 E))⟩
     ·exact .inr p
    ·have K:=old b x hb hk
     rcases hs.live b x K with⟨i,o,y,p1,p2,m,T⟩| ⟨p1,p2⟩
     ·exact .inl ⟨i,o,y,ex.t _ _ p1,by rw[a2 i (hs.lt b i o p1) fun b x o p1 p2 m=>new b x p1 m];exact p2,m,T.mono ex.t (Fle.refl F)⟩
     ·exact .inr ⟨ex.t _ _ p1,p2⟩
   ·cases G with
    |sl _ _ _ _ _ i o c h h0 h1 hc=>exact .sl _ _ _ _ _ i o c h h0 h1 hc
    |sl0 _ _ _ _ _ h h0 h1 hc=>exact .sl0 _ _ _ _ _ h h0 h1 hc
 ·rename_i a _ _ k2 h hh
  cases hc:bc9 a&&Nat.beq h.length s.h.length&&Nat.ble s.nx k2 with
  |false=>rw[hc]at h1;exact⟨_,_,h1,τ1,F1,hp1,ex,hs1,v,hx,G⟩
  |true=>
   rw[hc]at h1;simp only[bA2,bE1,bF4]at hc;obtain⟨⟨c0,J⟩,V⟩:=hc;obtain⟨R,a1,a2,a3,a4,a5⟩:=ex.hh;rw[hh]at a1;have u: [(k2,none)]++h=R++s.h:=a1;obtain⟨C,D⟩:=List.append_inj' u J;subst C;subst D;have new:∀b x,s.get b=some x->b∈ [(k2,(none:Option n5))].map Prod.fst->False:=fun b x hb hm=>by
    have:=hs.bound hb;simp only[bF2,List.map_nil,bD9,List.not_mem_nil,or_false]at hm;omega
   refine⟨_,_,h1,τ1,F,hp1,⟨ex.t,Fle.refl F,ex.nx,ex.snx,ex.st,fun b x hb _=>⟨x,hb⟩,⟨[],rfl,fun i hi O=>a2 i hi fun b x o p1 p2 m=>new b x p1 m,fun b i o hb ht=>?_,fun i y hi hy=>.inl hy,fun _ i y hy=>hy⟩,ex.hf,⟨[],rfl,fun b c e z i o cs n hb ht hi N _=>⟨cs,by rw[a2 i hi fun b' x o' p1 p2 m=>new b' x p1 m];exact N,fun _ _=>rfl⟩⟩⟩,
    ⟨fun b x hb=>?_,fun b c x y i o j q hb hc A C D=>hs.inj b c x y i o j q hb hc A (by rw[<-ex.st b (hs.bound hb)];exact C) (by rw[<-ex.st c (hs.bound hc)];exact D),fun i b hF=>hs1.frz i b (ex.f i b hF),hs1.lt,fun i b hF=>hs1.flt i b (ex.f i b hF),hs1.new,hs1.fc,fun r hr=>(hs.fz r hr).mono ex.t (Fle.refl F)⟩,v,hx,bp6 c0 G⟩
   ·rcases a3 b i o hb ht with h| ⟨b0,x,o0,h1,h2,h3⟩
    ·exact .inl h
    ·exact(new b0 x h1 h3).elim
   ·rcases hs.live b x hb with⟨i,o,y,p1,p2,m,T⟩| ⟨p1,p2⟩
    ·exact .inl ⟨i,o,y,ex.t _ _ p1,by rw[a2 i (hs.lt b i o p1) fun b x o p1 p2 m=>new b x p1 m];exact p2,m,T.mono ex.t (Fle.refl F)⟩
    ·exact .inr ⟨ex.t _ _ p1,p2⟩
 ·exact⟨_,_,h1,τ1,F1,hp1,ex,hs1,v,hx,G⟩
variable (P U) in
def conP (l:List (FuncId×Con))(g:FuncId):Option (List SV->M SV):=match ae9 P U l g with
 |some k=>some (bo6 P k)
 |none=>none
end
end Go.Sx
end PartSm39
set_option linter.unusedVariables false
noncomputable section PartSm40
namespace Go.Sx
open Go.Xe
def Con.below (c:Con)(mu:List Dat->Nat)(n:Nat):Con:= {c with pre:=fun d=>c.pre d/\mu d<n}
section
variable {P :Program}{U:Nat->List Dat->Dat}{ov:FuncId->Option TypeId}
theorem aW9 {c:Con}{mu:List Dat->Nat}{g:FuncId}(h:∀n,d6 P U ov (c.below mu n) g->d6 P U ov (c.below mu (n+1)) g):d6 P U ov c g:=by
 have all:∀n,d6 P U ov (c.below mu n) g:=fun n=>by
  induction n with
  |zero=>intro es _ d;exact absurd d.2 (Nat.not_lt_zero _)
  |succ n j=>exact h n j
 intro es e d;exact all (mu (i6 U (g8 c.inL) es)+1) es e ⟨d,bG1 _⟩
end
end Go.Sx
end PartSm40
