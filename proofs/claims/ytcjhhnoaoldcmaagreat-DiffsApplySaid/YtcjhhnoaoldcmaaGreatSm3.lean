/- The symbolic engine, parts 23, 24, 25, 26, 27, 28, 29, 30, 31, 32, 33, 34, 35, 36, 37, 38, 39, 40.
  Conditions: none. -/
import Derived.Test.YtcjhhnoaoldcmaaGreatSm2
import Derived.Carry
import Derived.OpenShut
set_option linter.all false
namespace Go.Sx
open Go.Xe
def O7 :Nat->List (Nat×Bc w9)->Ah
 |0,_=>[]
 |_+1,[]=>[]
 |n+1,(k,_)::l=>k::O7 n l
def kD (l h:List (Nat×Bc w9)):O7 l.length (l++h)=l.map Prod.fst:=by
 induction l with
 |nil=>rfl|cons a l c=>obtain⟨k,x⟩:=a;simp only[KE,KX,O7,KM,c]
def lG {α:Type}{b:Nat}:∀(l h:List (Nat×α)),b∉l.map Prod.fst->lk (l++h) b=lk h b
 | [],_,_=>rfl| (k,x)::l,h,hb=>by simp only[KM,Ky,not_or]at hb;rw[KX,p8,Kg (fun e=>hb.1 e.symm)];exact lG l h hb.2
def kC :Nat->List (Nat×Bc w9)->Bool
 |0,_=>false|_+1,[]=>false|n+1,(_,x)::l=>match x with
  |none=>true|some _=>kC n l
theorem Bn (l h:List (Nat×Bc w9))(hf:kC l.length (l++h)=false):∀p∈l,p.2≠none:=by
 induction l with
 |nil=>exact fun p hp=>by simp at hp
 |cons a l c=>obtain⟨k,x⟩:=a;intro p hp;simp only[KE,KX,kC]at hf;grind
def quiet {α:Type}(m:M α):M α:=fun s=>(m s).bind fun r=>bif Nat.beq r.2.h.length s.h.length&&Nat.beq r.2.nx s.nx then e8 r.1 r.2 else a7 "a region: an operation that should leave the memory alone" r.2
def DK {α:Type}(n:Nat)(m:M α):M (α×Ah×Bool):=fun s=>(m s).bind fun r=>e8 (r.1,O7 (r.2.h.length-n) r.2.h,kC (r.2.h.length-n) r.2.h) r.2
def mpend :M Nat:=fun s=>e8 s.nx (vg s)
def Ep (pd:List Pd):M Unit:=fun s=>e8 () (dm s pd)
def liveR (r:Rd):M Unit:=match r with
 | .blk b=>o8 fun s=>match s.get b with
  |some _=>e8 ()|none=>a7 "a region: read"
 | .mlk _ b=>o8 fun s=>match s.get b with
  |some _=>e8 ()|none=>a7 "a region: read"
 |_=>e8 ()
def AD (P:Ax)(vt:Ay):Bc E:=match kP P vt with
 |some [z]=>bif By (D6 P vt)then Cb (kd1 P vt) z else none|_=>none
def gB (P:Ax)(s0:SS)(f:Fm):Op->Rd
 | .mapEntry t m k=>match i6 f m with
  |some (.map b)=>match s0.get b,P.underlying t with
   |some (.map _ kt' vt'),some (.map kt vt)=>bif hJ P t f k&&Nat.beq kt kt'&&Nat.beq vt vt'&&(AD P vt).isSome then .mlk t b else .free|_,_=>.free
  |_=>.free
 |_=>.free
def DH (o:Oper):Bool:=Nat.beq (d5 o.op) 3
section
variable (P :Ax)(U:Ab)
def sgo (call:G8)(nt:Nat)(all:An):List (Oper×Nat)->Nat->Fm->List Pd->List En->M (Fm×List Pd)
 | [],_,f,pd,_=>e8 (f,pd)| (o,pre)::rest,i,f,pd,es=>
  bif j4 nt o.dst&&Nat.blt pre (2^i)then
   c6 (lQ U all f o) fun t =>
   bif t then
    bif Nat.beq (d5 o.op) 0 then c6 (quiet (sop P U call (V8 all f o t) o.op)) fun v=>sgo call nt all rest (i+1) (dv (V8 all f o t) o.dst v) pd (⟨i,pre,false,false,.free,[],false⟩::es)
    else bif Nat.beq (d5 o.op) 1 then c6 (quiet (sop P U call (V8 all f o t) o.op)) fun v=>c6 (liveR (lj P (V8 all f o t) o.op)) fun _=>
      bif vok 1000 v&&es.all (cz pre (lj P (V8 all f o t) o.op))then sgo call nt all rest (i+1) (dv (V8 all f o t) o.dst v) pd (⟨i,pre,false,true,lj P (V8 all f o t) o.op,[],false⟩::es)
      else a7 "a region: a read"
    else bif Nat.beq (d5 o.op) 2 then match snw P (V8 all f o t) o.op with
     |some (x,mk)=>c6 mpend fun b=>sgo call nt all rest (i+1) (dv (V8 all f o t) o.dst (mk b)) (⟨b,i,x⟩::pd) (⟨i,pre,false,false,.free,[],false⟩::es)
     |none=>a7 "a region: a new block"
    else bif pd.all (fun p=>pre.testBit p.i)then
      o8 fun s0=>c6 (Ep pd) fun _=>c6 (DK s0.h.length (sop P U call (V8 all f o t) o.op)) fun r=>c6 (liveR (gB P s0 (V8 all f o t) o.op)) fun _=>
       bif es.all (dj pre r.2.1 (gB P s0 (V8 all f o t) o.op))then sgo call nt all rest (i+1) (dv (V8 all f o t) o.dst r.1) [] (⟨i,pre,true,false,gB P s0 (V8 all f o t) o.op,r.2.1,r.2.2⟩::es)else a7 "a region: a write"
     else a7 "a region: blocks that wait"
   else bif DH o&& !(es.all (dj pre [] .free))then a7 "a region: not wanted" else
    sgo call nt all rest (i+1) (dv (V8 all f o t) o.dst (.tup [])) pd (⟨i,pre,DH o,false,.free,[],false⟩::es)
  else a7 "a region: slot"
def jA (call:G8)(nt:Nat):fH:=fun all f=>
 bif stat all (C4 all [])then c6 (sgo P U call nt all (all.zip (C4 all [])) 0 f [] []) fun r=>c6 (Ep r.2) fun _=>e8 r.1
 else a7 "a region: order"
def yY (s:SS)(b:Nat):Bool:=(s.get b).isSome
def twoB (a a':Ba)(f:Fm):M Fm:=o8 fun s=>match i6 f a,i6 f a' with
 |some (.ptr b _ _ _),some (.ptr b' _ _ _)=>bif !(Nat.beq b b')&&yY s b&&yY s b' then e8 f else a7 "a region: two stores"|_,_=>a7 "a region: two stores"
def zJ (call:G8)(nt:Nat):fH:=fun all f=>
 bif stat all (C4 all [])then jA P U call nt all f else match jj all with
  | some (x, y) => bif mb 0 all && Nat.blt x all.length && Nat.blt y all.length && !(Nat.beq x y) then
    match jq (d8 all.toArray x y .data).toList (moveLast (d8 all.toArray y x .data) x).toList x y with
    | some (a, a') => fun s => .both ((jA P U call nt (moveLast (d8 all.toArray y x .data) x).toList f s).bind fun _ => .done)
      (c6 (jA P U call nt (d8 all.toArray x y .data).toList f) (twoB a a') s)
    |none=>a7 "a region: order"
   else a7 "a region: order"
  |none=>a7 "a region: order"
end
section
variable {P :Ax}{U:Ab}{ov:Aa}{nt:Nat}
variable {call :c7}{all:An}{nx0:Nat}{o:Oper}{pre:Nat}{rest:List (Oper×Nat)}{i:Nat}{tm:Ao}{S:Hp}{I:Nat}{es:List Ent}
def JB (hd:j4 nt o.dst=true)(hw:e9 all tm o=false):xgo P call nt all nx0 ((o,pre)::rest) i tm S I es=xgo P call nt all nx0 rest (i+1) (j0 tm o.dst undef) S I (⟨i,o,pre,tm,S,S,I,false,undef,none⟩::es):=by rw[xgo,hd,Kc,hw,Ke]
variable {v:Aw}{S':Hp}
theorem xgo_0 (hd:j4 nt o.dst=true)(hw:e9 all tm o=true)(hk:d5 o.op=0)(hx:xop P call tm S o.op=some (v,S')):xgo P call nt all nx0 ((o,pre)::rest) i tm S I es=xgo P call nt all nx0 rest (i+1) (j0 tm o.dst v) S I (⟨i,o,pre,tm,S,S,I,true,v,none⟩::es):=by rw[xgo,hd,Kc,hw,Kc,hk];grind
theorem xgo_1 (hd:j4 nt o.dst=true)(hw:e9 all tm o=true)(hk:d5 o.op=1)(hx:xrd P tm S o.op=some v):xgo P call nt all nx0 ((o,pre)::rest) i tm S I es=xgo P call nt all nx0 rest (i+1) (j0 tm o.dst v) S I (⟨i,o,pre,tm,S,S,I,true,v,none⟩::es):=by rw[xgo,hd,Kc,hw,Kc,hk];grind
theorem xgo_2 (hd:j4 nt o.dst=true)(hw:e9 all tm o=true)(hk:d5 o.op=2){n:Nw}(hx:xnw P tm o.op=some n):xgo P call nt all nx0 ((o,pre)::rest) i tm S I es=xgo P call nt all nx0 rest (i+1) (j0 tm o.dst (n.val (nx0+i))) S I (⟨i,o,pre,tm,S,S,I,true,n.val (nx0+i),some n⟩::es):=by rw[xgo,hd,Kc,hw,Kc,hk];grind
theorem xgo_3 (hd:j4 nt o.dst=true)(hw:e9 all tm o=true)(hk:d5 o.op=3)(hx:xop P call tm (takes nx0 (ee pre I) es S) o.op=some (v,S')):xgo P call nt all nx0 ((o,pre)::rest) i tm S I es=xgo P call nt all nx0 rest (i+1) (j0 tm o.dst v) S' (I|||pre) (⟨i,o,pre,tm,S,S',I,true,v,none⟩::es):=by rw[xgo,hd,Kc,hw,Kc,hk];grind
def v5 {α a:Type}{m:M α}{k:α->M a}{s:SS}{Q:a×SS->Prop}:(c6 m k s).vc U Q↔(m s).vc U fun r=>(k r.1 r.2).vc U Q:=by unfold c6;exact My _ _ _ _
def uD {α:Type}{m:M α}{s:SS}{Q:α×SS->Prop}(h:(quiet m s).vc U Q):(m s).vc U fun r=>Q r/\r.2.h.length=s.h.length/\r.2.nx=s.nx:=by
 unfold quiet at h;rw[My]at h;refine Tr.vc_mono _ _ (fun r hr=>?_) h;cases hb:Nat.beq r.2.h.length s.h.length&&Nat.beq r.2.nx s.nx with
 |false=>rw[hb]at hr;exact hr.elim|true=>rw[hb]at hr;rw[JM]at hb;exact⟨hr,JQ hb.1,JQ hb.2⟩
variable {τ :Tau}{F:Ac}{s:SS}
def Ext.quiet {τ':Tau}{F':Ac}{s':SS}(ex:Ext τ F s S τ' F' s' S')(hs:SD P U τ F s S)(a:SD P U τ' F' s' S')(d:S'=S)(hh:s'.h.length=s.h.length)(hn:s'.nx=s.nx):τ'=τ/\F'=F/\s'.h=s.h:=by
 obtain⟨l,a1,_,_,a4,_⟩:=ex.hh;have hl:l=[]:=by
  cases l with
  |nil=>rfl|cons x l=>rw[a1]at hh;simp at hh;omega
 subst hl;refine⟨funext fun b=>?_,funext fun j=>?_,by simpa using a1⟩
 ·by_cases hb:b<s.nx
  ·exact ex.st b hb
  ·rw[hs.new b (by omega),a.new b (by omega)]
 ·cases hq:F' j with
  |none=>
   cases c:F j with
   |none=>rfl|some y=>rw[ex.f j y c]at hq;cases hq
  |some y=>
   rcases a4 j y (by rw[<-d];exact a.flt j y hq) hq with h1| ⟨b,o,_,h1⟩
   ·rw[h1]
   ·simp at h1
theorem Ge {vt:Ay}{d:E}(h:AD P vt=some d):∃z,D6 P vt=some z/\By (some z)=true/\PV P F (kd1 P vt) z (d.den U):=by
 unfold AD at h;split at h
 ·rename_i z hz;obtain⟨zv,e,z2⟩:=bF (U:=U) (τ:=fun _=>none) (F:=F) hz;obtain⟨j,k,g,z3,z4⟩:=z2.uncons;cases a:By (D6 P vt)with
  |false=>grind|true=>
   rw[a,Kc]at h;rw[e]at a;have c:zv=j:=by
    have hc:zv.cells.toList=[zv]:=by
     unfold By at a;split at a
     ·rename_i h;cases h;rfl
     ·rename_i h;cases h;rfl
     ·rename_i h;cases h;rfl
     ·cases a
    grind
   subst c;exact⟨zv,e,a,sk z3 h⟩
 ·cases h
def BQ {s0:SS}{f:Fm}{o:Op}{t:Ay}{b:Nat}(h:gB P s0 f o= .mlk t b)(ht:TD P U τ F f tm)(hs:SD P U τ F s S)(hb:s.get b=s0.get b)(hx:xop P call tm S o=some (v,S')):∃x j q,s0.get b=some x/\τ b=some (some (j,q))/\MS P t j S S':=by
 unfold gB at h;split at h
 ·rename_i t' m k;split at h
  ·rename_i b' hm;split at h
   ·rename_i L A D kt vt u n;cases hc:hJ P t' f k&&Nat.beq kt A&&Nat.beq vt D&&(AD P vt).isSome with
    |false=>rw[hc]at h;cases h
    |true=>
     rw[hc]at h;cases h;simp only[JM,KA]at hc;obtain⟨⟨⟨K,rfl⟩,rfl⟩,M⟩:=hc;obtain⟨mv,O,m2⟩:=C0 ht hm;cases m2 with
     |map _ i q p=>
      simp only[b9,f7,O]at hx;cases c:a9 tm k with
      |none=>rw[c]at hx;cases hx
      |some kv=>
      rw[c]at hx;simp only at hx;obtain⟨N,W,sh,ks,k1,k2,k3,rfl⟩:=yW ht c K;rw[n]at k1;cases k1;obtain⟨d,hd⟩:∃d,P.underlying kt=some d:=by
       cases h:P.underlying kt with
       |none=>unfold bX at k2;rw[h]at k2;cases k2
       |some d=>exact⟨d,rfl⟩
      obtain⟨G,r⟩:=Option.isSome_iff_exists.1 M;obtain⟨z,E,z2,z3⟩:=Ge (U:=U) (F:=F) r;rw[<-hb]at u;rcases hs.live b _ u with⟨Z,o',y,h1,h2,_,h0,es,reg,rfl,g,h3⟩| ⟨_,Y,e',z',R,h2,_⟩
      ·rw[p]at h1;simp only[JL,JN]at h1;obtain⟨rfl,rfl⟩:=h1;subst g;refine⟨_,i,q,by rw[<-hb];exact u,p,?_⟩;obtain⟨find,e,a⟩:=Dt hd k2 k3;rcases eI k2 k3 e z3 (G.den U) (L.toR U) es 0 h3 with⟨q1,q2,B,J,C⟩| ⟨q1,x,y,q2,B,J,V,_⟩
       ·simp only[R4,n,hd,h2,a,q2,E,JL,JN]at hx;exact tB n hd k2 E z2 z3 h2 (by rw[<-hx.2];exact(by show(S.m.set i _).get i=_;rw[Mw,Ki rfl])) h3 (by rw[B];exact C) k3
       ·rw[Ks]at q2;rcases eI k2 k3 e B (G.den U) (L.toR U) es 0 h3 with⟨X,_⟩| ⟨_,_,_,_,_,_,_,C⟩
        ·rw[X]at q1;cases q1
        simp only[R4,n,hd,h2,a,q2,J,JL,JN]at hx;rw[V]at hx;exact tB n hd k2 E z2 z3 h2 (by rw[<-hx.2];exact(by show(S.m.set i _).get i=_;rw[Mw,Ki rfl])) h3 C k3
      ·cases h2
   ·cases h
  ·cases h
 ·cases h
variable (P U ov nt) in
def Cv (all:An)(τ0:Tau)(F0:Ac)(s0:SS)(hp0:Hp)(rest:List (Oper×Nat))(i:Nat)(tm:Ao)(S:Hp)(I:Nat)(esX:List Ent)(f:Fm)(Q:(Fm×List Pd)×SS->Prop):Prop:=
 ∃f' pd' s',Q ((f',pd'),s')/\ ∃τ' F' out es',(EV fun m=>xgo P (exec P ov m) nt all hp0.nx rest i tm S I esX=some out)/\
  DA P U τ0 F0 s0 hp0 all.length all.length τ' F' s' out.S f' out.tm pd' out.es out.I/\DB P ⟨hp0.m,hp0.nx+all.length⟩ all.length τ' F' s' out.S es' out.es/\ ∃pr,f'=pr++f
theorem jC {call:G8}(d:D0 P U ov call){all:An}{τ0:Tau}{F0:Ac}{s0:SS}{hp0:Hp}:∀(rest:List (Oper×Nat)) (i:Nat) (τ:Tau) (F:Ac) (s:SS) (S:Hp) (f:Fm) (tm:Ao) (pd:List Pd) (es:List En) (esX:List Ent) (I:Nat),DA P U τ0 F0 s0 hp0 all.length i τ F s S f tm pd esX I->DB P ⟨hp0.m,hp0.nx+all.length⟩ i τ F s S es esX->i+rest.length=all.length-> ∀Q,(sgo P U call nt all rest i f pd es s).vc U Q->Cv P U ov nt all τ0 F0 s0 hp0 rest i tm S I esX f Q
 | [],i,τ,F,s,S,f,tm,pd,es,esX,I,ha,hb,hi,Q,hq=>by
  have e:i=all.length:=by grind
  subst e;exact⟨f,pd,s,hq,τ,F,⟨tm,S,I,esX⟩,es,LX fun m=>rfl,ha,hb,[],rfl⟩
 | (o,pre)::rest,i,τ,F,s,S,f,tm,pd,es,esX,I,ha,hb,hi,Q,hq=>by
  have ax:i<all.length:=by grind
  have K:i+1+rest.length=all.length:=by grind
  unfold sgo at hq;cases hd:j4 nt o.dst&&Nat.blt pre (2^i)with
  |false=>rw[hd]at hq;exact hq.elim|true=>
   rw[hd,Kc,v5]at hq;rw[JM]at hd;have aj:pre<2^i:=JP hd.2;obtain⟨t,s1,hq,A,au,hw⟩:=nM ha.td all o (s:=s) _ hq ha.sd.fc;have ha:=ha.fr (zu ha.td hw);obtain⟨p0,O⟩:=uG all f o t;have N:Cv P U ov nt all τ0 F0 s0 hp0 ((o,pre)::rest) i tm S I esX (V8 all f o t) Q->Cv P U ov nt all τ0 F0 s0 hp0 ((o,pre)::rest) i tm S I esX f Q:=
    fun⟨f',ai,s',h1,τ',F',ah,R,h2,h3,h4,pr,h5⟩=>⟨f',ai,s',h1,τ',F',ah,R,h2,h3,h4,pr++p0,by rw[h5,O,JZ]⟩
   refine N ?_;clear N O p0;generalize V8 all f o t=f at hq ha⊢;have n:=ha.sd.only A au;have G:∀ {a:SV} {v:Aw} {S':Hp} {I':Nat} {eX:Ent},(EV fun m=>xgo P (exec P ov m) nt all hp0.nx ((o,pre)::rest) i tm S I esX=xgo P (exec P ov m) nt all hp0.nx rest (i+1) (j0 tm o.dst v) S' I' (eX::esX))->
     Cv P U ov nt all τ0 F0 s0 hp0 rest (i+1) (j0 tm o.dst v) S' I' (eX::esX) (dv f o.dst a) Q->Cv P U ov nt all τ0 F0 s0 hp0 ((o,pre)::rest) i tm S I esX f Q:=by
    intro a v S' I' eX he ⟨f',ai,s',h1,τ',F',ah,R,h2,h3,h4,pr,h5⟩;obtain⟨p,hp⟩:=uB f o.dst a;exact⟨f',ai,s',h1,τ',F',ah,R,(he.and h2).mono fun m ⟨k1,k2⟩=>by rw[k1];exact k2,h3,h4,pr++p,by rw[h5,hp,JZ]⟩
   have Y:∀b x,s.get b=some x->τ b=τ b:=fun _ _ _=>rfl;cases t with
   |false=>
    rw[Ke]at hq;cases hc:DH o&& !(es.all (dj pre [] .free))with
    |true=>rw[hc]at hq;exact hq.elim|false=>
     rw[hc,Ke]at hq;have hk:∀h:DH o=true,es.all (dj pre [] .free)=true:=fun h=>by grind
     have V:∀b,s1.get b=s.get b:=A.get;have C:=ha.keep hb.xi (eX:=⟨i,o,pre,tm,S,S,I,false,undef,none⟩) n (ha.td.put (.tup [] [] rfl (fun i a x h _=>by simp at h)) o.dst) A.h A.nx (LY ha.sd A) rfl rfl;have D:=hb.step (en:=⟨i,pre,DH o,false,.free,[],false⟩) (eX:=⟨i,o,pre,tm,S,S,I,false,undef,none⟩) (τ':=τ) (F':=F) (s':=s1) (S':=S) (Mx τ) (LZ F) Y ha.sd.frz (fun _ _ _ h=>h)
      (fun b _=>V b) (fun _ _ _ _ _ _ _=>rfl) rfl rfl rfl rfl rfl (fun _=>⟨rfl,rfl⟩) hk (fun _ _ _ h=>by cases h) (fun h _=>by cases h)
     exact G (LX fun m=>JB hd.1 hw) (jC d rest (i+1) τ F s1 S _ _ pd _ _ I C D K Q hq)
   |true=>
    rw[Kc]at hq;have ay:d5 o.op=0\/d5 o.op=1\/d5 o.op=2\/d5 o.op=3:=by have:=im o.op;omega
    rcases ay with hk|hk|hk|hk<;>rw[hk]at hq
    ·rw[show Nat.beq 0 0=true from rfl,Kc,v5]at hq;obtain⟨a,s2,⟨hq,h1,h2⟩,τ',F',S',ex,z,v,hx,hv⟩:=sa d (ha.td) n o.op _ (uD hq) n;obtain⟨m0,B⟩:=hx;have B:∀m,m0<=m->xop P (exec P ov m) tm S o.op=some (v,S'):=B;obtain⟨r,hr⟩:=oB (P:=P) (call:=exec P ov m0) (tm:=tm) hk;have hS:S'=S:=by have:=B m0 (Kj _);rw[hr]at this;exact(i3 this).2
     obtain⟨rfl,rfl,h3⟩:=ex.quiet n z hS h1 h2;subst hS;have hh:s2.h=s.h:=by rw[h3,A.h]
     have hn:s2.nx=s.nx:=by rw[h2,A.nx]
     have V:∀b,s2.get b=s.get b:=fun b=>by unfold SS.get;rw[hh]
     have C:=ha.keep hb.xi (eX:=⟨i,o,pre,tm,S',S',I,true,v,none⟩) z (ha.td.put hv o.dst) hh hn ((LY ha.sd A).trans ex) rfl rfl;have D:=hb.step (en:=⟨i,pre,false,false,.free,[],false⟩) (eX:=⟨i,o,pre,tm,S',S',I,true,v,none⟩) (τ':=τ') (F':=F') (s':=s2) (S':=S') (Mx _) (LZ _) Y ha.sd.frz (fun _ _ _ h=>h)
      (fun b _=>V b) (fun _ _ _ _ _ _ _=>rfl) rfl rfl rfl (by show false=isW _;unfold isW;rw[show d5 o.op=0 from hk];rfl) rfl (fun _=>⟨rfl,rfl⟩) (fun h=>by unfold isW at h;rw[show d5 o.op=0 from hk]at h;cases h) (fun h=>by cases h) (fun _ h=>by rw[show d5 o.op=0 from hk]at h;cases h)
     exact G ⟨m0,fun m hm=>xgo_0 hd.1 hw hk (B m hm)⟩ (jC d rest (i+1) _ _ s2 S' _ _ pd _ _ I C D K Q hq)
    ·rw[show Nat.beq 1 0=false from rfl,show Nat.beq 1 1=true from rfl,Ke,Kc,v5]at hq;obtain⟨a,s2,⟨hq,h1,h2⟩,τ',F',S',ex,z,v,hx,hv⟩:=sa d (ha.td) n o.op _ (uD hq) n;obtain⟨m0,B⟩:=hx;obtain⟨hS,bb⟩:=JK hk (B m0 (Kj _));obtain⟨rfl,rfl,h3⟩:=ex.quiet n z hS h1 h2;subst hS;have hh:s2.h=s.h:=by rw[h3,A.h]
     have hn:s2.nx=s.nx:=by rw[h2,A.nx]
     have V:∀b,s2.get b=s.get b:=fun b=>by unfold SS.get;rw[hh]
     have bc:=Hl ha.td n (B m0 (Kj _));rw[v5]at hq;have E:(∀b,(lj P f o.op= .blk b\/ ∃t,lj P f o.op= .mlk t b)-> ∃x,s.get b=some x)/\Tr.vc U ((bif vok 1000 a&&es.all (cz pre (lj P f o.op))then sgo P U call nt all rest (i+1) (dv f o.dst a) pd (⟨i,pre,false,true,lj P f o.op,[],false⟩::es)
      else a7 "a region: a read") s2) Q:=by
      cases ab:lj P f o.op with
      |blk b=>
       rw[ab]at hq;simp only[liveR,o8]at hq;cases c:s2.get b with
       |none=>rw[c]at hq;exact hq.elim|some x=>rw[c]at hq;exact⟨fun b' e=>by rcases e with e| ⟨_,e⟩<;>cases e;exact⟨x,by rw[<-V];exact c⟩,hq⟩
      |mlk tt b=>
       rw[ab]at hq;simp only[liveR,o8]at hq;cases c:s2.get b with
       |none=>rw[c]at hq;exact hq.elim|some x=>rw[c]at hq;exact⟨fun b' e=>by rcases e with e| ⟨_,e⟩<;>cases e;exact⟨x,by rw[<-V];exact c⟩,hq⟩
      |_=>rw[ab]at hq;exact⟨fun b' e=>(by rcases e with e| ⟨_,e⟩<;>cases e),hq⟩
     obtain⟨E,hq⟩:=E;cases hc:vok 1000 a&&es.all (cz pre (lj P f o.op))with
     |false=>rw[hc]at hq;exact hq.elim|true=>
      rw[hc,Kc]at hq;rw[JM]at hc;have C:=ha.keep hb.xi (eX:=⟨i,o,pre,tm,S',S',I,true,v,none⟩) z (ha.td.put hv o.dst) hh hn ((LY ha.sd A).trans ex) rfl rfl;have D:=hb.step (en:=⟨i,pre,false,true,lj P f o.op,[],false⟩) (eX:=⟨i,o,pre,tm,S',S',I,true,v,none⟩) (τ':=τ') (F':=F') (s':=s2) (S':=S') (Mx _) (LZ _) Y ha.sd.frz (fun _ _ _ h=>h)
       (fun b _=>V b) (fun _ _ _ _ _ _ _=>rfl) rfl rfl rfl (by show false=isW _;unfold isW;rw[show d5 o.op=1 from hk];rfl) rfl (fun _=>⟨rfl,rfl⟩) (fun h=>by unfold isW at h;rw[show d5 o.op=1 from hk]at h;cases h) (fun h=>by cases h)
       (fun _ _=>⟨vz 1000 a v hc.1 hv,rfl,rfl,bc,E,hc.2⟩)
      refine G ⟨m0,fun m hm=>xgo_1 hd.1 hw hk bb⟩ (jC d rest (i+1) _ _ s2 S' _ _ pd _ _ I C D K Q hq)
    ·rw[show Nat.beq 2 0=false from rfl,show Nat.beq 2 1=false from rfl,show Nat.beq 2 2=true from rfl,Ke,Ke,Kc]at hq;cases aa:snw P f o.op with
     |none=>rw[aa]at hq;exact hq.elim|some xm=>
      obtain⟨x,mk⟩:=xm;rw[aa]at hq;obtain⟨nw,hx,ap,ao⟩:=Jr (U:=U) ha.td aa;have hq:(sgo P U call nt all rest (i+1) (dv f o.dst (mk s1.nx)) (⟨s1.nx,i,x⟩::pd) (⟨i,pre,false,false,.free,[],false⟩::es) (vg s1)).vc U Q:=hq;have J:DA P U τ0 F0 s0 hp0 all.length i τ F s1 S f tm pd esX I:=
       ⟨n,ha.td,ha.ext.trans (LY ha.sd A),ha.room,ha.ib,ha.xd,ha.pn,fun p hp=>let k:=ha.pds p hp;⟨k.lt,k.un,by rw[A.get];exact k.g,k.lo,by rw[A.nx];exact k.hi,k.t,k.f,k.u,k.e⟩,ha.cl,ha.tk⟩
      have h0:τ s1.nx=none:=n.new _ (Kj _);have Z:=js (τ:=τ) (some (hp0.nx+i,0)) h0;have C:=J.pend hb.xi ax (eX:=⟨i,o,pre,tm,S,S,I,true,nw.val (hp0.nx+i),some nw⟩) (x:=x) (nw:=nw) ((ha.td.mono Z (LZ F)).put (ao _ s1.nx (hp0.nx+i) (o9 _ _ _)) o.dst) (ap _ Z) rfl rfl;have D:=hb.step (en:=⟨i,pre,false,false,.free,[],false⟩) (eX:=⟨i,o,pre,tm,S,S,I,true,nw.val (hp0.nx+i),some nw⟩) (τ':=put τ s1.nx (some (hp0.nx+i,0))) (F':=F) (s':=vg s1) (S':=S) Z (LZ _)
       (fun b y hb=>F5 τ _ (by have:=ha.sd.bound hb;rw[A.nx];omega)) ha.sd.frz (fun _ _ _ h=>h)
       (fun b _=>A.get b) (fun _ _ _ _ _ _ _=>rfl) rfl rfl rfl (by show false=isW _;unfold isW;rw[show d5 o.op=2 from hk];rfl) rfl (fun _=>⟨rfl,rfl⟩) (fun h=>by unfold isW at h;rw[show d5 o.op=2 from hk]at h;cases h) (fun h=>by cases h) (fun _ h=>by rw[show d5 o.op=2 from hk]at h;cases h)
      exact G (LX fun m=>xgo_2 hd.1 hw hk hx) (jC d rest (i+1) _ _ _ S _ _ _ _ _ I C D K Q hq)
    ·rw[show Nat.beq 3 0=false from rfl,show Nat.beq 3 1=false from rfl,show Nat.beq 3 2=false from rfl,Ke,Ke,Ke]at hq;cases hc:pd.all (fun p=>pre.testBit p.i)with
     |false=>rw[hc]at hq;exact hq.elim|true=>
      rw[hc,Kc]at hq;rw[Kq]at hc;have J:DA P U τ0 F0 s0 hp0 all.length i τ F s1 S f tm pd esX I:=
       ⟨n,ha.td,ha.ext.trans (LY ha.sd A),ha.room,ha.ib,ha.xd,ha.pn,fun p hp=>let k:=ha.pds p hp;⟨k.lt,k.un,by rw[A.get];exact k.g,k.lo,by rw[A.nx];exact k.hi,k.t,k.f,k.u,k.e⟩,ha.cl,ha.tk⟩
      have al:∀e∈esX,e.nw≠none->(ee pre I e.i=true↔ ∃p∈pd,p.i=e.i):=by
       intro e he ba;unfold ee;rw[JM,KH];constructor
       ·rintro ⟨_,h2⟩;exact ha.tk e he ba h2
       ·rintro ⟨p,hp,h2⟩;rw[<-h2];exact⟨hc p hp,(ha.pds p hp).un⟩
      obtain⟨t1,t2,t3,t4⟩:=J.take (ee pre I) al;simp only[o8]at hq;rw[v5]at hq;generalize ac:gB P s1 f o.op=so at hq;have hq:(c6 (DK s1.h.length (sop P U call f o.op)) (fun r=>c6 (liveR so) fun _=>bif es.all (dj pre r.2.1 so)then sgo P U call nt all rest (i+1) (dv f o.dst r.1) [] (⟨i,pre,true,false,so,r.2.1,r.2.2⟩::es)else a7 "a region: a write") (dm s1 pd)).vc U Q:=hq;rw[v5]at hq;unfold DK at hq;rw[My]at hq;obtain⟨a,s2,hq,τ',F',S',ex,z,v,hx,hv⟩:=sa d ha.td t1 o.op _ hq t1;obtain⟨l,a1,a2,a3,a4,a5⟩:=ex.hh;have X:O7 (s2.h.length-s1.h.length) s2.h=(l++tkl pd).map Prod.fst:=by
       have:s2.h=(l++tkl pd)++s1.h:=by rw[a1,JZ];rfl
       rw[this,Kn,Nat.add_sub_cancel,kD]
      have hq:(c6 (liveR so) (fun _=>bif es.all (dj pre (O7 (s2.h.length-s1.h.length) s2.h) so)then sgo P U call nt all rest (i+1) (dv f o.dst a) [] (⟨i,pre,true,false,so,O7 (s2.h.length-s1.h.length) s2.h,kC (s2.h.length-s1.h.length) s2.h⟩::es)else a7 "a region: a write") s2).vc U Q:=hq;rw[v5]at hq;have E:(∀t b,so= .mlk t b-> ∃x,s2.get b=some x)/\((bif es.all (dj pre (O7 (s2.h.length-s1.h.length) s2.h) so)then sgo P U call nt all rest (i+1) (dv f o.dst a) [] (⟨i,pre,true,false,so,O7 (s2.h.length-s1.h.length) s2.h,kC (s2.h.length-s1.h.length) s2.h⟩::es)else a7 "a region: a write") s2).vc U Q:=by
       cases so with
       |blk b=>
        simp only[liveR,o8]at hq;cases c:s2.get b with
        |none=>rw[c]at hq;exact hq.elim|some x=>rw[c]at hq;exact⟨fun _ _ e=>(by cases e),hq⟩
       |mlk tt b=>
        simp only[liveR,o8]at hq;cases c:s2.get b with
        |none=>rw[c]at hq;exact hq.elim|some x=>rw[c]at hq;exact⟨fun _ _ e=>(by cases e;exact⟨x,c⟩),hq⟩
       |free=>exact⟨fun _ _ e=>(by cases e),hq⟩|frz=>exact⟨fun _ _ e=>(by cases e),hq⟩|bad=>exact⟨fun _ _ e=>(by cases e),hq⟩
      obtain⟨E,hq⟩:=E;rw[X]at hq;cases M:es.all (dj pre ((l++tkl pd).map Prod.fst) so)with
      |false=>rw[M]at hq;exact hq.elim|true=>
       rw[M,Kc]at hq;have C:=J.write hb.xi aj hc t3 t2 ex z ((ha.td.mono ex.t ex.f).put hv o.dst) (eX:=⟨i,o,pre,tm,S,S',I,true,v,none⟩) rfl rfl;have aw:∀b,b∉(l++tkl pd).map Prod.fst->s2.get b=s.get b:=by
        intro b hb;have:s2.h=(l++tkl pd)++s.h:=by rw[a1,JZ,<-A.h];rfl
        unfold SS.get;rw[this,lG _ _ hb]
       have be:∀b x j q,s.get b=some x->τ b=some (some (j,q))->b∉(l++tkl pd).map Prod.fst->S'.m.get j=S.m.get j:=by
        intro b x j q c ae bi;have L:∀p∈pd,b≠p.b:=by intro p hp e;rw[e,(ha.pds p hp).g]at c;cases c
        have W:∀p∈pd,j≠hp0.nx+p.i:=by intro p hp e;subst e;exact L p hp ((ha.pds p hp).u b q ae)
        have av:(dm s1 pd).get b=some x:=by rw[Z5 L,A.get];exact c
        rw[a2 j (by rw[t3];exact ha.sd.lt b j q ae) (fun b' y q' e1 e2 e3=>?_),t4 j W];by_cases eb:b'=b
        ·grind
        ·exact t1.inj b' b y x j q' j q e1 av eb e2 ae rfl
       have aq:(isW (⟨i,o,pre,tm,S,S',I,true,v,none⟩:Ent)=true->kC (s2.h.length-s1.h.length) s2.h=false)-> ∀j y,F' j=some y->F j=some y:=fun hq=>by
        have hn:=hq (by unfold isW;rw[show d5 o.op=3 from hk];rfl);have e2:s2.h=(l++tkl pd)++s1.h:=by rw[a1,JZ];rfl
        rw[e2,Kn,Nat.add_sub_cancel]at hn;exact a5 fun p hp=>Bn _ _ hn p (LG _ hp)
       obtain⟨m0,B⟩:=hx;have ad:∀tt b,kM so (.mlk tt b)=true-> ∃x x' j q,s.get b=some x/\s2.get b=some x'/\τ b=some (some (j,q))/\MS P tt j S S':=by
        intro tt b ak;have e:so= .mlk tt b:=by
         clear ac hq E M;cases so with
         |mlk t2 b2=>simp only[kM,JM,KA]at ak;grind|_=>cases ak
        obtain⟨x',bg⟩:=E tt b e;have az:∃x,s1.get b=some x:=by
         rw[<-ac]at e;unfold gB at e;split at e
         ·split at e
          ·grind
          ·cases e
         ·cases e
        obtain⟨x1,bh⟩:=az;have L:∀p∈pd,b≠p.b:=by intro p hp e;have:=(J.pds p hp).g;rw[<-e,bh]at this;cases this
        obtain⟨x,j,q,g1,g2,g3⟩:=BQ (s0:=s1) (ac.trans e) ha.td t1 (by rw[Z5 L]) (B m0 (Kj _));have W:∀p∈pd,j≠hp0.nx+p.i:=by intro p hp e;subst e;exact L p hp ((ha.pds p hp).u b q g2)
        exact⟨x,x',j,q,by rw[<-A.get];exact g1,bg,g2,(MS.of (t4 j W)).trans g3⟩
       have D:=hb.step (en:=⟨i,pre,true,false,so,(l++tkl pd).map Prod.fst,kC (s2.h.length-s1.h.length) s2.h⟩) (eX:=⟨i,o,pre,tm,S,S',I,true,v,none⟩) (τ':=τ') (F':=F') (s':=s2) (S':=S') ex.t ex.f
        (fun b y c=>ex.st b (by have:=ha.sd.bound c;show b<s1.nx;rw[A.nx];exact this)) z.frz aq aw be rfl rfl rfl (by show true=isW _;unfold isW;rw[show d5 o.op=3 from hk];rfl) rfl
        (fun h=>by unfold isW at h;rw[show d5 o.op=3 from hk]at h;cases h) (fun _=>M) (fun _=>ad) (fun _ h=>by rw[show d5 o.op=3 from hk]at h;cases h)
       exact G ⟨m0,fun m hm=>xgo_3 hd.1 hw hk (B m hm)⟩ (jC d rest (i+1) _ _ _ S' _ _ _ _ _ _ C D K Q hq)
def jB {call:G8}(r:D0 P U ov call)(all:An)(f:Fm)(τ:Tau)(F:Ac)(s:SS)(hp:Hp)(tm:Ao)(ht:TD P U τ F f tm)(hs:SD P U τ F s hp):OKh P U (jA P U call nt all f) τ F s hp fun A τ' F' hp'=>∃tm',(EV fun n=>N3 P (exec P ov n) nt all tm hp=some (tm',hp'))/\TD P U τ' F' A tm'/\ ∃pre,A=pre++f:=by
 intro Q hq _;unfold jA at hq;cases q:stat all (C4 all [])with
 |false=>rw[q]at hq;exact hq.elim|true=>
  rw[q,Kc,v5]at hq;have z:(all.zip (C4 all [])).length=all.length:=by have:=q;simp only[stat,JM]at this;have:=JQ this.1.1;rw[List.length_zip,this,Nat.min_self]
  have K:SD P U τ F s ⟨hp.m,hp.nx+all.length⟩:=⟨hs.live,hs.inj,hs.frz,fun b i o h=>KO (hs.lt b i o h) (Nat.le_add_right _ _),fun i b h=>KO (hs.flt i b h) (Nat.le_add_right _ _),hs.new,hs.fc,hs.fz⟩
  have C:Ext τ F s hp τ F s ⟨hp.m,hp.nx+all.length⟩:=⟨Mx τ,LZ F,Nat.le_add_right _ _,Kj _,fun _ _=>rfl,fun b x hb _=>⟨x,hb⟩,
   ⟨[],rfl,fun _ _ _=>rfl,fun b i o hb ht=>(by rw[hs.new b hb]at ht;cases ht),fun _ _ _ h=>.inl h,fun _ _ _ h=>h⟩,⟨[],rfl⟩,⟨[],rfl,fun _ _ _ _ _ _ cs _ _ _ _ O _=>⟨cs,O,fun _ _=>rfl⟩⟩⟩
  have ha:DA P U τ F s hp all.length 0 τ F s ⟨hp.m,hp.nx+all.length⟩ f tm [] [] 0:=by
   refine⟨K,ht,C,Kj _,fun j _=>Nat.zero_testBit j,.nil,.nil,fun p hp=>by simp at hp,fun j _ _=>⟨fun c o hc=>?_,?_⟩,fun e he=>by simp at he⟩
   ·have:=hs.lt c _ o hc;omega
   ·cases hF:F (hp.nx+j)with
    |none=>rfl|some y=>have:=hs.flt _ y hF;omega
  have hb:DB P ⟨hp.m,hp.nx+all.length⟩ 0 τ F s ⟨hp.m,hp.nx+all.length⟩ [] []:=by
   refine⟨fun e he=>by simp at he,fun e he=>by simp at he,fun e he=>by simp at he,fun e he=>by simp at he,fun k Sk d b x j o _ _ _=>?_,fun k Sk d _ j y hj=>?_,fun e he=>by simp at he,fun t k Sk d b x j o _ _ _=>?_⟩
   ·rcases d with⟨_,rfl⟩| ⟨x,hx,_⟩
    ·rfl
    ·simp at hx
   ·rcases d with⟨_,rfl⟩| ⟨x,hx,_⟩
    ·exact hs.frz j y hj
    ·simp at hx
   ·rcases d with⟨_,rfl⟩| ⟨x,hx,_⟩
    ·exact MS.of rfl
    ·simp at hx
  obtain⟨A,L,s',J,τ',F',a,N,⟨m0,D⟩,g,B,pr,G⟩:=jC r (all.zip (C4 all [])) 0 τ F s _ f tm [] [] [] 0 ha hb (by rw[z,Ks]) _ hq;obtain⟨t1,t2,_,_⟩:=g.take (ea a.I) (fun e he E=>by
   unfold ea;rw[KH];constructor
   ·exact g.tk e he E
   ·rintro ⟨p,hp,M⟩;rw[<-M];exact(g.pds p hp).un)
  have u:dyn P ⟨hp.m,hp.nx+all.length⟩ a.es=true:=by
   unfold dyn;rw[Kq];intro e he;cases hc:e.wt&&Nat.beq (d5 e.o.op) 1 with
   |false=>rfl|true=>
    rw[Kc];rw[JM]at hc;have look:=B.look e he hc.1 (JQ hc.2);rw[JM];refine⟨(look 0 _ (.inl ⟨rfl,rfl⟩)).look,?_⟩;rw[Kq];intro x hx;cases hw:isW x with
    |false=>rfl|true=>exact(look _ _ (.inr ⟨x,hx,hw,rfl,rfl⟩)).look
  refine⟨A,dm s' L,J,τ',F',takes hp.nx (ea a.I) a.es a.S,t2,t1,a.tm,⟨m0,fun m hm=>?_⟩,g.td,pr,G⟩;have e:xgo P (exec P ov m) nt all hp.nx (all.zip (C4 all [])) 0 tm ⟨hp.m,hp.nx+all.length⟩ 0 []=some a:=D m hm;show N3 P (exec P ov m) nt all tm hp=_;unfold N3;rw[q,Kc,e];simp only[u,Kc]
def HF {a a':Ba}{f:Fm}{s:SS}{Q:Fm×SS->Prop}(h:(twoB a a' f s).vc U Q):∃b z r fl b' g d c,i6 f a=some (.ptr b z r fl)/\i6 f a'=some (.ptr b' g d c)/\b≠b'/\(∃X,s.get b=some X)/\(∃Y,s.get b'=some Y)/\Q (f,s):=by
 unfold twoB o8 at h;generalize i6 f a=u at h⊢;generalize i6 f a'=w at h⊢;cases u with
 |none=>exact h.elim|some u=>cases w with
  |none=>cases u<;>exact h.elim
  |some w=>
   cases u<;>try exact h.elim
   cases w<;>try exact h.elim
   rename_i b z r fl b' g d c;simp only at h;cases hc: !(Nat.beq b b')&&yY s b&&yY s b' with
   |false=>rw[hc]at h;exact h.elim|true=>rw[hc,Kc]at h;simp only[JM,KH]at hc;obtain⟨⟨j,k⟩,m⟩:=hc;exact⟨b,z,r,fl,b',g,d,c,rfl,rfl,fun e=>by rw[e]at j;simp at j,Option.isSome_iff_exists.1 k,Option.isSome_iff_exists.1 m,h⟩
def uR {call:G8}(c:D0 P U ov call):aJ P U ov nt (zJ P U call nt):=by
 intro all f τ F s hp tm ht hs Q hq d;unfold zJ at hq;cases e:stat all (C4 all [])with
 |true=>rw[e,Kc]at hq;obtain⟨m,s',h1,τ',F',hp',h2,h3,tm',h4,h5⟩:=jB c all f τ F s hp tm ht hs Q hq d;exact⟨m,s',h1,τ',F',hp',h2,h3,tm',h4.mono fun n k=>by unfold j3;rw[k],h5⟩
 |false=>
  rw[e,Ke]at hq;have A:∀n,N3 P (exec P ov n) nt all tm hp=none:=fun n=>by unfold N3;rw[e];rfl
  cases g:jj all with
  |none=>rw[g]at hq;exact hq.elim|some xy=>
  obtain⟨x,y⟩:=xy;rw[g]at hq;simp only at hq;cases hb:mb 0 all&&Nat.blt x all.length&&Nat.blt y all.length&& !(Nat.beq x y)with
  |false=>rw[hb]at hq;exact hq.elim|true=>
  rw[hb,Kc]at hq;cases hp2:jq (d8 all.toArray x y .data).toList (moveLast (d8 all.toArray y x .data) x).toList x y with
  |none=>rw[hp2]at hq;exact hq.elim|some C=>
  obtain⟨a,a'⟩:=C;rw[hp2]at hq;simp only at hq;obtain⟨q1,q2⟩:=hq;rw[My]at q1;obtain⟨_,_,_,_,_,O,_,_,T,L,_⟩:=jB c _ f τ F s hp tm ht hs _ q1 d;have q2:(c6 (jA P U call nt (d8 all.toArray x y .data).toList f) (twoB a a') s).vc U Q:=q2;rw[v5]at q2;obtain⟨m,s',q2,τ',F',hp',h2,h3,tm',h4,h5,K⟩:=jB c _ f τ F s hp tm ht hs _ q2 d;obtain⟨b,z,r,fl,b',z',r',J,D,E,t,⟨X,M⟩,⟨Y,N⟩,q2⟩:=HF q2;obtain⟨u,V,W⟩:=C0 (P:=P) (U:=U) h5 D;obtain⟨w,Z,w2⟩:=C0 (P:=P) (U:=U) h5 E;have p:AT (a9 tm' a) (a9 tm' a')=true:=by
   rw[V,Z];cases W with
   |ptr _ _ _ _ i q B _=>cases w2 with
    |ptr _ _ _ _ j R h _=>
     have:=h3.inj b b' X Y i q j R M N t B h;show(!(Nat.beq i j))=true;cases hb:Nat.beq i j with
     |false=>rfl|true=>exact absurd (JQ hb) this
  refine⟨m,s',q2,τ',F',hp',h2,h3,tm',(h4.and L).mono fun n ⟨k1,k2⟩=>?_,h5,K⟩;unfold j3;rw[A n];simp only;rw[g];simp only;unfold FJ;have e0:all.toArray.toList=all:=by simp
  have G:all.toArray.size=all.length:=by simp
  rw[e0,G,hb,Kc,k1,k2];simp only;unfold lC;rw[hp2];simp only;rw[p];rfl
end
end Go.Sx
namespace Go.Sx
open Go.Xe
section
variable {P :Ax}{U:Ab}
variable {τ1 τ2:Tau}{F0 F1:Ac}
theorem VD.re {τ0:Tau}{a:SV}{u y:Aw}(h0:VD P U τ0 F0 a u)(h1:VD P U τ1 F1 a y)(d:∀b p,τ0 b=some p->τ2 b=τ1 b):VD P U τ2 F1 a y:=by
 induction h1 generalizing u with
 |any v=>exact .any v|int k e=>exact .int k e|bool e=>exact .bool e|str e=>exact .str e|nilp=>exact .nilp|ptr b z row fld i o k h=>
  cases h0 with
  |ptr _ _ _ _ B o' k' _=>exact .ptr b z row fld i o (by rw[d b _ k'];exact k) h
 |pptr t L row fld i o l c k h h'=>exact .pptr t L row fld i o l c k h h'|nils=>exact .nils|sl b z off len cap i o c k h h' hc=>
  have hb:∃p,τ0 b=some p:=by cases h0<;>exact⟨_,by assumption⟩
  obtain⟨p,hp⟩:=hb;exact .sl b z off len cap i o c (by rw[d b _ hp];exact k) h h' hc
 |sl0 b z off len cap k h h' hc=>
  have hb:∃p,τ0 b=some p:=by cases h0<;>exact⟨_,by assumption⟩
  obtain⟨p,hp⟩:=hb;exact .sl0 b z off len cap (by rw[d b _ hp];exact k) h h' hc
 |lst t L clip v k hc=>exact .lst t L clip v k hc|agg l xs j _ n=>
  cases h0 with
  |agg _ ys q h2=>refine .agg l xs j fun i a x ha hx=>?_;grind
 |tup l xs j _ n=>
  cases h0 with
  |tup _ ys q h2=>refine .tup l xs j fun i a x ha hx=>?_;grind
 |fn f l m xs ys j _ q _ C D=>
  cases h0 with
  |fn _ _ _ G J K k3 M N=>
   refine .fn f l m xs ys j (fun i a x ha hx=>?_) q (fun i a x ha hx=>?_)
   ·grind
   ·grind
 |nilf=>exact .nilf|map b i o k=>
  cases h0 with
  |map _ B o' k'=>exact .map b i o (by rw[d b _ k'];exact k)
 |nilm=>exact .nilm|iface t v x _ n=>
  cases h0 with
  |iface _ _ x' h'=>exact .iface t v x (n h')
 |nili=>exact .nili|yld ks vs g nt ps as bo i tms pr db hF hp _ n=>
  cases h0 with
  |yld _ _ _ _ _ _ _ i0 r E A _ _ k0=>exact .yld ks vs g nt ps as bo i tms pr db hF hp fun k a ha=>n k a ha (k0 k a ha)
def BD.re {τ0:Tau}{x:w9}{o0 g:Nat}{y0 h:Blk}(h0:BD P U τ0 F0 o0 x y0)(h1:BD P U τ1 F1 g x h)(d:∀b p,τ0 b=some p->τ2 b=τ1 b):BD P U τ2 F1 g x h:=by
 cases x with
 |cells l e z=>obtain⟨k,n0,_,_,k0⟩:=h0;obtain⟨cs,n,m,q,k1⟩:=h1;refine⟨cs,n,m,q,fun j a ha=>?_⟩;obtain⟨x,hx,r⟩:=k1 j a ha;obtain⟨x0,_,c⟩:=k0 j a ha;exact⟨x,hx,c.re r d⟩
 |rows L e z ph=>exact h1|map L kt vt=>exact h1|iter s p=>exact h1
def H4 (P:Ax)(U:Ab)(x:w9):Prop:=∃L e z ph,x= .rows L e z ph/\L.toR U=[]/\z=(kf P e).length/\ph.toI U<=0
theorem SD.rebase {F:Ac}{s1 s2:SS}{hp:Hp}(hs:SD P U τ1 F s1 hp)(g:Nat->Nat)(h:∀b x,s2.get b=some x-> ∃x',s1.get (g b)=some x'/\τ2 b=τ1 (g b)/\(∀i o y,τ1 (g b)=some (some (i,o))->hp.m.get i=some y->BD P U τ1 F o x' y->BD P U τ2 F o x y)/\(H4 P U x'->H4 P U x))(k:∀b c x y,s2.get b=some x->s2.get c=some y->b≠c->g b≠g c)(hlt:∀b i o,τ2 b=some (some (i,o))->i<hp.nx)(hn:∀b,s2.nx<=b->τ2 b=none)(hf:FT U s2.fc)(hz:∀r∈s2.fz,AG P U τ2 F r):SD P U τ2 F s2 hp:=by
 refine⟨fun b x hb=>?_,fun b c x y i o j q hb hc a d e=>?_,hs.frz,hlt,hs.flt,hn,hf,hz⟩
 ·obtain⟨x',h1,h2,h3,h4⟩:=h b x hb;rcases hs.live _ _ h1 with⟨i,o,y,k1,k2,k3,p⟩| ⟨k1,k2⟩
  ·grind
  ·exact .inr ⟨by rw[h2];exact k1,h4 k2⟩
 ·obtain⟨x',h1,h2,_⟩:=h b x hb;obtain⟨n,k1,k2,_⟩:=h c y hc;rw[h2]at d;rw[k2]at e;exact hs.inj _ _ x' n i o j q h1 k1 (k b c x y hb hc a) d e
inductive G where
 |keep
 |any
 |int (k:IntKind)
 |bool
 |str
 |lst (t:Ay)
 |acc (e:Ay) (z:Nat)
 |clp (t:Ay)
 |itr (s:E)
 |cel (k:IntKind) (t:Ay)
 |mac (kt vt:Ay)
 |rwk (b:Nat) (e:Ay) (z:Nat) (ph:E)
 |pp (t:Ay)
def G.so :G->Bc So
 | .int _=>some .i| .bool=>some .b| .str=>some .s| .lst _=>some .l| .clp _=>some .l| .acc _ _=>some .l| .itr _=>some .i| .cel _ _=>some .i| .mac _ _=>some .l| .rwk _ _ _ _=>some .l| .pp _=>some .l|_=>none
def G.na :G->Nat
 | .acc _ _=>1| .itr _=>1| .cel _ _=>1| .mac _ _=>1|_=>0
def dI :SV->Cp
 | .nils=>.ge| .sl _ _ _ _ (.ex c)=>.ex c| .sl _ _ _ _ .ge=>.ge|_=>.un
def phOf (L:E):Cp->E
 | .ex c=>c| .ge=>A5 L| .un=>A5 L
def tv (g:G)(a:SV)(e:E)(b:Nat):SV:=match g with
 | .keep=>a| .any=>.any| .int k=>.int k e| .bool=>.bool e| .str=>.str e| .lst t=>.lst t e false| .clp t=>.lst t e true| .acc _ z=>.sl b z (.int 0) (A5 e) (dI a)| .itr _=>.ptr b 1 (.int 0) 0| .cel _ _=>.ptr b 1 (.int 0) 0| .mac _ _=>.map b| .rwk _ _ _ _=>.any| .pp t=>.pptr t e (.int 0) 0
def G.blk (g:G)(a:SV)(d:E):Bc w9:=match g with
 | .acc e z=>some (.rows d e z (phOf d (dI a)))| .itr s=>some (.iter s d)| .cel k t=>some (.cells [.int k d] t 1)| .mac kt vt=>some (.map d kt vt)|_=>none
def G.fix (g:G)(d:E):Bc (Nat×w9):=match g with
 | .rwk b e z ph=>some (b,.rows d e z ph)|_=>none
def hd1 :Av->E
 | []=>.int 0|e::_=>e
def tl1 :Av->Av
 | []=>[]
 |_::l=>l
def pop (g:G)(es:Av):Av:=match g.so with
 |some _=>tl1 es|none=>es
inductive At where
 |tmp (t:Nat)
 |cell (b j:Nat)
 |no
structure Pl where
 at_:At
 g:G
 a:SV
def Y9 :List Pl->Av->Nat->List (At×SV)
 | [],_,_=>[]
 |p::l,es,b=>(p.at_,tv p.g p.a (hd1 es) b)::Y9 l (pop p.g es) (b+p.g.na)
def du :List Pl->Av->Nat->List (Nat×Bc w9)
 | [],_,_=>[]
 |p::l,es,b=>match p.g.blk p.a (hd1 es)with
  |some X=>(b,some X)::du l (pop p.g es) (b+p.g.na)|none=>match p.g.fix (hd1 es)with
   |some q=>(q.1,some q.2)::du l (pop p.g es) (b+p.g.na)|none=>du l (pop p.g es) (b+p.g.na)
def kG (P:Ax)(U:Ab)(g:G)(v:SV):M SV:=match g with
 | .lst t=>c6 (uQ P U 20 (.sl t) v) fun e=>e8 (.lst t e false)
 | .clp t=>match v with
  | .lst t' L c=>bif c then e8 (.lst t' L c)else a7 "a list with room behind it"| .nils=>e8 (.lst t (.op .nil []) true)| .sl b z off len (.ex c)=>c6 (n5 U (I8 c len)) fun _=>c6 (uQ P U 20 (.sl t) (.sl b z off len (.ex c))) fun e=>e8 (.lst t e true)
  |_=>a7 "a slice with room behind it"
 | .acc e z=>match v with
  | .sl b z' off len cap=>c6 (uj P b) fun _=>e8 (.sl b z' off len cap)
  | .nils=>bif Nat.beq z (kf P e).length then c6 (gv (.rows (.op .nil []) e z (.int 0))) fun b=>e8 (.sl b z (.int 0) (.int 0) .ge)else a7 "loop: cells"
  |_=>a7 "loop: no slice"
 | .pp t=>match v with
  | .ptr b z (.int 0) 0=>o8 fun s=>match s.get b with
   |some (.cells _ _ _)=>c6 (uQ P U 20 (.sl t) (.sl b z (.int 0) (.int 1) (.ex (.int 1)))) fun e=>c6 (n5 U (I8 (A5 e) (.int 1))) fun _=>e8 (.pptr t e (.int 0) 0)
   |_=>e8 v
  |_=>e8 v
 |_=>e8 v
def norm (P:Ax)(U:Ab):List Pl->Au->M (Au)
 |p::l,v::vs=>c6 (kG P U p.g v) fun v'=>c6 (norm P U l vs) fun vs'=>e8 (v'::vs')
 | [],[]=>e8 []|_,_=>a7 "loop: places"
def svp :SV->SV->Bool
 | .ptr b z (.int m) f,.ptr b' z' (.int m') f'=>Nat.beq b b'&&Nat.beq z z'&&decide (m=m')&&Nat.beq f f'| .nilp,.nilp=>true| .nilf,.nilf=>true| .nilm,.nilm=>true| .nili,.nili=>true| .nils,.nils=>true| .map b,.map b'=>Nat.beq b b'| .int k (.int m),.int k' (.int m')=>decide (k=k')&&decide (m=m')|_,_=>false
def Fx :Au->Au->Bool
 | [],[]=>true|a::l,b::m=>svp a b&&Fx l m|_,_=>false
def svk (a v:SV):Bool:=svp a v||match a,v with
 | .fn f l m,.fn g l' m'=>decide (f=g)&&Fx l l'&&Fx m m'|_,_=>false
def Fw {a v:SV}(h:svp a v=true):a=v:=by
 unfold svp at h;split at h<;>first
  |rfl
  |cases h
  | (simp only[JM,KA,Kh]at h
     obtain⟨⟨⟨rfl,rfl⟩,rfl⟩,rfl⟩:=h;rfl)
  | (simp only[JM,Kh]at h
     obtain⟨rfl,rfl⟩:=h;rfl)
  | (rw[JQ h])
def sj :∀ {l m:Au},Fx l m=true->l=m
 | [],[],_=>rfl| [],_::_,h=>by cases h
 |_::_,[],h=>by cases h
 |a::l,b::m,h=>by unfold Fx at h;rw[JM]at h;rw[Fw h.1,sj h.2]
def Jt {a v:SV}(h:svk a v=true):a=v:=by
 unfold svk at h;rw[Lm]at h;rcases h with h|h
 ·exact Fw h
 ·split at h
  ·simp only[JM,Kh]at h;rw[h.1.1,sj h.1.2,sj h.2]
  ·cases h
def mt1 (U:Ab)(g:G)(a v:SV):M (Bc E×Ai):=match g with
 | .keep=>bif svk a v then e8 (none,none)else a7 "loop: a place that has changed"| .any=>e8 (none,none)| .int k=>match v with
  | .int k' e=>bif decide (k=k')then e8 (some e,none)else a7 "loop: kind"|_=>a7 "loop: no int"
 | .bool=>match v with
  | .bool e=>e8 (some e,none)|_=>a7 "loop: no bool"
 | .str=>match v with
  | .str e=>e8 (some e,none)|_=>a7 "loop: no string"
 | .lst t=>match v with
  | .lst t' L _=>bif Nat.beq t t' then e8 (some L,none)else a7 "loop: type"|_=>a7 "loop: no list"
 | .clp t=>match v with
  | .lst t' L c=>bif c&&Nat.beq t t' then e8 (some L,none)else a7 "loop: type"|_=>a7 "loop: no list"
 | .acc e z=>match v with
  | .sl b z' (.int m) len cap=>o8 fun s=>match s.get b with
   | some (.rows L e' z'' ph) => bif Nat.beq e e' && Nat.beq z z' && Nat.beq z z'' && decide (m = 0) then
     c6 (n5 U (z9 (A7 (A5 L) len))) fun _=>c6 (dT U L (.int 0) len) fun d=>match dI a,cap with
      | .un,.ge=>e8 (some d,some b)| .un,.un=>e8 (some d,some b)| .ge,.ge=>e8 (some d,some b)| .un,.ex c'=>c6 (n5 U (I8 c' len)) fun _=>c6 (n5 U (A7 len (.int 67108865))) fun _=>e8 (some d,some b)
      | .ex c,.ex c'=>c6 (n5 U (I8 c' c)) fun _=>c6 (n5 U (z9 (A7 ph c))) fun _=>e8 (some d,some b)
      |_,_=>a7 "loop: capacity"
    else a7 "loop: slice"
   |_=>a7 "loop: block"
  |_=>a7 "loop: no slice"
 | .itr s0=>match v with
  | .ptr b z (.int m) f=>o8 fun s=>match s.get b with
   |some (.iter s' pos)=>bif Nat.beq z 1&&decide (m=0)&&Nat.beq f 0 then c6 (n5 U (ii s' s0)) fun _=>e8 (some pos,some b)else a7 "loop: iterator"
   |_=>a7 "loop: block"
  |_=>a7 "loop: no iterator"
 | .cel k t=>match v with
  | .ptr b z (.int m) f=>o8 fun s=>match s.get b with
   |some (.cells [.int k' e] t' z')=>bif Nat.beq z 1&&decide (m=0)&&Nat.beq f 0&&Nat.beq z' 1&&Nat.beq t t'&&decide (k=k')then e8 (some e,some b)else a7 "loop: cell"|_=>a7 "loop: block"
  |_=>a7 "loop: no cell"
 | .mac kt vt=>match v with
  | .map b=>o8 fun s=>match s.get b with
   |some (.map L kt' vt')=>bif Nat.beq kt kt'&&Nat.beq vt vt' then e8 (some L,some b)else a7 "loop: map"|_=>a7 "loop: block"
  |_=>a7 "loop: no map"
 | .rwk b e z ph=>o8 fun s=>match s.get b with
  |some (.rows L e' z' ph')=>bif Nat.beq e e'&&Nat.beq z z' then c6 (n5 U (z9 (A7 ph' ph))) fun _=>e8 (some L,none)else a7 "loop: rows"
  |_=>a7 "loop: no rows"
 | .pp t=>match v with
  | .pptr t' L row 0=>bif Nat.beq t t' then e8 (some (.op .part [L,row,.int 1]),none)else a7 "pointer: type"|_=>a7 "no pointer to a value"
variable (U) in
def iy :So->E->E->Prop
 | .i,e,d=>e.toI U=d.toI U| .b,e,d=>(e.den U).toBool=(d.den U).toBool| .s,e,d=>(e.den U).toStr=(d.den U).toStr| .l,e,d=>e.toR U=d.toR U
variable {τ :Tau}{F:Ac}{s:SS}{hp:Hp}
variable (P U) in
def Cs (τ:Tau)(F:Ac)(s:SS)(so:So)(mk:E->Bc w9)(r:Bc E×Ai):Prop:=
 ∃b L x',r.2=some b/\r.1=some L/\s.get b=some x'/\ ∀d,iy U so L d-> ∃X,mk d=some X/\
  (∀(τ2:Tau) o y,BD P U τ F o x' y->BD P U τ2 F o X y)/\(H4 P U x'->H4 P U X)
variable (P U) in
def IH (τ:Tau)(F:Ac)(s:SS)(g:G)(r:Bc E×Ai):Prop:=
 ∀d0 p,g.fix d0=some p->g.so=some .l/\ ∃L x',r.1=some L/\s.get p.1=some x'/\ ∀d,iy U .l L d-> ∃X,g.fix d=some (p.1,X)/\
  (∀(τ2:Tau) o y,BD P U τ F o x' y->BD P U τ2 F o X y)/\(H4 P U x'->H4 P U X)
variable (P U) in
def MtOK (τ0:Tau)(τ:Tau)(F:Ac)(s:SS)(g:G)(a v:SV)(r:Bc E×Ai):Prop:=
 (∀so,g.so=some so-> ∃e,r.1=some e)/\(g.so=none->r.1=none)/\(g.na=0->r.2=none)/\
 (∀x,VD P U τ F v x-> ∀(τ2:Tau) (nb:Nat) (d:E),(∀b p,τ0 b=some p->τ2 b=τ b)->(∃F0 x0,VD P U τ0 F0 a x0)->(∀e so,r.1=some e->g.so=some so->iy U so e d)->(∀b,r.2=some b->τ2 nb=τ b)->VD P U τ2 F (tv g a d nb) x)/\
 (g.na≠0-> ∃so,g.so=some so/\Cs P U τ F s so (g.blk a) r)/\IH P U τ F s g r
theorem wS (τ0:Tau)(g:G)(a v:SV):OKp U (mt1 U g a v) s fun r=>∀s',s'.h=s.h->MtOK P U τ0 τ F s' g a v r:=by
 cases g with
 |keep=>
  simp only[mt1];cases h:svk a v with
  |false=>exact Mg|true=>have:=Jt h;subst this;exact Ml fun s' _=>⟨fun so h=>(by cases h),fun _=>rfl,fun _=>rfl,fun x hx τ2 nb d hk ⟨F0,x0,h0⟩ _ _=>h0.re hx hk,fun h=>absurd rfl h,fun A p h=>(by cases h)⟩
 |any=>simp only[mt1];exact Ml fun s' _=>⟨fun so h=>(by cases h),fun _=>rfl,fun _=>rfl,fun x hx τ2 nb d hk _ _ _=>.any x,fun h=>absurd rfl h,fun A p h=>(by cases h)⟩
 |int k=>
  simp only[mt1];split
  ·rename_i k' e;cases h:decide (k=k')with
   |false=>exact Mg|true=>
    rw[Kh]at h;subst h;refine Ml fun s' _=>⟨fun so h=>⟨e,rfl⟩,fun h=>(by cases h),fun _=>rfl,fun x hx τ2 nb d hk _ hd _=>?_,fun h=>absurd rfl h,fun A p h=>(by cases h)⟩
    have:=hd e .i rfl rfl;cases hx;show VD P U τ2 F (.int k d) _;rw[show e.toI U=d.toI U from this];exact .int k d
  ·exact Mg
 |bool=>
  simp only[mt1];split
  ·rename_i e;refine Ml fun s' _=>⟨fun so h=>⟨e,rfl⟩,fun h=>(by cases h),fun _=>rfl,fun x hx τ2 nb d hk _ hd _=>?_,fun h=>absurd rfl h,fun A p h=>(by cases h)⟩
   have:=hd e .b rfl rfl;cases hx;show VD P U τ2 F (.bool d) _;rw[show(e.den U).toBool=(d.den U).toBool from this];exact .bool d
  ·exact Mg
 |str=>
  simp only[mt1];split
  ·rename_i e;refine Ml fun s' _=>⟨fun so h=>⟨e,rfl⟩,fun h=>(by cases h),fun _=>rfl,fun x hx τ2 nb d hk _ hd _=>?_,fun h=>absurd rfl h,fun A p h=>(by cases h)⟩
   have:=hd e .s rfl rfl;cases hx;show VD P U τ2 F (.str d) _;rw[show(e.den U).toStr=(d.den U).toStr from this];exact .str d
  ·exact Mg
 |lst t=>
  simp only[mt1];split
  ·rename_i t' L clip;cases h:Nat.beq t t' with
   |false=>exact Mg|true=>
    have:=JQ h;subst this;refine Ml fun s' _=>⟨fun so h=>⟨L,rfl⟩,fun h=>(by cases h),fun _=>rfl,fun x hx τ2 nb d hk _ hd _=>?_,fun h=>absurd rfl h,fun A p h=>(by cases h)⟩
    have:=hd L .l rfl rfl;cases hx with
    |lst _ _ _ _ hp hc=>exact .lst t d false x (by rw[<-show L.toR U=d.toR U from this];exact hp) (fun h=>by cases h)
  ·exact Mg
 |clp t=>
  simp only[mt1];split
  ·rename_i t' L clip;cases h:clip&&Nat.beq t t' with
   |false=>exact Mg|true=>
    rw[JM]at h;obtain⟨rfl,h⟩:=h;have:=JQ h;subst this;refine Ml fun s' _=>⟨fun so h=>⟨L,rfl⟩,fun h=>(by cases h),fun _=>rfl,fun x hx τ2 nb d hk _ hd _=>?_,fun h=>absurd rfl h,fun A p h=>(by cases h)⟩
    have:=hd L .l rfl rfl;cases hx with
    |lst _ _ _ _ hp hc=>exact .lst t d true x (by rw[<-show L.toR U=d.toR U from this];exact hp) hc
  ·exact Mg
 |itr s0=>
  simp only[mt1];split
  ·rename_i b z m f;refine Mk ?_;split
   ·rename_i s' pos hb;cases hc:Nat.beq z 1&&decide (m=0)&&Nat.beq f 0 with
    |false=>exact Mg|true=>
     simp only[JM,KA,Kh]at hc;obtain⟨⟨rfl,rfl⟩,rfl⟩:=hc;refine OKp.need.bind fun _ s1 o1 _ n1=>Ml fun s2 B=>?_;have ab:(s'.den U).toStr=(s0.den U).toStr:=by have:=(LV U _).1 n1;rw[Q7]at this;grind
     refine⟨fun so h=>⟨pos,rfl⟩,fun h=>(by cases h),fun h=>(by cases h),fun x hx τ2 nb d hk _ hd q=>?_,fun _=>⟨.i,rfl,b,pos,.iter s' pos,rfl,rfl,by unfold SS.get;rw[B];exact hb,fun d hd=>⟨_,rfl,?_,?_⟩⟩,fun A p h=>(by cases h)⟩
     ·cases hx with
      |ptr _ _ _ _ i o h h0=>exact .ptr nb 1 (.int 0) 0 i o (by rw[q b rfl];exact h) h0
     ·rintro τ2 o y ⟨e0,n,M,N⟩;exact⟨e0,n,by rw[<-ab];exact M,by rw[<-N];exact hd.symm⟩
     ·rintro ⟨L,e,z,ph,h,_⟩;cases h
   ·exact Mg
  ·exact Mg
 |mac kt vt=>
  simp only[mt1];split
  ·rename_i b;refine Mk ?_;split
   ·rename_i L ai aj hb;cases hc:Nat.beq kt ai&&Nat.beq vt aj with
    |false=>exact Mg|true=>
     simp only[JM,KA]at hc;obtain⟨rfl,rfl⟩:=hc;refine Ml fun s2 B=>?_;refine⟨fun so h=>⟨L,rfl⟩,fun h=>(by cases h),fun h=>(by cases h),fun x hx τ2 nb d hk _ hd q=>?_,fun _=>⟨.l,rfl,b,L,.map L kt vt,rfl,rfl,by unfold SS.get;rw[B];exact hb,fun d hd=>⟨_,rfl,?_,?_⟩⟩,fun A p h=>(by cases h)⟩
     ·cases hx with
      |map _ i o h=>exact .map nb i o (by rw[q b rfl];exact h)
     ·rintro τ2 o y ⟨h0,es,reg,h1,h2⟩;exact⟨h0,es,reg,h1,by rw[<-show L.toR U=d.toR U from hd];exact h2⟩
     ·rintro ⟨L,e,z,ph,h,_⟩;cases h
   ·exact Mg
  ·exact Mg
 |cel k t=>
  simp only[mt1];split
  ·rename_i b z m f;refine Mk ?_;split
   ·rename_i k' e t' W hb;cases hc:Nat.beq z 1&&decide (m=0)&&Nat.beq f 0&&Nat.beq W 1&&Nat.beq t t'&&decide (k=k')with
    |false=>exact Mg|true=>
     simp only[JM,KA,Kh]at hc;obtain⟨⟨⟨⟨⟨rfl,rfl⟩,rfl⟩,rfl⟩,rfl⟩,rfl⟩:=hc;refine Ml fun s2 B=>?_;refine⟨fun so h=>⟨e,rfl⟩,fun h=>(by cases h),fun h=>(by cases h),fun x hx τ2 nb d hk _ hd q=>?_,fun _=>⟨.i,rfl,b,e,.cells [.int k e] t 1,rfl,rfl,by unfold SS.get;rw[B];exact hb,fun d hd=>⟨_,rfl,?_,?_⟩⟩,fun A p h=>(by cases h)⟩
     ·cases hx with
      |ptr _ _ _ _ i o h h0=>exact .ptr nb 1 (.int 0) 0 i o (by rw[q b rfl];exact h) h0
     ·rintro τ2 o y ⟨cs,n,e0,M,N⟩;refine⟨cs,n,e0,M,fun j a ha=>?_⟩;have hj:j=0:=by grind
      subst hj;obtain⟨x,h1,h2⟩:=N 0 (.int k e) rfl;simp at ha;subst ha;refine⟨x,h1,?_⟩;cases h2;rw[show e.toI U=d.toI U from hd];exact .int k d
     ·rintro ⟨L,e,z,ph,h,_⟩;cases h
   ·exact Mg
  ·exact Mg
 |pp t=>
  simp only[mt1];split
  ·rename_i t' L row;cases h:Nat.beq t t' with
   |false=>exact Mg|true=>
    have:=JQ h;subst this;refine Ml fun s' _=>⟨fun so h=>⟨_,rfl⟩,fun h=>(by cases h),fun _=>rfl,fun x hx τ2 nb d hk _ hd _=>?_,fun h=>absurd rfl h,fun A p h=>(by cases h)⟩
    have hd:=hd _ .l rfl rfl;have hd:part (L.toR U) (row.toI U) 1=d.toR U:=hd;cases hx with
    |pptr _ _ _ _ i o l c hp h0 h1=>
     generalize ah:L.toR U=rows at hp h1 hd;cases hp with
     |sl _ _ _ _ b cs n z rows xx hF hb hc hn hz hr hx ae=>
      have u:kh (1:Int).toNat c/\roC b c _ z:=⟨by
       rcases hc.1 with⟨q1,q2⟩| ⟨lo,q1,q2,q3⟩
       ·exact .inl ⟨q1,by have:(1:Int).toNat=1:=rfl;omega⟩
       ·exact .inr ⟨lo,q1,q2,by have:(1:Int).toNat=1:=rfl;omega⟩,hc.2⟩
      have:=PV.cut (P:=P) (F:=F) hF hb hn hz hr hx ae h0 (show(0:Int)<=1 by omega) (by omega) u;rw[hd]at this;have X:((d.toR U).length:Int)=1:=by rw[<-hd,S7 h0 (by omega) (by omega)];rfl
      exact VD.pptr' (row:= .int 0) this (KZ 0) (by rw[E1];omega) (by rw[<-hz];show _=o+(row.toI U).toNat*z+(0:Int).toNat*z+0;simp)
  ·exact Mg
 |rwk b e z ph=>
  simp only[mt1];refine Mk ?_;split
  ·rename_i L e' W K hb;cases hc:Nat.beq e e'&&Nat.beq z W with
   |false=>exact Mg|true=>
    simp only[JM,KA]at hc;obtain⟨rfl,rfl⟩:=hc;rw[Kc];refine OKp.need.bind fun _ s1 o1 _ n1=>Ml fun s' V=>?_;have J:=J0 n1;refine⟨fun so h=>⟨L,rfl⟩,fun h=>(by cases h),fun _=>rfl,fun x hx τ2 nb d hk _ _ _=>.any x,fun h=>absurd rfl h,fun A p h=>⟨rfl,L,.rows L e z K,rfl,?_,fun d hd=>⟨.rows d e z ph,?_,?_,?_⟩⟩⟩
    ·simp only[G.fix,JL]at h;subst h;unfold SS.get;rw[V];exact hb
    ·simp only[G.fix,JL]at h;subst h;rfl
    ·rintro τ2 o y ⟨cs,n,h1,h2,h3⟩;have C:L.toR U=d.toR U:=hd;refine⟨cs,n,h1,by rw[<-C];exact h2,?_⟩;have:ph.toN U<=K.toN U:=by show(ph.toI U).toNat<=(K.toI U).toNat;omega
     have:=JY z this;omega
    ·rintro ⟨L',e',W,ap,h1,h2,h3,h4⟩;have C:L.toR U=d.toR U:=hd;cases h1;exact⟨d,e,z,ph,rfl,by rw[<-C];exact h2,h3,by omega⟩
  ·exact Mg
 |acc e z=>
  simp only [mt1];split
  ·rename_i b W m len cap;refine Mk ?_;split
   ·rename_i L e' ak ph hb;cases hc:Nat.beq e e'&&Nat.beq z W&&Nat.beq z ak&&decide (m=0)with
    |false=>exact Mg|true=>
     simp only[JM,KA,Kh]at hc;obtain⟨⟨⟨rfl,rfl⟩,rfl⟩,rfl⟩:=hc;rw[Kc];refine OKp.need.bind fun _ s1 o1 _ n1=>E5.bind fun D s2 o2 _ hD=>?_;have ao:len.toI U<=((L.toR U).length:Int):=by have:=J0 n1;rwa[i4]at this
     have aa:D.toR U=(L.toR U).take (len.toN U):=by show(D.den U).rows=_;rw[hD];show part (L.toR U) 0 (len.toI U)=_;unfold part;simp
     have key:∀(u:∀(c:Nat) (n:E),n.toI U=len.toI U->qP U len cap c->qP U n (dI a) c) (R:∀c,dI a= .ex c-> ∃c',cap= .ex c'/\c'.toI U=c.toI U)
       (J:∀c,dI a= .ex c->c.toI U<=ph.toI U) (s':SS),s'.h=s.h->MtOK P U τ0 τ F s' (.acc e z) a (.sl b z (.int 0) len cap) (some D,some b):=by
      intro u R J s' V;have Y:∀ {d:E},iy U .l D d->d.toR U=(L.toR U).take (len.toN U):=fun h=>by rw[<-aa];exact h.symm
      refine⟨fun so _=>⟨D,rfl⟩,fun h=>(by cases h),fun h=>(by cases h),fun x hx τ2 nb d hk _ hd q=>?_,fun _=>⟨.l,rfl,?_⟩,fun A p h=>(by cases h)⟩
      ·have C:=Y (hd D .l rfl rfl);have Z:=q b rfl;have al:0<=len.toI U:=by cases hx<;>omega
       have X:(A5 d).toI U=len.toI U:=by rw[i4,C,Kv];grind
       have ad:(A5 d).toN U=len.toN U:=by grind
       cases hx with
       |sl _ _ _ _ _ i o c k1 k2 k3 k4=>show VD P U τ2 F (.sl nb z (.int 0) (A5 d) (dI a)) _;rw[<-ad];exact .sl nb z (.int 0) (A5 d) (dI a) i o c (by rw[Z];exact k1) (KZ 0) (by omega) (u c _ X k4)|sl0 _ _ _ _ _ k1 k2 k3 k4=>refine .sl0 nb z (.int 0) (A5 d) (dI a) (by rw[Z];exact k1) rfl (by omega) fun c hc=>?_;grind
      ·refine⟨b,D,.rows L e z ph,rfl,rfl,by unfold SS.get;rw[V];exact hb,fun d hd=>⟨_,rfl,?_⟩⟩;have C:=Y hd;have T:(d.toR U).length<=(L.toR U).length:=by grind
       constructor
       ·rintro τ2 o y ⟨cs,n,h1,⟨h2,h3,h4,h5⟩,h6⟩;refine⟨cs,n,h1,⟨?_,h3,fun r hr=>h4 r ?_,fun r k row dd hr ac=>h5 r k row dd ?_ ac⟩,?_⟩
        ·have:=JY z T;omega
        ·grind
        ·grind
        ·cases O:dI a with
         |ge=>
          have:(phOf d .ge).toN U=(d.toR U).length:=by show((A5 d).toI U).toNat=_;rw[i4];omega
          rw[this];have:=JY z T;omega
         |un=>
          have:(phOf d .un).toN U=(d.toR U).length:=by show((A5 d).toI U).toNat=_;rw[i4];omega
          rw[this];have:=JY z T;omega
         |ex c=>
          have h7:=J c O;have:(phOf d (.ex c)).toN U<=ph.toN U:=by show(c.toI U).toNat<=(ph.toI U).toNat;omega
          have:=JY z this;omega
       ·rintro ⟨L',e',W,K,h1,h2,h3,h4⟩;cases h1;refine⟨d,e,z,_,rfl,by rw[C,h2];simp,h3,?_⟩;cases O:dI a with
        |ge=>show(A5 d).toI U<=0;rw[i4,C,h2];simp|un=>show(A5 d).toI U<=0;rw[i4,C,h2];simp|ex c=>have h7:=J c O;show c.toI U<=0;omega
     split
     ·rename_i ha;refine Ml (key (fun c n hn hc=>?_) (fun c hc=>by rw[ha]at hc;cases hc) (fun c hc=>by rw[ha]at hc;cases hc));rw[ha];obtain⟨lo,h1,h2,h3⟩:=hc;exact Or.inr ⟨lo,h1,h2,by omega⟩
     ·rename_i ha;refine Ml (key (fun c n hn hc=>?_) (fun c hc=>by rw[ha]at hc;cases hc) (fun c hc=>by rw[ha]at hc;cases hc));rw[ha];rcases hc with⟨h1,h2,h3⟩| ⟨lo,h1,h2,h3⟩
      ·exact Or.inl ⟨h1,by rw[h2];show(len.toI U).toNat=(n.toI U).toNat;rw[hn],by omega⟩
      ·exact Or.inr ⟨lo,h1,h2,by omega⟩
     ·rename_i ha;refine Ml (key (fun c n hn hc=>?_) (fun c hc=>by rw[ha]at hc;cases hc) (fun c hc=>by rw[ha]at hc;cases hc));rw[ha];obtain⟨lo,h1,h2,h3⟩:=hc;exact⟨lo,h1,h2,by omega⟩
     ·rename_i c' ha;refine OKp.need.bind fun _ s3 _ _ n2=>OKp.need.bind fun _ s4 _ _ n3=>?_;have M:=cu n2;have N:=H8 n3;simp only[E1]at N;refine Ml (key (fun k n hn hc=>?_) (fun c hc=>by rw[ha]at hc;cases hc) (fun c hc=>by rw[ha]at hc;cases hc));rw[ha];obtain⟨h1,h2,h3,h4⟩:=hc;exact Or.inl ⟨h3,by rw[h2];show(c'.toI U).toNat=(n.toI U).toNat;rw[M,hn],by omega⟩
     ·rename_i c c' ha;refine OKp.need.bind fun _ s3 _ _ n2=>OKp.need.bind fun _ s4 _ _ n3=>?_;have M:=cu n2;have N:=J0 n3;refine Ml (key (fun k n hn hc=>?_) (fun c2 hc=>?_) (fun c2 hc=>?_))
      ·rw[ha];obtain⟨h1,h2,h3,h4⟩:=hc;exact⟨by omega,by rw[h2];show(c'.toI U).toNat=(c.toI U).toNat;rw[M],h3,by omega⟩
      ·rw[ha]at hc;cases hc;exact⟨c',rfl,M⟩
      ·rw[ha]at hc;cases hc;exact N
     ·exact Mg
   ·exact Mg
  ·exact Mg
end
end Go.Sx
namespace Go.Sx
open Go.Xe
section
variable {P :Ax}{U:Ab}
variable {F:Ac}
def PV.lst_eq {e:Ay}{v:Aw}{d:Dat}(h:PV P F (.sl e) v d):d= .lst d.rows:=by cases h<;>rfl
theorem mR {τ:Tau}{s:SS}{hp:Hp}(g:G){v:SV}{x:Aw}(a:VD P U τ F v x)(hs:SD P U τ F s hp):OKh P U (kG P U g v) τ F s hp fun v' τ' F' hp'=>hp'=hp/\VD P U τ' F' v' x:=by
 cases g with
 |lst t=>simp only[kG];refine(eU 20 (.sl t) v x τ F s hp a hs).bind fun e τ1 F1 s1 hp1 _ hs1 ⟨h1,h2,h3⟩=>Mf ⟨h2,?_⟩;have:=h3.lst_eq;rw[this]at h3;exact .lst t e false x h3 (fun h=>by cases h)
 |clp t=>
  simp only[kG];split
  ·rename_i t' L c;cases c with
   |false=>exact Md|true=>exact Mf ⟨rfl,a⟩
  ·cases a;exact Mf ⟨rfl,.lst t _ true _ (.nils t) (fun _=>⟨_,_,rfl⟩)⟩
  ·rename_i b z off len c;refine Mb Mh fun _ s1 r hs1 p1=>?_;have p1:=cu p1;refine(eU 20 (.sl t) _ x τ F s1 hp a hs1).bind fun e τ1 F1 s2 hp1 _ d ⟨h1,h2,h3⟩=>Mf ⟨h2,?_⟩;have:=h3.lst_eq;rw[this]at h3;refine .lst t e true x h3 (fun _=>?_);cases a with
   |sl _ _ _ _ _ i o c' k1 k2 k3 n=>obtain⟨q1,q2,y,A⟩:=n;grind
   |sl0=>grind
  ·exact Md
 |acc e z=>
  simp only[kG];split
  ·rename_i b q off len cap;refine(mP hs).bind fun _ τ1 F1 s1 hp1 _ hs1 ⟨h1,h2,h3⟩=>Mf ⟨h3,?_⟩;grind
  ·cases hz:Nat.beq z (kf P e).length with
   |false=>exact Md|true=>
    rw[Kc];have m:=JQ hz;refine OKh.bind (R:=fun b τ' F' hp'=>hp'=hp/\τ' b=some none) ?_ fun b τ1 F1 s1 hp1 _ hs1 ⟨h1,h2⟩=>Mf ⟨h1,?_⟩
    ·intro Q hq _;obtain⟨h1,h2⟩:=hs.alloc (x:= .rows (.op .nil []) e z (.int 0)) (p:=none) (hp':=hp) (Kj _) (fun _ _=>rfl) (.inr ⟨rfl,_,_,_,_,rfl,rfl,m,KZ 0⟩);exact⟨s.nx,_,hq,_,F,hp,h1,h2,rfl,o9 _ _ _⟩
    ·cases a;exact .sl0 b z (.int 0) (.int 0) .ge h2 rfl rfl (fun e h=>by cases h)
  ·exact Md
 |keep=>exact Mf ⟨rfl,a⟩|any=>exact Mf ⟨rfl,a⟩|int k=>exact Mf ⟨rfl,a⟩|bool=>exact Mf ⟨rfl,a⟩|str=>exact Mf ⟨rfl,a⟩|itr s=>exact Mf ⟨rfl,a⟩|cel k t=>exact Mf ⟨rfl,a⟩|mac kt vt=>exact Mf ⟨rfl,a⟩|rwk b e z ph=>exact Mf ⟨rfl,a⟩|pp t=>
  simp only[kG];split
  ·rename_i b z;refine Me ?_;split
   ·rename_i l e q hb;cases a with
    |ptr _ _ _ _ i o h h0=>
     have j:VD P U τ F (.sl b z (.int 0) (.int 1) (.ex (.int 1))) (.slice (some ⟨i,o+(E.int 0).toN U*z,none⟩) ((E.int 1).toN U) 1):=
      .sl b z (.int 0) (.int 1) (.ex (.int 1)) i o 1 h (KZ 0) (by rw[E1];omega) ⟨by rw[E1];omega,rfl,by unfold unk;omega,KZ _⟩
     refine(eU 20 (.sl t) _ _ τ F s hp j hs).bind fun e τ1 F1 s1 hp1 _ hs1 ⟨h1,h2,h3⟩=>Mb Mh fun _ s2 u d p1=>Mf ⟨h2,?_⟩;have p1:=cu p1;rw[i4,E1]at p1;have:=h3.lst_eq;rw[this]at h3;exact VD.pptr' (row:= .int 0) h3 (KZ 0) (by rw[E1];show(0:Int)<(e.toR U).length;omega) (by show o+(0:Int).toNat*z+0=o+(0:Int).toNat*z+(0:Int).toNat*_+0;simp)
   ·exact Mf ⟨rfl,a⟩
  ·exact Mf ⟨rfl,a⟩
def rE :∀(ps:List Pl) (vs:Au) (xs:Af) (τ:Tau) (F:Ac) (s:SS) (hp:Hp),VDL P U τ F vs xs->SD P U τ F s hp->OKh P U (norm P U ps vs) τ F s hp fun d τ' F' hp'=>hp'=hp/\VDL P U τ' F' d xs
 | [],[],xs,τ,F,s,hp,c,hs=>Mf ⟨rfl,c⟩| [],v::vs,xs,τ,F,s,hp,c,hs=>Md|p::ps,[],xs,τ,F,s,hp,c,hs=>Md|p::ps,v::vs,xs,τ,F,s,hp,c,hs=>by obtain⟨y,ys,rfl,h1,h2⟩:=c.uncons;unfold norm;refine(mR p.g h1 hs).bind fun v' τ1 F1 s1 hp1 ex hs1 ⟨e,h⟩=>(rE ps vs ys τ1 F1 s1 hp1 (h2.mono ex.t ex.f) hs1).bind fun d τ2 k s2 hp2 a j ⟨k1,k2⟩=>Mf ⟨by rw[k1,e],.cons (h.mono a.t a.f) k2⟩
def O9 {α:Type}:Bc α->List α->List α
 |some a,l=>a::l|none,l=>l
def mtP (U:Ab):List Pl->Au->M (Av×Ah)
 |p::l,v::vs=>c6 (mt1 U p.g p.a v) fun r=>c6 (mtP U l vs) fun t=>e8 (O9 r.1 t.1,O9 r.2 t.2)
 | [],[]=>e8 ([],[])|_,_=>a7 "loop: places"
def sos :List Pl->List So
 | []=>[]
 |p::l=>O9 p.g.so (sos l)
def rbs :List Pl->Ah
 | []=>[]
 |p::l=>match p.g.fix (.int 0)with
  |some q=>q.1::rbs l|none=>rbs l
def G.fix_num {g:G}{d:E}{q:Nat×w9}(h:g.fix d=some q)(a:E):∃X,g.fix a=some (q.1,X):=by
 cases g with
 |rwk b e z ph=>simp only[G.fix,JL]at h;subst h;exact⟨_,rfl⟩|_=>cases h
variable (U) in
def bE :List So->Av->Av->Prop
 |k::ks,e::es,d::ds=>iy U k e d/\bE ks es ds| [],[],[]=>True|_,_,_=>False
variable (P U) in
def df (τ0 τ:Tau)(F:Ac)(s:SS):List Pl->Au->Av->Ah->Prop
 | [],[],es,bs=>es=[]/\bs=[]
 |p::l,v::vs,es,bs=>∃r es' bs',es=O9 r.1 es'/\bs=O9 r.2 bs'/\MtOK P U τ0 τ F s p.g p.a v r/\df τ0 τ F s l vs es' bs'|_,_,_,_=>False
def wU {τ:Tau}{F:Ac}(τ0:Tau):∀(ps:List Pl) (vs:Au) (s:SS),OKp U (mtP U ps vs) s fun r=>∀s',s'.h=s.h->df P U τ0 τ F s' ps vs r.1 r.2
 | [],[],s=>Ml fun _ _=>⟨rfl,rfl⟩
 | [],_::_,s=>Mg|_::_,[],s=>Mg|p::ps,v::vs,s=>by unfold mtP;refine(wS (P:=P) (τ:=τ) (F:=F) τ0 p.g p.a v).bind fun r s1 d _ h1=>(wU (τ:=τ) (F:=F) τ0 ps vs s1).bind fun t s2 e _ h2=>Ml fun s' c=>?_;exact⟨r,t.1,t.2,rfl,rfl,h1 s' c,h2 s' (by rw[c,d.h])⟩
section
variable {τ0 τ:Tau}{F:Ac}{s:SS}
def G.blk_none {g:G}(h:g.na=0)(a:SV)(d:E):g.blk a d=none:=by
 cases g with
 |acc e z=>cases h
 |itr s=>cases h
 |cel k t=>cases h
 |mac kt vt=>cases h
 |_=>rfl
def G.na_le (g:G):g.na=0\/g.na=1:=by cases g<;>simp[G.na]
theorem uk {p:Pl}{ps:List Pl}{v:SV}{r:Bc E×Ai}{j:Av}{ds:Av}(h:MtOK P U τ0 τ F s p.g p.a v r)(hd:bE U (sos (p::ps)) (O9 r.1 j) ds):(∀e so,r.1=some e->p.g.so=some so->iy U so e (hd1 ds))/\bE U (sos ps) j (pop p.g ds)/\(∀b,r.2=some b->p.g.na=1)/\(p.g.na=0\/p.g.na=1):=by
 obtain⟨m,m2,m3,m4,m5⟩:=h;have k:p.g.na=0\/p.g.na=1:=p.g.na_le;refine⟨?_,?_,fun b hb=>?_,k⟩
 ·intro e so he c;unfold sos at hd;rw[c,he]at hd;cases ds with
  |nil=>exact hd.elim|cons d ds=>exact hd.1
 ·unfold sos at hd;cases c:p.g.so with
  |none=>rw[c,m2 c]at hd;unfold pop;rw[c];exact hd|some so=>
   obtain⟨e,he⟩:=m so c;rw[c,he]at hd;cases ds with
   |nil=>exact hd.elim|cons d ds=>unfold pop;rw[c];exact hd.2
 ·grind
theorem df.vals :∀ {ps:List Pl} {vs:Au} {es:Av} {bs:Ah} {ds:Av} {xs:Af} {τ2:Tau} {nb:Nat},df P U τ0 τ F s ps vs es bs->bE U (sos ps) es ds->(∀b p,τ0 b=some p->τ2 b=τ b)->(∀k b,bs[k]? =some b->τ2 (nb+k)=τ b)->(∀p∈ps,∃F0 x0,VD P U τ0 F0 p.a x0)->VDL P U τ F vs xs-> ∀(i:Nat) q x,(Y9 ps ds nb)[i]? =some q->xs[i]? =some x->VD P U τ2 F q.2 x
 | [],vs,es,bs,ds,xs,τ2,nb,h,hd,hk,hb,ha,hx=>fun i q x hq _=>by simp[Y9]at hq
 |p::ps,[],es,bs,ds,xs,τ2,nb,h,hd,hk,hb,ha,hx=>h.elim|p::ps,v::vs,es,bs,ds,xs,τ2,nb,h,hd,hk,hb,ha,hx=>by
  obtain⟨r,j,g,rfl,rfl,hm,e⟩:=h;obtain⟨y,ys,rfl,h1,h2⟩:=hx.uncons;obtain⟨s1,s2,n,m⟩:=uk hm hd;intro i q x hq c;cases i with
  |zero=>simp only[Y9,Kb,JL]at hq c;subst hq;subst c;refine hm.2.2.2.1 y h1 τ2 nb (hd1 ds) hk (ha p (by simp)) s1 fun b hr=>?_;have:=hb 0 b (by rw[hr];rfl);grind
  |succ i=>
   simp only[Y9,JW]at hq c;refine df.vals e s2 hk (fun k b d=>?_) (fun p hp=>ha p (by simp[hp])) h2 i q x hq c;rcases m with h0|h0
   ·rw[h0,Lb];have hr:r.2=none:=hm.2.2.1 h0;rw[hr]at hb;exact hb k b d
   ·obtain⟨so,_,b',L,x',hr,_⟩:=hm.2.2.2.2.1 (by omega);rw[hr]at hb;have:=hb (k+1) b d;grind
theorem df.blks :∀ {ps:List Pl} {vs:Au} {es:Av} {bs:Ah} {ds:Av} {nb:Nat},df P U τ0 τ F s ps vs es bs->bE U (sos ps) es ds-> ∀b' y,lk (du ps ds nb) b'=some y->(∃k b X x',b'=nb+k/\bs[k]? =some b/\y=some X/\s.get b=some x'/\(∀(τ2:Tau) o z,BD P U τ F o x' z->BD P U τ2 F o X z)/\(H4 P U x'->H4 P U X))\/(∃X x',b'∈rbs ps/\y=some X/\s.get b'=some x'/\(∀(τ2:Tau) o z,BD P U τ F o x' z->BD P U τ2 F o X z)/\(H4 P U x'->H4 P U X))
 | [],vs,es,bs,ds,nb,h,hd=>fun b' y hy=>by simp[du,lk]at hy
 |p::ps,[],es,bs,ds,nb,h,hd=>h.elim|p::ps,v::vs,es,bs,ds,nb,h,hd=>by
  obtain⟨r,J,D,rfl,rfl,hm,t⟩:=h;obtain⟨s1,s2,V,R⟩:=uk hm hd;intro b' y hy;have A:=df.blks (nb:=nb+p.g.na) t s2;have sub:∀b,b∈rbs ps->b∈rbs (p::ps):=fun b hb=>by unfold rbs;grind
  by_cases a:p.g.na=0
  ·have hr:r.2=none:=hm.2.2.1 a;cases c:p.g.fix (hd1 ds)with
   |none=>
    unfold du at hy;rw[G.blk_none a]at hy;simp only[c]at hy;rcases A b' y hy with⟨k,b,X,x',h1,h2⟩| ⟨X,x',h1,h2⟩
    ·exact Or.inl ⟨k,b,X,x',by rw[h1,a,Lb],by rw[hr];exact h2⟩
    ·grind
   |some q=>
    unfold du at hy;rw[G.blk_none a]at hy;simp only[c]at hy;rw[p8]at hy;split at hy
    ·rename_i m;obtain⟨e,L,x',k1,k2,k3⟩:=hm.2.2.2.2.2 _ _ c;obtain⟨X,B,M,N⟩:=k3 (hd1 ds) (s1 L .l k1 e);rw[c]at B;simp only[JL]at B;simp only[JL]at hy;have O:q.2=X:=by rw[B]
     rw[O]at hy;subst m;refine .inr ⟨X,x',?_,hy.symm,k2,M,N⟩;obtain⟨C,K⟩:=G.fix_num c (.int 0);unfold rbs;grind
    ·rcases A b' y hy with⟨k,b,X,x',h1,h2⟩| ⟨X,x',h1,h2⟩
     ·exact Or.inl ⟨k,b,X,x',by rw[h1,a,Lb],by rw[hr];exact h2⟩
     ·grind
  ·have u:p.g.na=1:=R.resolve_left a;obtain⟨so,e,b0,L,x',hr,x,hx,n⟩:=hm.2.2.2.2.1 a;obtain⟨C,T,k1,k2⟩:=n (hd1 ds) (s1 L so x e);have d:lk ((nb,some C)::du ps (pop p.g ds) (nb+p.g.na)) b'=some y:=by unfold du at hy;grind
   rw[p8]at d;split at d
   ·rename_i m;simp only[JL]at d;exact .inl ⟨0,b0,_,x',m.symm,by rw[hr];rfl,d.symm,hx,k1,k2⟩
   ·rcases A b' y d with⟨k,b,X,j,h1,h2,h3⟩| ⟨X,j,h1,h2⟩
    ·exact .inl ⟨k+1,b,X,j,by rw[h1,u];omega,by rw[hr];exact h2,h3⟩
    ·grind
theorem gV {b:Nat}:∀ {ps:List Pl} {ds:Av} {nb:Nat},b∈rbs ps->b∈(du ps ds nb).map Prod.fst
 | [],ds,nb,h=>by simp[rbs]at h|p::ps,ds,nb,h=>by
  unfold rbs at h;cases c:p.g.fix (.int 0)with
  |none=>rw[c]at h;have k:=gV (ds:=pop p.g ds) (nb:=nb+p.g.na) h;unfold du;grind|some q=>
   rw[c]at h;have hb:p.g.blk p.a (hd1 ds)=none:=by
    cases j:p.g with
    |rwk b e z ph=>rfl|_=>rw[j]at c;cases c
   obtain⟨X,d⟩:=G.fix_num c (hd1 ds);unfold du;rw[hb,d];simp only[KM,Ky]at h⊢;rcases h with h|h
   ·grind
   ·exact .inr (gV (ds:=pop p.g ds) (nb:=nb+p.g.na) h)
end
end
end Go.Sx
namespace Go.Sx
open Go.Xe
def nR :List (At×SV)->Fm
 | []=>[]
 | (p,v)::l=>match p with
  | .tmp t=>(t,v)::nR l| .cell _ _=>nR l| .no=>nR l
def wI (b j:Nat):At->Bool
 | .tmp _=>false| .cell b' j'=>Nat.beq b b'&&Nat.beq j j'| .no=>false
def jc :List (At×SV)->Nat->Nat->SV
 | [],_,_=>.any| (p,v)::l,b,j=>bif wI b j p then v else jc l b j
def J7 (pv:List (At×SV))(b:Nat):Nat->Nat->Au
 |_,0=>[]
 |j,n+1=>jc pv b j::J7 pv b (j+1) n
def ovB (s1:SS)(pv:List (At×SV)):Ah->List (Nat×Bc w9)
 | []=>[]
 |b::l=>match s1.get b with
  |some (.cells c e z)=>(b,some (.cells (J7 pv b 0 c.length) e z))::ovB s1 pv l|_=>ovB s1 pv l
def S6 :Ah->List (Nat×Bc w9)
 | []=>[]
 |b::l=>(b,none)::S6 l
def um :List Pl->Nat
 | []=>0|p::l=>p.g.na+um l
def dx (ps:List Pl)(ds:Av)(s1:SS)(bs0 kill:Ah):List (Nat×Bc w9):=du ps ds s1.nx++(ovB s1 (Y9 ps ds s1.nx) bs0++S6 (kill++(bs0++(rbs ps++ [s1.nx]))))
def sT (ps:List Pl)(ds:Av)(s1:SS)(bs0 kill:Ah):SS:= {s1 with h:=dx ps ds s1 bs0 kill++s1.h,nx:=s1.nx+um ps}
def fT (ps:List Pl)(ds:Av)(s1:SS)(f0:Fm):Fm:=nR (Y9 ps ds s1.nx)++f0
theorem K9 {α:Type}(l m:List (Nat×α))(b:Nat):lk (l++m) b=match lk l b with|some x=>some x|none=>lk m b:=by
 induction l with
 |nil=>rfl|cons p l a=>obtain⟨k,x⟩:=p;rw[KX,p8,p8];grind
def rm {α:Type}{b:Nat}:∀ {l:List (Nat×α)},lk l b=none->b∉l.map Prod.fst
 | [],_=>by simp| (k,y)::l,h=>by
  rw[p8]at h;split at h
  ·cases h
  ·rename_i e;simp only[KM,Ky,not_or];exact⟨fun h=>e h.symm,rm h⟩
theorem O6 {b:Nat}:∀ {l:Ah},lk (S6 l) b=if b∈l then some none else none
 | []=>by simp[S6,lk]|k::l=>by rw[S6,p8,O6];grind
def fK (pv:List (At×SV))(b:Nat):∀(n j:Nat),(J7 pv b j n).length=n
 |0,_=>rfl|n+1,j=>by simp[J7,fK pv b n]
theorem mi (pv:List (At×SV))(b:Nat):∀(n j i:Nat) (a:SV),(J7 pv b j n)[i]? =some a->i<n/\a=jc pv b (j+i)
 |0,j,i,a,h=>by simp[J7]at h|n+1,j,0,a,h=>by simp only[J7,Kb,JL]at h;exact⟨by omega,h.symm⟩|n+1,j,i+1,a,h=>by simp only[J7,JW]at h;obtain⟨h1,h2⟩:=mi pv b n (j+1) i a h;grind
theorem kk {b j:Nat}:∀(pv:List (At×SV)),jc pv b j= .any\/ ∃(i:Nat) (q:At×SV),pv[i]? =some q/\q.1= .cell b j/\jc pv b j=q.2
 | []=>.inl rfl| (p,v)::l=>by
  unfold jc;cases hc:wI b j p with
  |true=>
   refine .inr ⟨0,(p,v),rfl,?_,rfl⟩;cases p with
   |tmp t=>cases hc
   |no=>cases hc
   |cell b' j'=>simp only[wI,JM,KA]at hc;grind
  |false=>
   rcases kk l with h| ⟨i,q,h1,h2,h3⟩
   ·exact .inl h
   ·exact .inr ⟨i+1,q,h1,h2,h3⟩
def iI {k:Nat}{a:SV}:∀(pv:List (At×SV)),lk (nR pv) k=some a-> ∃(i:Nat) (q:At×SV),pv[i]? =some q/\q.1= .tmp k/\q.2=a
 | [],h=>by cases h
 | (p,v)::l,h=>by
  unfold nR at h;split at h
  ·rename_i t;rw[p8]at h;split at h
   ·rename_i e;simp only[JL]at h;exact⟨0,(.tmp t,v),rfl,by rw[e],h⟩
   ·obtain⟨i,q,h1,h2⟩:=iI l h;exact⟨i+1,q,h1,h2⟩
  ·obtain⟨i,q,h1,h2⟩:=iI l h;exact⟨i+1,q,h1,h2⟩
  ·obtain⟨i,q,h1,h2⟩:=iI l h;exact⟨i+1,q,h1,h2⟩
theorem ff {k:Nat}:∀(pv:List (At×SV)),lk (nR pv) k=none-> ∀q∈pv,q.1≠ .tmp k
 | [],_=>fun q hq=>by simp at hq
 | (p,v)::l,h=>by
  unfold nR at h;intro q hq a;split at h
  ·rename_i t;rw[p8]at h;split at h
   ·cases h
   ·rename_i e;rcases Ky.1 hq with rfl|hq
    ·grind
    ·exact ff l h q hq a
  ·rcases Ky.1 hq with rfl|hq
   ·cases a
   ·exact ff l h q hq a
  ·rcases Ky.1 hq with rfl|hq
   ·cases a
   ·exact ff l h q hq a
def qJ :∀(ps:List Pl) (ds:Av) (nb i:Nat) (q:At×SV),(Y9 ps ds nb)[i]? =some q-> ∃p,ps[i]? =some p/\q.1=p.at_
 | [],ds,nb,i,q,h=>by simp[Y9]at h|p::ps,ds,nb,0,q,h=>by simp only[Y9,Kb,JL]at h;exact⟨p,rfl,by rw[<-h]⟩|p::ps,ds,nb,i+1,q,h=>by simp only[Y9,JW]at h;exact qJ ps _ _ i q h
def tg :∀(ps:List Pl) (ds:Av) (nb:Nat) (p:Pl),p∈ps-> ∃q∈Y9 ps ds nb,q.1=p.at_
 | [],_,_,p,h=>by simp at h|p'::ps,ds,nb,p,h=>by
  rcases Ky.1 h with rfl|h
  ·exact⟨_,by simp[Y9];exact .inl rfl,rfl⟩
  ·obtain⟨q,h1,h2⟩:=tg ps (pop p'.g ds) (nb+p'.g.na) p h;exact⟨q,by simp[Y9,h1],h2⟩
theorem wY {s1:SS}{pv:List (At×SV)}{b:Nat}:∀ {l:Ah},(∀b∈l,∃c e z,s1.get b=some (.cells c e z))-> ∀y,lk (ovB s1 pv l) b=y->(b∈l/\ ∃c e z,s1.get b=some (.cells c e z)/\y=some (some (.cells (J7 pv b 0 c.length) e z)))\/(b∉l/\y=none)
 | [],_,y,h=>.inr ⟨by simp,h.symm⟩|b'::l,hl,y,h=>by
  obtain⟨c,e,z,hb⟩:=hl b' (by simp);unfold ovB at h;rw[hb]at h;simp only at h;rw[p8]at h;by_cases a:b'=b
  ·grind
  ·rw[Kg a]at h;rcases wY (fun b hb=>hl b (by simp[hb])) y h with⟨h1,h2⟩| ⟨h1,h2⟩
   ·grind
   ·grind
section
variable {P :Ax}{U:Ab}
def PX (τ:Tau)(tm:Ao)(hp:Hp):At->Aw->Prop
 | .tmp t,x=>x=(tm.get t).getD undef| .cell b j,x=>∃i o cs n e z,τ b=some (some (i,o))/\hp.m.get i=some (.cells cs n e z)/\cs.get (o+j)=some x| .no,_=>True
theorem df.live {τ0 τ:Tau}{F:Ac}{s:SS}:∀ {ps:List Pl} {vs:Au} {es:Av} {bs:Ah},df P U τ0 τ F s ps vs es bs-> ∀ {k b:Nat},bs[k]? =some b-> ∃x,s.get b=some x
 | [],[],es,bs,h,k,b,hb=>by rw[h.2]at hb;simp at hb| [],_::_,es,bs,h,k,b,hb=>h.elim|p::ps,[],es,bs,h,k,b,hb=>h.elim|p::ps,v::vs,es,bs,h,k,b,hb=>by
  obtain⟨r,e,d,rfl,rfl,hm,a⟩:=h;cases hr:r.2 with
  |none=>rw[hr]at hb;exact a.live hb|some b0=>
   rw[hr]at hb;cases k with
   |succ k=>exact a.live (k:=k) hb|zero=>
    have c:p.g.na≠0:=fun h0=>by rw[hm.2.2.1 h0]at hr;cases hr
    obtain⟨so,_,b1,L,x',h1,_,hx,_⟩:=hm.2.2.2.2.1 c;rw[hr]at h1;simp only[JL]at h1;have e0:b0=b:=by simpa [O9]using hb
    grind
variable (P U) in
structure qC (τ1:Tau)(F1:Ac)(s1:SS)(hp1:Hp)(f0:Fm)(tm1:Ao)(ps:List Pl)(bs0 kill:Ah)(τ:Tau)(F:Ac)(s:SS)(hp:Hp)(f:Fm)(tm:Ao)(vs:Au)(es:Av)(bs:Ah)(xs:Af):Prop where
 hs1:SD P U τ1 F1 s1 hp1
 ht1:TD P U τ1 F1 f0 tm1
 hs:SD P U τ F s hp
 ht:TD P U τ F f tm
 ex:Ext τ1 F1 s1 hp1 τ F s hp
 mt:df P U τ1 τ F s ps vs es bs
 vx:VDL P U τ F vs xs
 px:∀(i:Nat) p x,ps[i]? =some p->xs[i]? =some x->PX τ tm hp p.at_ x
 lx:xs.length=ps.length
 pa:∀p∈ps,∃F0 x0,VD P U τ1 F0 p.a x0
 fr:∀t,(∀p∈ps,p.at_≠ .tmp t)->lk f t=lk f0 t
 ky:∀l,s.h=l++s1.h-> ∀b∈l.map Prod.fst,b<s1.nx->b∈bs0\/b∈kill\/b∈rbs ps
 rb:∀b∈rbs ps,b∉bs0/\b∉kill/\b<s1.nx
 c0:∀b∈bs0,b∉kill/\ ∃l l' e z,s1.get b=some (.cells l e z)/\s.get b=some (.cells l' e z)/\l'.length=l.length
 bd:∀(k k':Nat) b,bs[k]? =some b->bs[k']? =some b->k=k'
 bf:∀b∈bs,b∉bs0/\(s1.nx<=b\/b∈kill)
 lb:bs.length=um ps
variable {τ1 :Tau}{F1:Ac}{s1:SS}{hp1:Hp}{f0:Fm}{tm1:Ao}{ps:List Pl}{bs0 kill:Ah}{τ:Tau}{F:Ac}{s:SS}{hp:Hp}{f:Fm}{tm:Ao}{vs:Au}{es:Av}{bs:Ah}{xs:Af}
def P2 (τ1 τ:Tau)(n:Nat)(bs:Ah):Tau:=fun b=>if b<n then τ1 b else match bs[b-n]? with|some b'=>τ b'|none=>none
def eY {n b:Nat}(h:b<n):P2 τ1 τ n bs b=τ1 b:=by unfold P2;rw[Ki h]
def iH {n k b:Nat}(h:bs[k]? =some b):P2 τ1 τ n bs (n+k)=τ b:=by unfold P2;rw[Kg (by omega),Lj,h]
theorem qC.head (h:qC P U τ1 F1 s1 hp1 f0 tm1 ps bs0 kill τ F s hp f tm vs es bs xs){ds:Av}(hd:bE U (sos ps) es ds):SD P U (P2 τ1 τ s1.nx bs) F (sT ps ds s1 bs0 kill) hp/\TD P U (P2 τ1 τ s1.nx bs) F (fT ps ds s1 f0) tm/\Ext τ1 F1 s1 hp1 (P2 τ1 τ s1.nx bs) F (sT ps ds s1 bs0 kill) hp:=by
 obtain⟨l0,a1,a2,a3,a4,_⟩:=h.ex.hh;have aa:=h.ky l0 a1;have G:∀b p,τ1 b=some p->b<s1.nx:=fun b p hb=>Nat.lt_of_not_le fun ab=>by rw[h.hs1.new b ab]at hb;cases hb
 have hk:∀b p,τ1 b=some p->P2 τ1 τ s1.nx bs b=τ b:=fun b p hb=>by rw[eY (G b p hb),h.ex.st b (G b p hb)]
 have lo:∀b,b<s1.nx->P2 τ1 τ s1.nx bs b=τ b:=fun b hb=>by rw[eY hb,h.ex.st b hb]
 have W:=h.mt.vals hd hk (fun k b hb=>iH (n:=s1.nx) hb) h.pa h.vx;have T:=h.mt.blks (nb:=s1.nx) hd;have O:Tle τ1 (P2 τ1 τ s1.nx bs):=fun b p hb=>by rw[eY (G b p hb)];exact hb
 have ae:∀(i:Nat) q,(Y9 ps ds s1.nx)[i]? =some q-> ∃x,PX τ tm hp q.1 x/\VD P U (P2 τ1 τ s1.nx bs) F q.2 x:=by
  intro i q hq;obtain⟨p,h1,h2⟩:=qJ _ _ _ _ _ hq;have hi:i<xs.length:=by rw[h.lx];exact(JO.1 h1).1
  have hx:=JX hi;exact⟨_,by rw[h2];exact h.px i p _ h1 hx,W i q _ hq hx⟩
 have keep:∀b,b<s1.nx->b∉bs0->b∉kill->b∉rbs ps->s.get b=s1.get b:=fun b hb h1 h2 R=>by unfold SS.get;rw[a1,lG _ _ fun hm=>?_];grind
 have Z:∀b∈bs0,∃c e z,s1.get b=some (.cells c e z):=fun b hb=>by obtain⟨_,l,_,e,z,h1,_⟩:=h.c0 b hb;grind
 have B:∀b x,(sT ps ds s1 bs0 kill).get b=some x->
   (∃k b0 x',b=s1.nx+k/\bs[k]? =some b0/\s.get b0=some x'/\(∀(τ2:Tau) o z,BD P U τ F o x' z->BD P U τ2 F o x z)/\(H4 P U x'->H4 P U x))\/
   (b<s1.nx/\b∉kill/\b∈bs0/\ ∃c e z,s1.get b=some (.cells c e z)/\x= .cells (J7 (Y9 ps ds s1.nx) b 0 c.length) e z)\/
   (b<s1.nx/\b∉kill/\b∉bs0/\b∉rbs ps/\s1.get b=some x)\/
   (b<s1.nx/\b∉kill/\b∈rbs ps/\ ∃x',s.get b=some x'/\(∀(τ2:Tau) o z,BD P U τ F o x' z->BD P U τ2 F o x z)/\(H4 P U x'->H4 P U x)):=by
  intro b x hb;have d:(match lk (dx ps ds s1 bs0 kill++s1.h) b with|some x=>x|none=>none)=some x:=hb;rw[K9,dx,K9,K9]at d;cases N:lk (du ps ds s1.nx) b with
  |some y=>
   rw[N]at d;simp only at d;rcases T b y N with⟨k,b0,X,x',h1,h2,h3,h4,h5,h6⟩| ⟨X,x',h1,h3,h4,h5,h6⟩
   ·grind
   ·rw[h3]at d;simp only[JL]at d;subst d;obtain⟨_,g2,g3⟩:=h.rb b h1;grind
  |none=>
   rw[N]at d;simp only at d;rcases wY (s1:=s1) (pv:=Y9 ps ds s1.nx) (b:=b) Z _ rfl with⟨h1,c,e,z,h2,h3⟩| ⟨h1,h3⟩
   ·rw[h3]at d;simp only[JL]at d;exact .inr (.inl ⟨h.hs1.bound h2,(h.c0 b h1).1,h1,c,e,z,h2,d.symm⟩)
   ·rw[h3,O6]at d;by_cases V:b∈kill++(bs0++(rbs ps++ [s1.nx]))
    ·rw[Ki V]at d;cases d
    ·rw[Kg V]at d;have hb2:s1.get b=some x:=d;exact .inr (.inr (.inl ⟨h.hs1.bound hb2,fun h=>V (LG _ h),h1,fun h=>rm N (gV h),hb2⟩))
 have rf:∀b∈bs0,b∈(dx ps ds s1 bs0 kill).map Prod.fst:=fun b hb=>by
  rcases wY (s1:=s1) (pv:=Y9 ps ds s1.nx) (b:=b) Z _ rfl with⟨_,c,e,z,_,h3⟩| ⟨h1,_⟩
  ·unfold dx;simp only[KI,Kx];exact .inr (.inl (Lt.2 ⟨_,X7 h3,rfl⟩))
  ·grind
 have ad:∀b∈kill,b∈(dx ps ds s1 bs0 kill).map Prod.fst:=fun b hb=>by unfold dx;simp only[KI,Kx];refine .inr (.inr (Lt.2 ⟨(b,none),X7 ?_,rfl⟩));rw[O6,Ki (LG _ hb)]
 have mark:(s1.nx,none)∈dx ps ds s1 bs0 kill:=by unfold dx;refine Lv _ (Lv _ (X7 ?_));rw[O6,Ki (Lv _ (by simp))]
 have A:∀b∈l0.map Prod.fst,b<s1.nx->b∈(dx ps ds s1 bs0 kill).map Prod.fst:=fun b hb hlt=>by
  rcases aa b hb hlt with h1|h1|h1
  ·grind
  ·grind
  ·unfold dx;simp only[KI,Kx];exact .inl (gV h1)
 have J:∀k b0,bs[k]? =some b0->(if s1.nx+k<s1.nx then s1.nx+k else bs.getD (s1.nx+k-s1.nx) 0)=b0:=fun k b0 hb=>by rw[Kg (by omega),Lj,List.getD,hb];rfl
 refine⟨h.hs.rebase (fun b=>if b<s1.nx then b else bs.getD (b-s1.nx) 0) (fun b x hb=>?_) (fun b c x y hb hc ac=>?_) (fun b i o hb=>?_) (fun b hb=>?_) h.hs1.fc (fun r hr=>(h.hs1.fz r hr).mono O h.ex.f),fun k a u=>?_,?_⟩
 ·rcases B b x hb with⟨k,b0,x',rfl,h2,h3,h4,h5⟩| ⟨hlt,t,C,c,e,z,h2,rfl⟩| ⟨hlt,t,C,ak,h2⟩| ⟨hlt,t,_,x',h3,h4,h5⟩
  ·simp only[J k b0 h2];exact⟨x',h3,iH h2,fun i o y _ _ K=>h4 _ o y K,h5⟩
  ·simp only[Ki hlt];obtain⟨_,l,l',e',z',k1,k2,k3⟩:=h.c0 b C;rw[h2]at k1;simp only[JL,w9.cells.injEq]at k1;obtain⟨rfl,rfl,rfl⟩:=k1;refine⟨_,k2,lo b hlt,fun i o y g hy ⟨cs,n,e1,e2,e3⟩=>?_,fun⟨L,e,z,ph,h,_⟩=>by cases h⟩;refine⟨cs,n,e1,by rw[fK,<-k3];exact e2,fun j a ha=>?_⟩;obtain⟨hj,rfl⟩:=mi _ _ _ _ _ _ ha;rw[Ks];have ai:j<l'.length:=by omega
   obtain⟨x,hx,_⟩:=e3 j _ (JX ai);rcases kk (b:=b) (j:=j) (Y9 ps ds s1.nx)with h1| ⟨i',q,q1,q2,q3⟩
   ·exact⟨x,hx,by rw[h1];exact .any x⟩
   ·obtain⟨x2,px,hv⟩:=ae i' q q1;rw[q2]at px;obtain⟨i2,o2,al,n2,ao,z2,p1,p2,p3⟩:=px;rw[g]at p1;cases p1;rw[hy,e1]at p2;simp only[JL,Blk.cells.injEq]at p2;obtain⟨rfl,_⟩:=p2;exact⟨x2,p3,by rw[q3];exact hv⟩
  ·simp only[Ki hlt];refine⟨x,by rw[keep b hlt C t ak];exact h2,lo b hlt,fun i o y g hy K=>?_,id⟩;rcases h.hs1.live b x h2 with⟨i1,o1,y1,g1,_,_,g4⟩| ⟨g1,_⟩
   ·exact g4.re K hk
   ·rw[h.ex.st b hlt,g1]at g;cases g
  ·simp only[Ki hlt];exact⟨x',h3,lo b hlt,fun i o y _ _ K=>h4 _ o y K,h5⟩
 ·have hi:∀(b:Nat) (x:w9) (k b0:Nat),(sT ps ds s1 bs0 kill).get b=some x->b<s1.nx->bs[k]? =some b0->b≠b0:=by
   intro b x k b0 hb hlt aj e;subst e;obtain⟨f1,f2⟩:=h.bf b (JV aj);rcases B b x hb with⟨k',b0,x',rfl,_⟩| ⟨_,t,_⟩| ⟨_,t,_⟩| ⟨_,t,_⟩
   ·omega
   ·rcases f2 with h1|h1
    ·omega
    ·exact t h1
   ·rcases f2 with h1|h1
    ·omega
    ·exact t h1
   ·rcases f2 with h1|h1
    ·omega
    ·exact t h1
  by_cases D:b<s1.nx
  ·by_cases m:c<s1.nx
   ·simp only[Ki D,Ki m];exact ac
   ·rcases B c y hc with⟨k,b0,x',rfl,h2,_⟩| ⟨hlt,_⟩| ⟨hlt,_⟩| ⟨hlt,_⟩
    ·simp only[J k b0 h2,Ki D];exact hi b x k b0 hb D h2
    ·omega
    ·exact absurd hlt m
    ·exact absurd hlt m
  ·rcases B b x hb with⟨k,b0,x',rfl,h2,_⟩| ⟨hlt,_⟩| ⟨hlt,_⟩| ⟨hlt,_⟩
   ·by_cases m:c<s1.nx
    ·simp only[J k b0 h2,Ki m];exact(hi c y k b0 hc m h2).symm
    ·rcases B c y hc with⟨k',ah,x',rfl,R,_⟩| ⟨hlt,_⟩| ⟨hlt,_⟩| ⟨hlt,_⟩
     ·simp only[J k b0 h2,J k' ah R];intro e;subst e;exact ac (by rw[h.bd k k' b0 h2 R])
     ·exact absurd hlt m
     ·exact absurd hlt m
     ·exact absurd hlt m
   ·exact absurd hlt D
   ·exact absurd hlt D
   ·exact absurd hlt D
 ·by_cases hlt:b<s1.nx
  ·rw[lo b hlt]at hb;exact h.hs.lt b i o hb
  ·unfold P2 at hb;rw[Kg hlt]at hb;split at hb
   ·exact h.hs.lt _ i o hb
   ·cases hb
 ·have ab : s1.nx + um ps ≤ b := hb;unfold P2;rw[Kg (by omega),LQ (by rw[h.lb];omega)]
 ·unfold fT at u;rw[K9]at u;cases N:lk (nR (Y9 ps ds s1.nx)) k with
  |some y=>rw[N]at u;simp only[JL]at u;subst u;obtain⟨i,q,h1,h2,h3⟩:=iI _ N;obtain⟨x,px,hv⟩:=ae i q h1;rw[h2]at px;rw[<-h3,<-show x=(tm.get k).getD undef from px];exact hv
  |none=>
   rw[N]at u;have M:=ff _ N;have:lk f k=lk f0 k:=h.fr k fun p hp e=>by obtain⟨q,q1,q2⟩:=tg ps ds s1.nx p hp;exact M q q1 (by rw[q2,e])
   exact(h.ht1 k a u).re (h.ht k a (by rw[this];exact u)) hk
 ·refine⟨O,h.ex.f,h.ex.nx,Nat.le_add_right _ _,fun b hb=>eY hb,fun b x hb hlt=>?_,⟨dx ps ds s1 bs0 kill,rfl,fun i hi M=>?_,fun b i o hb g=>?_,fun i y hi hy=>?_,fun hp=>absurd rfl (hp (s1.nx,none) mark)⟩,⟨[],rfl⟩,⟨dx ps ds s1 bs0 kill,rfl,fun b c e z i o cs n hb ht hi hg hl=>⟨cs,?_,fun _ _=>rfl⟩⟩⟩
  rotate_right
  ·rw[a2 i hi fun b' x o' h1 h2 h3=>?_]
   ·exact hg
   ·by_cases Y:b'=b
    ·subst Y;have M:(b',none)∈dx ps ds s1 bs0 kill:=by
      unfold dx;refine Lv _ (Lv _ (X7 ?_));rw[O6,Ki ?_];simp only[Kx];rcases aa b' h3 (h.hs1.bound h1)with q|q|q
      ·exact .inr (.inl q)
      ·exact .inl q
      ·exact .inr (.inr (.inl q))
     obtain⟨_,q,_⟩:=hl none M;cases q
    ·exact h.hs1.inj b' b x _ i o' i o h1 hb Y h2 ht rfl
  ·rcases B b x hb with⟨k,b0,x',rfl,_⟩| ⟨_,_,_,c,e,z,h2,_⟩| ⟨_,_,_,_,h2⟩| ⟨_,_,_,x',h2,_⟩
   ·omega
   ·exact⟨_,h2⟩
   ·exact⟨_,h2⟩
   ·exact h.ex.low b x' h2 hlt
  ·exact a2 i hi fun b x o hb g hm=>M b x o hb g (A b hm (h.hs1.bound hb))
  ·unfold P2 at g;rw[Kg (by omega)]at g;split at g
   ·rename_i b' d;rcases(h.bf b' (JV d)).2 with h1|h1
    ·rcases a3 b' i o h1 g with h2| ⟨b0,x,o0,h2,h3,h4⟩
     ·exact .inl h2
     ·exact .inr ⟨b0,x,o0,h2,h3,A b0 h4 (h.hs1.bound h2)⟩
    ·by_cases hlt:b'<s1.nx
     ·have hg:∃x,s.get b'=some x:=by exact h.mt.live d
      obtain⟨x,hx⟩:=hg;obtain⟨y,hy⟩:=h.ex.low b' x hx hlt;rw[h.ex.st b' hlt]at g;exact .inr ⟨b',y,o,hy,g,ad b' h1⟩
     ·rcases a3 b' i o (Lp hlt) g with h2| ⟨b0,x,o0,h2,h3,h4⟩
      ·exact .inl h2
      ·exact .inr ⟨b0,x,o0,h2,h3,A b0 h4 (h.hs1.bound h2)⟩
   ·cases g
  ·rcases a4 i y hi hy with h1| ⟨b,o,h1,h2⟩
   ·exact .inl h1
   ·by_cases hlt:b<s1.nx
    ·exact .inr ⟨b,o,by rw[lo b hlt];exact h1,A b h2 hlt⟩
    ·rcases a3 b i o (Lp hlt) h1 with h3| ⟨b0,x,o0,h3,h4,h5⟩
     ·omega
     ·have C:=h.hs1.bound h3;exact .inr ⟨b0,o0,by rw[eY C];exact h4,A b0 h5 C⟩
end
end Go.Sx
namespace Go.Sx
open Go.Xe
structure Z7 where
 name:String
 places:Code->Fm->SS->Bc (List (At×G)×Ah)
 inv:As->Prop
 mu:As->Nat
 gh:List (So×E):=[]
def yC (U:Ab)(k:So)(e:E):Dat:=match k with
 | .i=>.int (e.toI U)| .b=>.bool (e.den U).toBool| .s=>.str (e.den U).toStr| .l=>.lst (e.toR U)
def j6 (U:Ab):List So->Av->As
 |k::ks,e::es=>yC U k e::j6 U ks es|_,_=>[]
def AI {α:Type}:List So->Nat->(Av->Tr α)->Tr α
 | [],_,k=>k []|so::l,n,k=>.all so n fun e=>AI l (n+1) fun es=>k (e::es)
def E2 (U:Ab):List So->Nat->Av->Av
 |k::ks,n,e::es=>.dat n (yC U k e)::E2 U ks (n+1) es|_,_,_=>[]
def atv (f:Fm)(s:SS):At->Bc SV
 | .tmp t=>match lk f t with
  |some v=>some v|none=>some .any
 | .cell b j=>match s.get b with
  |some (.cells l _ _)=>l[j]?|_=>none
 | .no=>some .any
def Z1 (f:Fm)(s:SS):List (At×G)->Bc (Au)
 | []=>some []|p::l=>match atv f s p.1 with
  |some v=>match Z1 f s l with
   |some vs=>some (v::vs)|none=>none
  |none=>none
def pls :List (At×G)->Au->List Pl
 |p::l,v::vs=>⟨p.1,p.2,v⟩::pls l vs|_,_=>[]
def DI (t:Nat):At->Bool
 | .tmp t'=>Nat.beq t t'| .cell _ _=>false| .no=>false
def gc :Ah->Bool
 | []=>true|b::l=> !P8 b l&&gc l
def W4 (s1 s:SS)(b:Nat):Bool:=match s1.get b with
 |some (.cells l e z)=>match s.get b with
  |some (.cells l' e' z')=>Nat.beq e e'&&Nat.beq z z'&&Nat.beq l.length l'.length|_=>false
 |_=>false
def tH (n:Nat)(f:Fm):Ah:=match n,f with
 |n+1,(k,_)::f=>k::tH n f|_,_=>[]
section
variable (P :Ax)(U:Ab)
def mdone {α:Type}(l1 l2:Lab)(p q:Prop):M α:=fun _=>.need l1 p (.need l2 q .done)
def Fj (an:Z7)(pg:List (At×G))(ps:List Pl)(bs0 kill:Ah)(s1:SS)(f0:Fm)(ds:Av)(r:Exit×Fm):M (Exit×Fm):=match r.1 with
 | .normal=>
  bif (tH (r.2.length-(fT ps ds s1 f0).length) r.2).all (fun t=>pg.any (fun p=>DI t p.1))then
   o8 fun s=>match Z1 r.2 s pg with
   |none=>a7 "loop: a place is gone"|some vs0=>c6 (norm P U ps vs0) fun vs=>c6 (mtP U ps vs) fun t=>o8 fun s2=>
    bif (O7 (s2.h.length-(sT ps ds s1 bs0 kill).h.length) s2.h).all (fun b=>Nat.ble s1.nx b||P8 b bs0||P8 b kill||P8 b (rbs ps))&&bs0.all (W4 s1 s2)&&gc t.2&&
      t.2.all (fun b=> !P8 b bs0&&(Nat.ble s1.nx b||P8 b kill))&&Nat.beq t.2.length (um ps)then
     mdone (.pt (an.name++ "Inv") [an.gh,(sos ps).zip t.1]) (.mu (an.name++ "Mu") an.gh ((sos ps).zip t.1) ((sos ps).zip ds)) (an.inv (j6 U (sos ps) t.1)) (an.mu (j6 U (sos ps) t.1)<an.mu (j6 U (sos ps) ds))
    else a7 "loop: the head"
  else a7 "loop: a temporary"
 |e=>e8 (e,r.2)
def fvb (s:SS)(n:Nat):SS:= {s with fv:=s.fv+n}
def shead (an:Z7)(pg:List (At×G))(ps:List Pl)(bs0:Ah)(es:Av)(kill:Ah)(body:Fm->M (Exit×Fm))(f0:Fm):M (Exit×Fm):=fun s=>
 .need (.pt (an.name++ "Inv") [an.gh,(sos ps).zip es]) (an.inv (j6 U (sos ps) es)) (AI (sos ps) s.fv fun ds=>.asm (.pt (an.name++ "Inv") [an.gh,(sos ps).zip ds]) (an.inv (j6 U (sos ps) ds))
  (c6 (body (fT ps ds (fvb s (sos ps).length) f0)) (Fj P U an pg ps bs0 kill (fvb s (sos ps).length) f0 ds) (sT ps ds (fvb s (sos ps).length) bs0 kill)))
def Fl (an:Z7)(b:Code)(body:Fm->M (Exit×Fm))(f0:Fm):M (Exit×Fm):=o8 fun s0=>match an.places b f0 s0 with
 |none=>a7 "loop: places"|some (pg,bs0)=>match Z1 f0 s0 pg with
  |none=>a7 "loop: no such place"|some vs0=>c6 (norm P U (pls pg vs0) vs0) fun vs=>c6 (mtP U (pls pg vs0) vs) fun t=>o8 fun s1=>
   bif bs0.all (W4 s1 s1)&&gc t.2&&t.2.all (fun b=> !P8 b bs0)&&Nat.beq t.2.length (um (pls pg vs0))&&(rbs (pls pg vs0)).all (fun b=> !P8 b bs0&& !P8 b t.2&&Nat.ble (b+1) s1.nx)then
    shead P U an pg (pls pg vs0) bs0 t.1 t.2 body f0
   else a7 "loop: the start"
end
section
variable {P :Ax}{U:Ab}{ov:Aa}{nt:Nat}
theorem lz {α:Type}{Q:α->Prop}:∀(l:List So) (n:Nat) (k:Av->Tr α),(AI l n k).vc U Q-> ∀es:Av,es.length=l.length->(k (E2 U l n es)).vc U Q
 | [],n,k,h,es,hl=>by
  cases es with
  |nil=>exact h|cons e es=>simp at hl
 |so::l,n,k,h,es,hl=>by
  cases es with
  |nil=>simp at hl|cons e es=>
   have a:es.length=l.length:=by grind
   have key:(AI l (n+1) fun es=>k (.dat n (yC U so e)::es)).vc U Q:=by
    cases so
    ·exact h (e.toI U)
    ·exact h (e.den U).toBool
    ·exact h (e.den U).toStr
    ·exact h (e.toR U)
   exact lz l (n+1) _ key es a
def J8 :∀(l:List So) (n:Nat) (es:Av),es.length=l.length->bE U l es (E2 U l n es)
 | [],n,[],h=>trivial| [],n,e::es,h=>by simp at h|k::l,n,[],h=>by simp at h|k::l,n,e::es,h=>⟨by cases k<;>rfl,J8 l (n+1) es (by simpa using h)⟩
def Q4 :∀(l:List So) (n:Nat) (es:Av),es.length=l.length->j6 U l (E2 U l n es)=j6 U l es
 | [],n,[],h=>rfl| [],n,e::es,h=>by simp at h|k::l,n,[],h=>by simp at h|k::l,n,e::es,h=>by unfold E2 j6;rw[Q4 l (n+1) es (by simpa using h)];cases k<;>rfl
def rD {τ0 τ:Tau}{F:Ac}{s:SS}:∀ {ps:List Pl} {vs:Au} {es:Av} {bs:Ah},df P U τ0 τ F s ps vs es bs->es.length=(sos ps).length
 | [],[],es,bs,h=>by rw[h.1];rfl| [],_::_,es,bs,h=>h.elim|p::ps,[],es,bs,h=>h.elim|p::ps,v::vs,es,bs,h=>by
  obtain⟨r,k,j,rfl,rfl,hm,c⟩:=h;have d:=rD c;unfold sos;cases a:p.g.so with
  |none=>rw[hm.2.1 a];exact d|some so=>obtain⟨e,he⟩:=hm.1 so a;rw[he];simp only[O9,KE,d]
theorem aV {b:Nat}:∀ {l:Ah},P8 b l=true->b∈l
 | [],h=>by cases h
 |k::l,h=>by
  unfold P8 at h;by_cases e:b=k
  ·grind
  ·rw[s7 e,Ke]at h;exact KT _ (aV h)
theorem dM :∀ {l:Ah},gc l=true-> ∀(k k':Nat) b,l[k]? =some b->l[k']? =some b->k=k'
 | [],_,k,k',b,h,_=>by simp at h|c::l,hd,k,k',b,h,h'=>by
  unfold gc at hd;rw[JM,KH]at hd;have hn:=M7 hd.1;cases k with
  |zero=>grind|succ k=>
   cases k' with
   |zero=>grind|succ k'=>simp only[JW]at h h';rw[dM hd.2 k k' b h h']
theorem iu {s1 s:SS}{b:Nat}(h:W4 s1 s b=true):∃l l' e z,s1.get b=some (.cells l e z)/\s.get b=some (.cells l' e z)/\l'.length=l.length:=by
 unfold W4 at h;split at h
 ·rename_i l e z h1;split at h
  ·rename_i l' e' a h2;simp only[JM,KA]at h;grind
  ·cases h
 ·cases h
theorem pc {b:Nat}:∀(ps:List Pl) (ds:Av) (nb:Nat),b∈(du ps ds nb).map Prod.fst->nb<=b\/b∈rbs ps
 | [],ds,nb,h=>by simp[du]at h|p::ps,ds,nb,h=>by
  have sub:∀b,b∈rbs ps->b∈rbs (p::ps):=fun b hb=>by unfold rbs;grind
  have a:b∈(du ps (pop p.g ds) (nb+p.g.na)).map Prod.fst->nb<=b\/b∈rbs (p::ps):=fun h=>by
   rcases pc ps _ _ h with h|h
   ·grind
   ·grind
  unfold du at h;split at h
  ·grind
  ·split at h
   ·rename_i q hq;simp only[KM,Ky]at h;rcases h with rfl|h
    ·obtain⟨X,c⟩:=G.fix_num hq (.int 0);right;unfold rbs;grind
    ·exact a h
   ·exact a h
def mW {s1:SS}{pv:List (At×SV)}{b:Nat}:∀(l:Ah),b∈(ovB s1 pv l).map Prod.fst->b∈l
 | [],h=>by simp[ovB]at h|c::l,h=>by
  unfold ovB at h;split at h
  ·simp only[KM,Ky]at h;rcases h with rfl|h
   ·simp
   ·exact KT _ (mW l h)
  ·exact KT _ (mW l h)
def mI {b:Nat}:∀(l:Ah),b∈(S6 l).map Prod.fst->b∈l
 | [],h=>by simp[S6]at h|c::l,h=>by
  simp only[S6,KM,Ky]at h;rcases h with rfl|h
  ·simp
  ·exact KT _ (mI l h)
theorem zr :∀ {pg:List (At×G)} {vs:Au} {i:Nat} {p:Pl},(pls pg vs)[i]? =some p-> ∃q v,pg[i]? =some q/\vs[i]? =some v/\p.at_=q.1/\p.a=v
 | [],vs,i,p,h=>by simp[pls]at h|q::l,[],i,p,h=>by simp[pls]at h|q::l,v::vs,0,p,h=>by simp only[pls,Kb,JL]at h;exact⟨q,v,rfl,rfl,by rw[<-h],by rw[<-h]⟩|q::l,v::vs,i+1,p,h=>by simp only[pls,JW]at h;obtain⟨c,v',h1,h2,h3⟩:=zr (pg:=l) (vs:=vs) (i:=i) h;grind
def EF :∀ {pg:List (At×G)} {vs:Au},pg.length=vs.length->(pls pg vs).map Pl.at_=pg.map Prod.fst
 | [],[],_=>rfl| [],_::_,h=>by simp at h|_::_,[],h=>by simp at h|q::l,v::vs,h=>by simp only[pls,KM];rw[EF (by simpa using h)]
def IK {τ:Tau}{F:Ac}{s:SS}{hp:Hp}{f:Fm}{tm:Ao}(ht:TD P U τ F f tm)(hs:SD P U τ F s hp){p:At}{v:SV}(h:atv f s p=some v):∃x,VD P U τ F v x/\PX τ tm hp p x:=by
 cases p with
 |tmp t=>
  simp only[atv]at h;split at h
  ·rename_i v' a;simp only[JL]at h;subst h;exact⟨_,ht t v' a,rfl⟩
  ·simp only[JL]at h;subst h;exact⟨_,.any _,rfl⟩
 |cell b j=>
  simp only[atv]at h;split at h
  ·rename_i l e z hb;rcases hs.live b _ hb with⟨i,o,y,h1,h2,h3,cs,n,rfl,h4,h5⟩| ⟨_,L,e',c,ph,h2,_⟩
   ·obtain⟨x,hx,a⟩:=h5 j v h;exact⟨x,a,i,o,cs,n,e,z,h1,h2,hx⟩
   ·cases h2
  ·cases h
 |no=>simp only[atv,JL]at h;subst h;exact⟨undef,.any _,trivial⟩
theorem ga {τ:Tau}{F:Ac}{s:SS}{hp:Hp}{f:Fm}{tm:Ao}(ht:TD P U τ F f tm)(hs:SD P U τ F s hp):∀ {pg:List (At×G)} {vs:Au},Z1 f s pg=some vs->pg.length=vs.length/\ ∃xs,VDL P U τ F vs xs/\ ∀(i:Nat) q x,pg[i]? =some q->xs[i]? =some x->PX τ tm hp q.1 x
 | [],vs,h=>by simp only[Z1,JL]at h;subst h;exact⟨rfl,[],.nil,fun i q x h=>by simp at h⟩|p::l,vs,h=>by
  unfold Z1 at h;split at h
  ·rename_i v c;split at h
   ·rename_i d a;cases h;obtain⟨x,h1,h2⟩:=IK ht hs c;obtain⟨h3,xs,h4,h5⟩:=ga ht hs a;refine⟨by simp[h3],x::xs,.cons h1 h4,fun i q y hq hy=>?_⟩;grind
   ·cases h
  ·cases h
def PX.mono {τ τ':Tau}{tm:Ao}{hp:Hp}{p:At}{x:Aw}(ht:Tle τ τ')(h:PX τ tm hp p x):PX τ' tm hp p x:=by
 cases p with
 |tmp t=>exact h|cell b j=>obtain⟨i,o,cs,n,e,z,h1,h2⟩:=h;exact⟨i,o,cs,n,e,z,ht _ _ h1,h2⟩
 |no=>trivial
def AV (l f:Fm):tH l.length (l++f)=l.map Prod.fst:=by
 induction l with
 |nil=>cases f<;>rfl
 |cons a l c=>obtain⟨k,x⟩:=a;simp only[KE,KX,tH,KM,c]
variable {ar :Ai}
variable {tm':Ao}
def XC.loop_next {b:Code}{tm tm1:Ao}{hp hp1 hp':Hp}{e:Exit}(h1:XC P ov ar nt b tm hp .normal tm1 hp1)(h2:XC P ov ar nt (.loop b) tm1 hp1 e tm' hp')(a:hp.nx<=hp1.nx)(c:hp1.nx<=hp'.nx)(hk:∀r,r<hp1.nx->hp1.m.get r=some .dfr->hp'.m.get r=some .dfr):XC P ov ar nt (.loop b) tm hp e tm' hp':=
 h1.comp h2 a c hk fun n m ds d g q1 q2=>by simp only[f9,q1];exact q2
theorem XC.loop_end {b:Code}{tm:Ao}{hp hp':Hp}{e:Exit}(h1:XC P ov ar nt b tm hp e tm' hp')(c:e≠ .normal):XC P ov ar nt (.loop b) tm hp e tm' hp':=
 h1.map fun n m ds a hk=>by simp only[f9,hk];grind
end
end Go.Sx
namespace Go.Sx
open Go.Xe
section
variable {P :Ax}{U:Ab}{ov:Aa}{nt:Nat}{ar:Ai}
variable {b :Code}{body:Fm->M (Exit×Fm)}{an:Z7}{pg:List (At×G)}{ps:List Pl}{bs0 kill:Ah}{s1:SS}{f0:Fm}{tm1:Ao}{τ1:Tau}{F1:Ac}{hp1:Hp}{n0:Nat}{Q:(Exit×Fm)×SS->Prop}
variable (P U ov) in
def Cz (ar:Ai)(nt:Nat)(b:Code)(τ1:Tau)(F1:Ac)(s1:SS)(hp1:Hp)(f0:Fm)(Q:(Exit×Fm)×SS->Prop)(tm:Ao)(hp:Hp):Prop:=
 ∃ex f' s',Q ((ex,f'),s')/\ ∃τ' F' hp',Ext τ1 F1 s1 hp1 τ' F' s' hp'/\SD P U τ' F' s' hp'/\ ∃tm',XC P ov ar nt (.loop b) tm hp ex tm' hp'/\TD P U τ' F' f' tm'/\(∃pre,f'=pre++f0)/\hp.nx<=hp'.nx/\ ∀r,r<hp.nx->hp.m.get r=some .dfr->hp'.m.get r=some .dfr
def tQ (n:∀A,dy P U ov ar nt (body A) b A)(hs1:SD P U τ1 F1 s1 hp1)(ht1:TD P U τ1 F1 f0 tm1)(B:ps.map Pl.at_=pg.map Prod.fst)(pa:∀p∈ps,∃F0 x0,VD P U τ1 F0 p.a x0)(X:∀c∈bs0,c∉kill)(ae:∀c∈rbs ps,c∉bs0/\c∉kill/\c<s1.nx)(hB:∀es:Av,es.length=(sos ps).length->an.inv (j6 U (sos ps) es)->(c6 (body (fT ps (E2 U (sos ps) n0 es) s1 f0)) (Fj P U an pg ps bs0 kill s1 f0 (E2 U (sos ps) n0 es)) (sT ps (E2 U (sos ps) n0 es) s1 bs0 kill)).vc U Q):∀(N:Nat) (es:Av),an.mu (j6 U (sos ps) es)<N->es.length=(sos ps).length->an.inv (j6 U (sos ps) es)-> ∀(τ:Tau) (F:Ac) (hp:Hp) (tm:Ao),SD P U τ F (sT ps (E2 U (sos ps) n0 es) s1 bs0 kill) hp->TD P U τ F (fT ps (E2 U (sos ps) n0 es) s1 f0) tm->Ext τ1 F1 s1 hp1 τ F (sT ps (E2 U (sos ps) n0 es) s1 bs0 kill) hp->Cz P U ov ar nt b τ1 F1 s1 hp1 f0 Q tm hp
 |0,es,h,_,_=>absurd h (Nat.not_lt_zero _)|N+1,es,bj,G,Z=>by
  intro τ F hp tm z ah K;have hq:=hB es G Z;rw[v5]at hq;generalize al:E2 U (sos ps) n0 es=ds at hq z ah K;obtain⟨⟨e,A⟩,s',hq,τ',F',hp',d,C,tm',hx,V,pre,ad⟩:=n (fT ps ds s1 f0) τ F _ hp tm ah z _ hq z;have M:A=pre++fT ps ds s1 f0:=ad;have u:e≠ .normal->Q ((e,A),s')->Cz P U ov ar nt b τ1 F1 s1 hp1 f0 Q tm hp:=fun aw hQ=>
   ⟨e,A,s',hQ,τ',F',hp',K.trans d,C,tm',hx.loop_end aw,V,⟨pre++nR (Y9 ps ds s1.nx),by rw[M,fT,JZ]⟩,d.nx,fun r hr hg=>d.dfr z hr hg (.inl rfl)⟩
  cases e with
  |exit j=>exact u (by simp) hq|ret=>exact u (by simp) hq|normal=>
   simp only[Fj]at hq;cases c1:(tH (A.length-(fT ps ds s1 f0).length) A).all (fun t=>pg.any (fun p=>DI t p.1))with
   |false=>rw[c1]at hq;exact hq.elim|true=>
    rw[c1,Kc]at hq;simp only[o8]at hq;cases c2:Z1 A s' pg with
    |none=>rw[c2]at hq;exact hq.elim|some bh=>
     rw[c2]at hq;simp only at hq;obtain⟨ap,xs,ai,az⟩:=ga V C c2;rw[v5]at hq;obtain⟨vs,s2,hq,τ2,F2,hp2,m,D,rfl,aj⟩:=rE ps bh xs τ' F' s' hp' ai C _ hq C;rw[v5]at hq;obtain⟨⟨k,bs⟩,W,hq,o3,ao,av⟩:=wU (P:=P) (τ:=τ2) (F:=F2) τ1 ps vs s2 _ hq D.fc;have bb:=D.only o3 ao;have Y:Ext τ1 F1 s1 hp1 τ2 F2 W hp2:=((K.trans d).trans m).trans (LY D o3);simp only[o8]at hq;cases c3:(O7 (W.h.length-(sT ps ds s1 bs0 kill).h.length) W.h).all (fun b=>Nat.ble s1.nx b||P8 b bs0||P8 b kill||P8 b (rbs ps))&&bs0.all (W4 s1 W)&&gc bs&&
      bs.all (fun b=> !P8 b bs0&&(Nat.ble s1.nx b||P8 b kill))&&Nat.beq bs.length (um ps)with
     |false=>rw[c3]at hq;exact hq.elim|true=>
      rw [c3,Kc] at hq;simp only [JM] at c3;obtain ⟨⟨⟨⟨k1,k2⟩,k3⟩,k4⟩,k5⟩:=c3;rw [Kq] at k1 k2 k4;have L : an.inv (j6 U (sos ps) k):=hq.1;have ab : an.mu (j6 U (sos ps) k) < an.mu (j6 U (sos ps) ds):=(hq.2 hq.1).1;have J:=av W o3.h;have y:=rD J;have head : qC P U τ1 F1 s1 hp1 f0 tm1 ps bs0 kill τ2 F2  W hp2  A tm' vs   k bs xs:=by
       refine⟨hs1,ht1,bb,V.mono m.t m.f,Y,J,aj,fun i p x hp be=>?_,?_,pa,fun t ht=>?_,fun l hl c hc hlt=>?_,ae,fun c hc=>⟨X c hc,iu (k2 c hc)⟩,dM k3,fun c hc=>?_,JQ k5⟩
       ·have h1:=congrArg (fun l=>l[i]?) B;simp only[KL,hp,KG]at h1;cases O:pg[i]? with
        |none=>rw[O]at h1;cases h1
        |some q=>rw[O]at h1;simp only[KG,JL]at h1;rw[h1];exact(az i q x O be).mono m.t
       ·have h1:=congrArg List.length B;simp only[Kf]at h1;rw[h1,ap];exact ai.1.symm
       ·have ax:t∉pre.map Prod.fst:=by
         intro hm;rw[Kq,M,Kn,Nat.add_sub_cancel,AV]at c1;have:=c1 t hm;rw[List.any_eq_true]at this;obtain⟨q,ba,g⟩:=this;have aa:q.1∈ps.map Pl.at_:=by rw[B];exact Lt.2 ⟨q,ba,rfl⟩
         obtain⟨p,hp1,hp2⟩:=Lt.1 aa;refine ht p hp1 ?_;rw[hp2];cases R:q.1 with
         |tmp t'=>rw[R]at g;simp only[DI]at g;rw[JQ g]|cell b j=>rw[R]at g;cases g
         |no=>rw[R]at g;cases g
        rw[M,lG _ _ ax,fT,K9];cases aq:lk (nR (Y9 ps ds s1.nx)) t with
        |none=>rfl|some a=>obtain⟨i,q,q1,q2,_⟩:=iI _ aq;obtain⟨p,p1,p2⟩:=qJ _ _ _ _ _ q1;exact absurd (by rw[<-p2,q2]) (ht p (JV p1))
       ·obtain⟨l2,e2,_⟩:=(d.trans (m.trans (LY D o3))).hh;have bc:(sT ps ds s1 bs0 kill).h=dx ps ds s1 bs0 kill++s1.h:=rfl;have au:l=l2++dx ps ds s1 bs0 kill:=by rw[e2,bc,<-JZ]at hl;exact(List.append_cancel_right hl).symm
        rw[au,KI,Kx]at hc;rcases hc with hc|hc
        ·rw[e2,Kn,Nat.add_sub_cancel,kD]at k1;have:=k1 c hc;simp only[Lm,KP]at this;rcases this with((h1|h1)|h1)|h1
         ·omega
         ·exact .inl (aV h1)
         ·exact .inr (.inl (aV h1))
         ·exact .inr (.inr (aV h1))
        ·unfold dx at hc;simp only[KI,Kx]at hc;rcases hc with h1|h1|h1
         ·rcases pc _ _ _ h1 with h2|h2
          ·omega
          ·exact .inr (.inr h2)
         ·exact .inl (mW _ h1)
         ·have:=mI _ h1;simp only[Kx]at this;rcases this with h2|h2|h2|h2
          ·exact .inr (.inl h2)
          ·exact .inl h2
          ·exact .inr (.inr h2)
          ·simp at h2;omega
       ·have:=k4 c hc;simp only[JM,KH,Lm,KP]at this;refine⟨M7 this.1,?_⟩;rcases this.2 with h1|h1
        ·exact .inl h1
        ·exact .inr (aV h1)
      obtain⟨g1,g2,g3⟩:=head.head (J8 (sos ps) n0 k y);have ac:an.mu (j6 U (sos ps) k)<N:=by
       have:j6 U (sos ps) ds=j6 U (sos ps) es:=by rw[<-al];exact Q4 _ _ _ G
       rw[this]at ab;omega
      obtain⟨ak,f4,s4,w1,bi,F4,ay,w2,w3,bg,w4,w5,w6,w7,w8⟩:=tQ n hs1 ht1 B pa X ae hB N k ac y L _ _ _ _ g1 g2 g3;exact⟨ak,f4,s4,w1,bi,F4,ay,w2,w3,bg,hx.loop_next w4 d.nx w7 w8,w5,w6,KS d.nx w7,fun r hr hg=>w8 r (KO hr d.nx) (d.dfr z hr hg (.inl rfl))⟩
  |_=>exact u (by simp) hq
end
end Go.Sx
namespace Go.Sx
open Go.Xe
def annOf (l:List (Nat×(Fm->SS->Z7)))(id:Nat):Bc (Fm->SS->Z7):=lk l id
def slp (P:Ax)(U:Ab)(l:List (Nat×(Fm->SS->Z7))):gQ:=fun id b body f=>match annOf l id with
 |some an=>some (o8 fun s=>Fl P U (an f s) b body f)|none=>none
def wE (U:Ab):List (So×E)->As
 | []=>[]
 | (k,e)::l=>yC U k e::wE U l
def U6 (U:Ab)(name:String)(places:Code->Fm->SS->Bc (List (At×G)×Ah))(gh:Fm->SS->List (So×E))(inv:As->As->Prop)(mu:As->As->Nat):Fm->SS->Z7:=
 fun f s=>⟨name,places,inv (wE U (gh f s)),mu (wE U (gh f s)),gh f s⟩
section
variable {P :Ax}{U:Ab}{ov:Aa}{nt:Nat}{ar:Ai}
def SD.fvb {τ:Tau}{F:Ac}{s:SS}{hp:Hp}(h:SD P U τ F s hp)(n:Nat):SD P U τ F (fvb s n) hp:=⟨h.live,h.inj,h.frz,h.lt,h.flt,h.new,h.fc,h.fz⟩
def Ext.fvb {τ τ':Tau}{F F':Ac}{s s':SS}{hp hp':Hp}(h:Ext τ F s hp τ' F' s' hp')(n:Nat):Ext τ F s hp τ' F' (fvb s' n) hp':=⟨h.t,h.f,h.nx,h.snx,h.st,h.low,h.hh,h.hf,h.win⟩
def Fo {b:Code}{body:Fm->M (Exit×Fm)}(r:∀f',dy P U ov ar nt (body f') b f')(an:Z7)(f0:Fm):dy P U ov ar nt (Fl P U an b body f0) (.loop b) f0:=by
 intro τ F s hp tm ht hs Q hq _;unfold Fl at hq;simp only[o8]at hq;cases c1:an.places b f0 s with
 |none=>rw[c1]at hq;exact hq.elim|some pp=>
  obtain⟨pg,bs0⟩:=pp;rw[c1]at hq;simp only at hq;cases T:Z1 f0 s pg with
  |none=>rw[T]at hq;exact hq.elim|some N=>
   rw[T]at hq;simp only at hq;obtain⟨G,xs,A,ac⟩:=ga ht hs T;generalize J:pls pg N=ps at hq;have m:ps.map Pl.at_=pg.map Prod.fst:=by rw[<-J];exact EF G
   rw[v5]at hq;obtain⟨vs,s2,hq,τ2,O,hp2,d,y,rfl,L⟩:=rE ps N xs τ F s hp A hs _ hq hs;rw[v5]at hq;obtain⟨⟨es,bs⟩,g,hq,o3,Y,aa⟩:=wU (P:=P) (τ:=τ2) (F:=O) τ2 ps vs s2 _ hq y.fc;have ad:=y.only o3 Y;have B:=d.trans (LY y o3);simp only[o8]at hq;cases R:bs0.all (W4 g g)&&gc bs&&bs.all (fun b=> !P8 b bs0)&&Nat.beq bs.length (um ps)&&(rbs ps).all (fun b=> !P8 b bs0&& !P8 b bs&&Nat.ble (b+1) g.nx)with
   |false=>rw[R]at hq;exact hq.elim|true=>
    rw [R,Kc] at hq;simp only [JM] at R;obtain ⟨⟨⟨⟨k2,k3⟩,k4⟩,k5⟩,k6⟩:=R;rw [Kq] at k2 k4 k6;have K : ∀ c ∈ rbs ps,c ∉ bs0∧c ∉ bs∧c < g.nx:=fun c hc=>by have:=k6 c hc;simp only[JM,KH,KP]at this;exact⟨M7 this.1.1,M7 this.1.2,this.2⟩
    have e:=ad.fvb (sos ps).length;have C:=B.fvb (sos ps).length;have z:=ht.mono d.t d.f;have k:=aa (fvb g (sos ps).length) o3.h;have j:=rD k;have D:an.inv (j6 U (sos ps) es):=hq.1;have hB:=lz (U:=U) _ _ _ (hq.2 hq.1);have n:∀c∈bs0,c∉bs:=fun c hc hb=>by have:=k4 c hb;rw[KH]at this;exact M7 this hc
    have pa:∀p∈ps,∃F0 x0,VD P U τ2 F0 p.a x0:=by intro p hp;obtain⟨i,hi⟩:=KQ.1 hp;rw[<-J]at hi;obtain⟨q,v,g1,X,g3,g4⟩:=zr hi;obtain⟨x,ak,ae⟩:=A.get X;exact⟨O,x,by rw[g4];exact ae.mono d.t d.f⟩
    have head:qC P U τ2 O (fvb g (sos ps).length) hp2 f0 tm ps bs0 bs τ2 O (fvb g (sos ps).length) hp2 f0 tm vs es bs xs:=by
     refine⟨e,z,e,z,Ext.refl e,k,L,fun i p x hp ah=>?_,?_,pa,fun t _=>rfl,fun l hl c hc hlt=>?_,K,fun c hc=>⟨n c hc,iu (k2 c hc)⟩,dM k3,fun c hc=>⟨fun h=>n c h hc,.inr hc⟩,JQ k5⟩
     ·have h1:=congrArg (fun l=>l[i]?) m;simp only[KL,hp,KG]at h1;cases u:pg[i]? with
      |none=>rw[u]at h1;cases h1
      |some q=>rw[u]at h1;simp only[KG,JL]at h1;rw[h1];exact(ac i q x u ah).mono d.t
     ·have h1:=congrArg List.length m;simp only[Kf]at h1;rw[h1,G];exact A.1.symm
     ·have:l=[]:=by
       have:=congrArg List.length hl;rw[Kn]at this;cases l with
       |nil=>rfl|cons a l=>simp at this
      subst this;simp at hc
    obtain⟨g1,X,g3⟩:=head.head (J8 (sos ps) g.fv es j);obtain⟨W,f4,s4,w1,aj,F4,ab,w2,w3,ai,w4,w5,⟨pre,w6⟩,_⟩:=tQ (U:=U) (an:=an) (pg:=pg) (kill:=bs) (n0:=g.fv) r e z m pa n K (fun V E Z=>hB V E (by rw[Q4 _ _ _ E];exact Z))
     (an.mu (j6 U (sos ps) es)+1) es (KW _) j D _ _ _ _ g1 X g3
    exact⟨(W,f4),s4,w1,aj,F4,ab,C.trans w2,w3,ai,w4,w5,pre,w6⟩
def Fp (l:List (Nat×(Fm->SS->Z7))):aK P U ov ar nt (slp P U l):=by
 intro c b body f r a hr;unfold slp at hr;split at hr
 ·rename_i an _;simp only[JL]at hr;subst hr;exact fun τ F s hp tm ht hs=>Fo a (an f s) f τ F s hp tm ht hs
 ·cases hr
end
def Dk :An->Ah
 | []=>[]
 |o::os=>match o.dst with
  |some d=>d::Dk os|none=>Dk os
def kn :Code->Ah
 | .region _ ops _=>Dk ops.toList| .seq x y=>kn x++kn y| .cond _ x y=>kn x++kn y| .block _ b=>kn b| .loop b=>kn b| .scope b=>kn b|_=>[]
def anys (own:List (Nat×G)):Ah->Ah->List (At×G)
 |_,[]=>[]
 |seen,t::l=>bif P8 t seen then anys own seen l else match lk own t with
  |some _=>anys own (t::seen) l|none=>(.tmp t,.any)::anys own (t::seen) l
def ownT :List (Nat×G)->List (At×G)
 | []=>[]
 | (t,g)::l=>(.tmp t,g)::ownT l
def De (b:Nat):Nat->List G->List (At×G)
 |_,[]=>[]
 |j,g::l=>(.cell b j,g)::De b (j+1) l
def U7 (own:List (Nat×G))(blks:Fm->SS->Bc (List (Nat×List G))):Code->Fm->SS->Bc (List (At×G)×Ah):=fun c f s=>match blks f s with
 |some bl=>some (ownT own++(bl.map fun p=>De p.1 0 p.2).flatten++anys own [] (kn c),bl.map Prod.fst)|none=>none
end Go.Sx
namespace Go.Sx
open Go.Xe
def sx (P:Ax)(U:Ab)(anns:Az->List (Nat×(Fm->SS->Z7)))(con:Az->Bc (Au->M SV))(n:Nat):G8:=
 W0 P U (fun call nt=>zJ P U call nt) (fun _ g _=>slp P U (anns g)) con n
def sxF (P:Ax)(U:Ab)(anns:Az->List (Nat×(Fm->SS->Z7)))(con:Az->Bc (Au->M SV))(n:Nat)(g:Az):Au->M SV:=
 sfun P U (sx P U anns con n) (fun nt=>zJ P U (sx P U anns con n) nt) (fun g _=>slp P U (anns g)) n g
section
variable {P :Ax}{U:Ab}{ov:Aa}
def IA (a:Az->List (Nat×(Fm->SS->Z7))){con:Az->Bc (Au->M SV)}(d:∀g k,con g=some k->I5 P U ov k g)(e:∀g,isT (ov g)=true->con g≠none)(n:Nat):D0 P U ov (sx P U a con n):=
 nv (fun _ c _=>uR c) (fun _ _ _ g _=>Fp (a g)) d e n
def Ju (a:Az->List (Nat×(Fm->SS->Z7))){con:Az->Bc (Au->M SV)}(c:∀g k,con g=some k->I5 P U ov k g)(d:∀g,isT (ov g)=true->con g≠none)(n:Nat)(g:Az)(e:isT (ov g)=false):I5 P U ov (sxF P U a con n g) g:=
 zO (IA a c d n) (fun _=>uR (IA a c d n)) (fun _ g _=>Fp (a g)) n g e
end
end Go.Sx
noncomputable section PartSm31
namespace Go.Sx
open Go.Xe Go.RowKit
def qE (w:Be)(v:Aw):Ag:=match v with
 | .bool _| .int _ _| .string _=>some v
 | .slice none _ _=>some v| .slice (some ⟨i,_,none⟩) (l+1) c=>match w.heap[i]? with
  |some (.cells _ _ _)=>if l+1<=c/\c<unk then some v else none
  |_=>none
 | .slice (some _) 0 _=>some (.slice (some ⟨0,0,some 0⟩) 0 unk)|_=>none
def roT (w:Be):Nat->Af->Ao
 |_,[]=>.e|k,v::vs=>(roT w (k+1) vs).set k (qE w v)
def rR (w:Be):∀(vs:Af) (k j:Nat),(roT w k vs).get j=if k<=j then(vs[j-k]?).bind (qE w)else none
 | [],k,j=>by simp[roT,Mu]|v::vs,k,j=>by
  have d:=rR w vs (k+1) j;unfold roT;rw[Mw];by_cases a:j=k
  ·subst a;rw[Ki rfl,Ki (Kj _)];simp
  ·rw[Kg a,d];by_cases c:k+1<=j
   ·rw[Ki c,Ki (by omega),show j-k=(j-(k+1))+1 by omega,JW]
   ·rw[Kg c,Kg (by omega)]
def roB (w:Be):Obj->Bc Blk
 | .cells C e _=>some (.ro (roT w 0 C.toList) C.size e 0)|_=>none
def roM (w:Be):Nat->List Obj->T Blk
 |_,[]=>.e|k,o::os=>(roM w (k+1) os).set k (roB w o)
def zy (w:Be):∀(os:List Obj) (k j:Nat),(roM w k os).get j=if k<=j then(os[j-k]?).bind (roB w)else none
 | [],k,j=>by simp[roM,Mu]|o::os,k,j=>by
  have d:=zy w os (k+1) j;unfold roM;rw[Mw];by_cases a:j=k
  ·subst a;rw[Ki rfl,Ki (Kj _)];simp
  ·rw[Kg a,d];by_cases c:k+1<=j
   ·rw[Ki c,Ki (by omega),show j-k=(j-(k+1))+1 by omega,JW]
   ·rw[Kg c,Kg (by omega)]
def uK (w:Be):Hp:=⟨roM w 0 w.heap.toList,w.heap.size⟩
def gu (w:Be):Sg:=fun i=>match w.heap[i]? with
 |some (.cells C _ _)=>some ⟨i,0,C.size,0⟩|_=>none
def BS.ro (w:Be):BS:=⟨(· <w.heap.size),(· <w.heap.size),fun _ h=>h⟩
def nl (w:Be)(i:Nat):(uK w).m.get i=(w.heap[i]?).bind (roB w):=by show(roM w 0 w.heap.toList).get i=_;rw[zy,Ki (LF _)];simp
def xh {w:Be}{i:Nat}{C:Al}{e:Ay}{f:Nat×Nat}(h:w.heap[i]? =some (.cells C e f)):(uK w).m.get i=some (.ro (roT w 0 C.toList) C.size e 0):=by rw[nl,h];rfl
def ly {w:Be}{v a:Aw}(h:qE w v=some a):VR (gu w) a v:=by
 unfold qE at h;split at h
 ·cases h;exact .bool _
 ·cases h;exact .int _ _
 ·cases h;exact .string _
 ·cases h;exact .nils _ _
 ·rename_i i o l c;split at h
  ·rename_i C e f hh;split at h
   ·rename_i hc;cases h;have hs:gu w i=some ⟨i,0,C.size,0⟩:=by unfold gu;rw[hh]
    have:=VR.slice (σ:=gu w) i o _ (l+1) c c hs (.inl ⟨rfl,hc.2⟩) hc.1;simpa using this
   ·cases h
  ·cases h
 ·cases h;exact .vague _ _
 ·cases h
def HR.ro (w:Be):HR (BS.ro w) w (gu w) (uK w) w:=by
 refine⟨rfl,rfl,rfl,Kj _,fun _ h=>h,fun _ _=>rfl,fun i hi=>?_,fun i b d=>?_,fun i j b b' p q hi hj a hp hq=>?_⟩
 ·have hi:w.heap.size<=i:=hi;unfold gu;rw[Array.getElem?_eq_none hi]
 ·rw[nl,Option.bind_eq_some_iff]at d;obtain⟨o,c,hb⟩:=d;cases o with
  |cells C e f=>simp only[roB,JL]at hb;subst hb;refine⟨⟨i,0,C.size,0⟩,_,by unfold gu;rw[c],(Ka.1 c).1,c,C,f,rfl,rfl,rfl,by simp,fun j v hj g=>?_⟩;rw[rR,Ki (LF _),Ls,Option.bind_eq_some_iff]at g;obtain⟨u,h1,h2⟩:=g;exact⟨u,by simpa using h1,ly h2⟩
  |_=>cases hb
 ·have key:∀ {i:Nat} {p:Xe.Pl},gu w i=some p->p.blk=i:=by
   intro i p h;unfold gu at h;split at h
   ·simp only[JL]at h;rw[<-h]
   ·cases h
  rw[key hp,key hq];exact a
def roF (w:Be):Ac:=fun i=>(uK w).m.get i
def EZ (w:Be):∀i b,roF w i=some b->(uK w).m.get i=some b/\i<(uK w).nx:=by intro i b h;refine⟨h,?_⟩;rw[roF,nl,Option.bind_eq_some_iff]at h;obtain⟨o,a,_⟩:=h;exact(Ka.1 a).1
def ua (f:Ay->Nat->List (Nat×Ay))(o:Nat):List Field->List (Nat×Ay)
 | []=>[]
 |x::xs=>f x.type (o+x.offset)++ua f o xs
def aU (P:Ax):Nat->Ay->Nat->List (Nat×Ay)
 |0,_,_=>[]
 |d+1,t,o=>match P.underlying t with
  |some (.struct fs)=>ua (aU P d) o fs.toList|some (.array n e)=>((List.range n).map fun i=>aU P d e (o+i*P.cellsOf e)).flatten|_=>[(o,t)]
def isAgg (P:Ax)(t:Ay):Bool:=match P.underlying t with
 |some (.struct _)=>true|some (.array _ _)=>true|_=>false
section
variable {H :Type}{enc:Ay×Aw->H}{P:Ax}{w:Be}{spare:Nat->Bool}{held:Bool}
def di {α:Type}{cs:List α}{a n j:Nat}{v:α}(h:((cs.drop a).take n)[j]? =some v):cs[a+j]? =some v:=by
 rw[Kt]at h;split at h
 ·rw[Kz]at h;exact h
 ·cases h
def pz {f:Ay->Nat->List (Nat×Ay)}{o:Nat}{p:Nat×Ay}:∀ {l:List Field},p∈ua f o l-> ∃x∈l,p∈f x.type (o+x.offset)
 | [],h=>by simp[ua]at h|x::xs,h=>by
  unfold ua at h;rcases Kx.1 h with h|h
  ·exact⟨x,by simp,h⟩
  ·obtain⟨y,h1,h2⟩:=pz h;exact⟨y,by simp[h1],h2⟩
theorem fj :∀(d:Nat) {g:Nat} {t:Ay} {cs:Af} {x:DataW H×List MemPlace},DataW.trod enc P w 0 spare held g t cs=some x-> ∀(a o:Nat) (u:Ay),(o,u)∈aU P d t a-> ∃(j:Nat) (cs':Af) (c:Nat) (x':DataW H×List MemPlace),o=a+j/\c<=g/\isAgg P u=false/\DataW.trod enc P w 0 spare held c u cs'=some x'/\ ∀(k:Nat) v,cs'[k]? =some v->cs[j+k]? =some v
 |0,g,t,cs,x,h,a,o,u,hm=>by simp[aU]at hm|d+1,g,t,cs,x,h,a,o,u,hm=>by
  unfold aU at hm;split at hm
  ·rename_i q ht;obtain⟨xs,n,rfl,_,_,_,hf⟩:=DataW.trod_struct ht h;obtain⟨f,r,y⟩:=pz hm;obtain⟨i,hi⟩:=KQ.1 r;have z:q[i]? =some f:=by simpa using hi
   have:=hf i f z;have hlt:i<xs.length:=by have:=(JO.1 hi).1;simp_all
   rw[JX hlt]at this;obtain⟨j,cs',c,x',h1,h2,h3,h4,h5⟩:=fj d this (a+f.offset) o u y;exact⟨f.offset+j,cs',c,x',by omega,by omega,h3,h4,fun k v p=>by rw[KU];exact di (h5 k v p)⟩
  ·rename_i n e ht;obtain⟨i,hi,hm⟩:∃i,i<n/\(o,u)∈aU P d e (a+i*P.cellsOf e):=by simp only[List.mem_flatten,Lt,List.mem_range]at hm;obtain⟨l,⟨i,hi,rfl⟩,hm⟩:=hm;exact⟨i,hi,hm⟩
   obtain⟨m,x',h1,h2⟩:∃m x',g=m+1/\DataW.trod enc P w 0 spare held m e ((cs.drop (i*P.cellsOf e)).take (P.cellsOf e))=some x':=by
    cases g with
    |zero=>simp[DataW.trod]at h|succ m=>
     unfold DataW.trod at h;rw[ht]at h;simp only at h;split at h
     ·rw[Lu]at h;obtain⟨xs,hx,_⟩:=h;have:=mapM_some_get hx i i (by simp[hi]);have hl:=mapM_some_length hx;have hlt:i<xs.length:=by simp at hl;omega
      rw[JX hlt]at this;exact⟨m,_,rfl,this⟩
     ·cases h
   subst h1;obtain⟨j,cs',c,A,h1,h2,h3,h4,h5⟩:=fj d h2 _ o u hm;exact⟨i*P.cellsOf e+j,cs',c,A,by omega,by omega,h3,h4,fun k v p=>by rw[KU];exact di (h5 k v p)⟩
  ·rename_i h1 h2;simp only[La,JN]at hm;obtain⟨rfl,rfl⟩:=hm;refine⟨0,cs,g,x,by omega,Kj _,?_,h,fun k v p=>by simpa using p⟩;unfold isAgg;split
   ·rename_i q hh;exact absurd hh (h1 q)
   ·rename_i n e hh;exact absurd hh (h2 n e)
   ·rfl
end
end Go.Sx
end PartSm31
noncomputable section PartSm32
namespace Go.Sx
open Go.Xe Go.RowKit
inductive DW (P:Ax):Kd->Dat->Prop
 |int (k:IntKind) (n:Int) (h:k.min<=n/\n<=k.max):DW P (.int k) (.int n)
 |bool (b:Bool):DW P .bool (.bool b)
 |str (s:Ae) (h:s.length<=maxLen):DW P .str (.str s)
 | sl (e : Ay) (rows : Rows) (hl : rows.length ≤ maxLen) (hz : ∀ r ∈ rows, r.length = (kf P e).length)
   (h:∀(r k:Nat) (row:As) (kd:Kd) (d:Dat),rows[r]? =some row->row[k]? =some d->(kf P e)[k]? =some kd->DW P kd d):DW P (.sl e) (.lst rows)
def tZ (P:Ax)(e:Ay):Bool:=
 Nat.beq (aU P 20 e 0).length (kf P e).length&&Nat.beq (P.cellsOf e) (kf P e).length&&Nat.ble 1 (kf P e).length&&
  ((aU P 20 e 0).zipIdx.all fun p=>Nat.beq p.1.1 p.2)&&((aU P 20 e 0).zip (kf P e)).all fun p=>decide (kd1 P p.1.2=p.2)
def tP (P:Ax):Nat->Kd->Bool
 |_,.int _=>true|_,.bool=>true|_,.str=>true|n+1,.sl e=>tZ P e&&(kf P e).all (tP P n)|_,_=>false
def oX (P:Ax)(S:Kd->Prop):Prop:=∀kd,S kd->match kd with
 | .int _=>True| .bool=>True| .str=>True| .sl e=>tZ P e=true/\ ∀k∈kf P e,S k|_=>False
def inL (es:List Ay):Kd->Bool
 | .int _=>true| .bool=>true| .str=>true| .sl e=>P8 e es|_=>false
def GO (P:Ax):oX P fun kd=>∃m,tP P m kd=true:=by
 rintro kd ⟨m,h⟩;cases kd with
 |sl e=>
  cases m with
  |zero=>cases h
  |succ m=>simp only[tP,JM,Kq]at h;exact⟨h.1,fun k hk=>⟨m,h.2 k hk⟩⟩
 |_=>first|trivial| (cases m<;>cases h)
def GP {P:Ax}{es:List Ay}(h:(es.all fun e=>tZ P e&&(kf P e).all (inL es))=true):oX P fun kd=>inL es kd=true:=by
 intro kd hk;cases kd with
 |sl e=>have:=Kq.1 h e (aV hk);simp only[JM,Kq]at this;exact this|_=>first|trivial|cases hk
section
variable {H :Type}{enc:Ay×Aw->H}{P:Ax}{w:Be}{spare:Nat->Bool}{held:Bool}
theorem mK {e:Ay}(h:tZ P e=true):P.cellsOf e=(kf P e).length/\1<=(kf P e).length/\ ∀k kd,(kf P e)[k]? =some kd-> ∃u,(k,u)∈aU P 20 e 0/\kd1 P u=kd:=by
 simp only[tZ,JM,KA,KP]at h;obtain⟨⟨⟨⟨h1,h2⟩,h3⟩,h4⟩,h5⟩:=h;refine⟨h2,h3,fun k kd hk=>?_⟩;have hlt:k<(kf P e).length:=(JO.1 hk).1;have hl:k<(aU P 20 e 0).length:=by omega
 have a:=JX hl;rw[Kq]at h4 h5;have a1:=h4 ((aU P 20 e 0)[k],k) (by rw[List.mem_zipIdx_iff_getElem?];exact a);have a2:=h5 ((aU P 20 e 0)[k],kd) (JV (i:=k) (by rw[List.getElem?_zip_eq_some];exact⟨a,hk⟩));simp only[KA,Kh]at a1 a2;grind
def CC (a:Addr)(i j:Nat):(a.add i).add j=a.add (i+j):=by
 unfold Addr.add;by_cases hi:i=0
 ·subst hi;simp
 ·by_cases hj:j=0
  ·subst hj;simp
  ·rw[Kg hi,Kg hj,Kg (by omega)];simp[KU]
variable (P w) in
def fD (kd:Kd)(v:Aw)(d:Dat):Prop:=∃a,qE w v=some a/\PV P (roF w) kd a d/\DW P kd d
theorem ma {S:Kd->Prop}(hS:oX P S):∀(N m:Nat),m<N-> ∀(u:Ay) (cs:Af) (x:DataW H×List MemPlace),DataW.trod enc P w 0 spare held m u cs=some x->S (kd1 P u)-> ∃v d,cs=[v]/\fD P w (kd1 P u) v d
 |0,_,h,_,_,_,_,_=>absurd h (Nat.not_lt_zero _)|N+1,m,hN,u,cs,x,ht,Z=>by
  unfold kd1 at Z⊢;split at Z
  ·rename_i k O;clear Z;obtain⟨n,rfl,_,hw⟩:=DataW.trod_int O ht;refine⟨.int k n,.int n,rfl,.int k n,rfl,.int k n,.int k n ?_⟩;unfold Lit.wf at hw;grind
  ·rename_i O;obtain⟨b,rfl,_⟩:=DataW.trod_bool O ht;exact⟨.bool b,.bool b,rfl,.bool b,rfl,.bool b,.bool b⟩
  ·rename_i O;obtain⟨s,rfl,_,hs⟩:=DataW.trod_string O ht;refine⟨.string s,.str s.data.toList,rfl,.string s,rfl,?_,.str _ ?_⟩
   ·exact .str s.data.toList
   ·simp_all
  ·rename_i e O;obtain⟨ac,ap⟩:=hS _ Z;obtain⟨l1,l2,l3⟩:=mK ac;rcases DataW.trod_slice O ht with⟨rfl,_⟩| ⟨a,len,cap,J,rest,n,rfl,rfl,_,_,aq,al,ba,ao,_,_⟩
   ·exact⟨.slice none 0 0,.lst [],rfl,.slice none 0 0,rfl,.nils e,.sl e [] (LF _) (fun r h=>by simp at h) (fun r k row kd d h=>by simp at h)⟩
   ·cases len with
    |zero=>refine⟨.slice (some a) 0 cap,.lst [],rfl,.slice (some ⟨0,0,some 0⟩) 0 unk,?_,.vague e,.sl e [] (LF _) (fun r h=>by simp at h) (fun r k row kd d h=>by simp at h)⟩;obtain⟨i,o,sp⟩:=a;cases sp<;>rfl
    |succ len=>
    have cell:∀r k,r<len+1->k<(kf P e).length-> ∀kd,(kf P e)[k]? =some kd-> ∃v d,w.cell? (a.add (r*P.cellsOf e+k))=some v/\fD P w kd v d:=by
     intro r k hr hk kd c;have h1:=ao r hr;have hlt:r<J.length:=by omega
     rw[JX hlt,Option.bind_eq_some_iff]at h1;obtain⟨cs,ah,ai⟩:=h1;obtain⟨_,ax,aj⟩:=World.cells?_some ah;obtain⟨u',av,ad⟩:=l3 k kd c;obtain⟨j,cs',K,x',q1,q2,q3,q4,q5⟩:=fj 20 ai 0 k u' av;obtain⟨v,d,rfl,hv⟩:=ma hS N K (by omega) u' cs' x' q4 (by rw[ad];exact ap kd (JV c));refine⟨v,d,?_,by rw[ad]at hv;exact hv⟩;have:=q5 0 v rfl;have hj:j=k:=by omega
     subst hj;rw[Lb]at this;rw[<-this,<-aj j (by omega)];congr 1;exact(CC a _ _).symm
    have first:∃kd,(kf P e)[0]? =some kd:=⟨_,JX (by omega)⟩
    obtain⟨aw,ab⟩:=first
    obtain⟨v0,_,g,_⟩:=cell 0 0 (by omega) (by omega) aw ab;obtain⟨i,o,sp⟩:=a;have au:sp=none:=by
     cases sp with
     |none=>rfl|some q=>
      have hb:((⟨i,o,some q⟩:Addr).add (0*P.cellsOf e+0)).block=i:=by unfold Addr.add;split<;>rfl
      unfold World.cell? at g;rw[hb]at g;split at g
      ·rename_i hh;have:((⟨i,o,some q⟩:Addr).add (0*P.cellsOf e+0)).spot.isSome=true:=by unfold Addr.add;simp
       grind
      ·cases g
    subst au;have D:∀j,(⟨i,o,none⟩:Addr).add j=⟨i,o+j,none⟩:=fun j=>LC _ _ _;obtain⟨C,e',f,hh⟩:∃C e' f,w.heap[i]? =some (.cells C e' f):=by rw[D]at g;unfold World.cell? at g;grind
    have E:∀r k,r<len+1->k<(kf P e).length-> ∀kd,(kf P e)[k]? =some kd-> ∃v d,C[o+r*(kf P e).length+k]? =some v/\fD P w kd v d:=by intro r k hr hk kd c;obtain⟨v,d,h1,h2⟩:=cell r k hr hk kd c;refine⟨v,d,?_,h2⟩;rw[D,cell_of_row w i _ C e' f hh,l1]at h1;grind
    clear cell;have G:∀p:Nat×Nat,∃q:Aw×Dat,p.1<len+1-> ∀kd,(kf P e)[p.2]? =some kd->C[o+p.1*(kf P e).length+p.2]? =some q.1/\fD P w kd q.1 q.2:=by
     intro⟨r,k⟩;simp only;by_cases hr:r<len+1
     ·cases hk:(kf P e)[k]? with
      |none=>exact⟨(undef,.int 0),fun _ kd h=>by cases h⟩|some kd=>obtain⟨v,d,h1,h2⟩:=E r k hr (JO.1 hk).1 kd hk;exact⟨(v,d),fun _ bc h=>by cases h;exact⟨h1,h2⟩⟩
     ·exact⟨(undef,.int 0),fun h=>absurd h hr⟩
    obtain⟨ch,ay⟩:=Classical.axiomOfChoice G;obtain⟨vv,bb⟩:∃vv:Nat->Nat->Aw,∀r k,vv r k=(ch (r,k)).1:=⟨fun r k=>(ch (r,k)).1,fun _ _=>rfl⟩
    obtain⟨R,az⟩:∃R:Nat->Nat->Dat,∀r k,R r k=(ch (r,k)).2:=⟨fun r k=>(ch (r,k)).2,fun _ _=>rfl⟩
    have t:∀r k,r<len+1-> ∀kd,(kf P e)[k]? =some kd->C[o+r*(kf P e).length+k]? =some (vv r k)/\fD P w kd (vv r k) (R r k):=by simp_all
    have z1:=l2;generalize hz:(kf P e).length=z at*;have Y:o+(len+1)*z<=C.size:=by have hk:(kf P e)[z-1]? =some ((kf P e)[z-1]'(by omega)):=JX (by omega);have:=(t len (z-1) (by omega) _ hk).1;grind
    let rows:Rows:=(List.range (len+1)).map fun r=>(List.range z).map fun k=>R r k
    have A:∀(r k:Nat) (row:As) (d:Dat),rows[r]? =some row->row[k]? =some d->r<len+1/\k<z/\d=R r k:=by grind
    have B:rows.length=len+1:=by simp[rows]
    have rz:∀r∈rows,r.length=z:=by intro r hr;simp only[rows,Lt]at hr;obtain⟨i,_,rfl⟩:=hr;simp
    have M:cap<unk:=by have:=al;unfold maxLen at this;unfold unk;omega
    have X:qE w (.slice (some ⟨i,o,none⟩) (len+1) cap)=some (.slice (some ⟨i,o,none⟩) (len+1) cap):=by unfold qE;simp only[hh];rw[Ki ⟨aq,M⟩]
    have y:∀k,k<z-> ∃kd,(kf P e)[k]? =some kd:=fun k hk=>⟨_,JX (by omega)⟩
    have ae:∀p:Nat×Nat,∃a,p.1<len+1->p.2<z->qE w (vv p.1 p.2)=some a:=by
     intro⟨r,k⟩;simp only;by_cases h:r<len+1/\k<z
     ·obtain⟨kd,c⟩:=y k h.2;obtain⟨_,a,ha,_⟩:=t r k h.1 kd c;exact⟨a,fun _ _=>ha⟩
     ·exact⟨undef,fun h1 h2=>absurd ⟨h1,h2⟩ h⟩
    obtain⟨ca,ak⟩:=Classical.axiomOfChoice ae;obtain⟨aa,W⟩:∃aa:Nat->Nat->Aw,∀r k,aa r k=ca (r,k):=⟨fun r k=>ca (r,k),fun _ _=>rfl⟩
    have V:∀r k,r<len+1->k<z->qE w (vv r k)=some (aa r k):=by intro r k h1 h2;rw[W];exact ak (r,k) h1 h2
    refine⟨_,.lst rows,rfl,_,X,?_,?_⟩
    ·rw[<-B];refine .sl e i o cap (.ro (roT w 0 C.toList) C.size e' 0) (roT w 0 C.toList) C.size z (zb:=0) rows aa (xh hh) rfl ⟨.inl ⟨M,by omega⟩,fun _=>M,fun h=>by cases h⟩ (by rw[B];exact Y) hz.symm rz ?_ ?_
     ·intro r k row d h1 h2;obtain⟨L,T,rfl⟩:=A r k row d h1 h2;obtain⟨kd,c⟩:=y k T;have:=(t r k L kd c).1;rw[rR,Ki (LF _),Ls];have e1:C.toList[o+r*z+k]? =some (vv r k):=by rw[<-this];simp
      rw[e1];exact V r k L T
     ·intro r k row kd d h1 h2 c;obtain⟨L,T,rfl⟩:=A r k row d h1 h2;obtain⟨_,a,ha,hp,_⟩:=t r k L kd c;have:=V r k L T;rw[ha]at this;cases this;exact hp
    ·refine .sl e rows (by rw[B];omega) (fun r hr=>by rw[hz];exact rz r hr) ?_;intro r k row kd d h1 h2 c;obtain⟨L,T,rfl⟩:=A r k row d h1 h2;exact(t r k L kd c).2.choose_spec.2.2
  ·exact(hS _ Z).elim
variable {xs:Al}{ps:List MemPlace}
def CJ {S:Kd->Prop}(q:oX P S){u:Ay}{d:DataW H}(h:DataW.Trod enc P w 0 spare held u (.agg xs) d ps)(hl:tZ P u=true)(r:∀kd∈kf P u,S kd):∀(k:Nat) (kd:Kd),(kf P u)[k]? =some kd-> ∃(v:Aw) (d:Dat),xs[k]? =some v/\fD P w kd v d:=by
 intro k kd c;obtain⟨m,h⟩:=h;obtain⟨z,A,t⟩:=mK hl;obtain⟨p,g,e⟩:=t k kd c;obtain⟨j,cs',a,x',q1,q2,B,x,y⟩:=fj 20 h 0 k p g;obtain⟨v,d,rfl,n⟩:=ma q (a+1) a (KW _) p cs' x' x (by rw[e];exact r kd (JV c));have:=y 0 v rfl;have hj:j=k:=by omega
 subst hj;refine⟨v,d,by simpa [Value.cells]using this,by rw[e]at n;exact n⟩
def Gl {u:Ay}{d:DataW H}(h:DataW.Trod enc P w 0 spare held u (.agg xs) d ps){m:Nat}(hl:tZ P u=true)(a:(kf P u).all (tP P m)=true):∀(k:Nat) (kd:Kd),(kf P u)[k]? =some kd-> ∃(v:Aw) (d:Dat),xs[k]? =some v/\fD P w kd v d:=
 CJ (GO P) h hl fun kd hk=>⟨m,Kq.1 a kd hk⟩
end
section
variable {P :Ax}{U:Ab}{ov:Aa}
def HR.roBelow {σ:Sg}{hp:Hp}{w w':Be}(h:HR (BS.ro w) w σ hp w'):Below w.heap.size w w':=
 ⟨h.os,h.tape,h.output,h.size,h.kept⟩
end
end Go.Sx
end PartSm32
noncomputable section PartSm33
namespace Go.Sx
open Go.Xe
inductive Lf where
 |g (k:G)
 |ptr (i z:Nat)
 |nilp
 |clo (g:Az) (is:List (Nat×Nat))
 |cst (k:G) (e:E)
def Lf.so :Lf->Bc So
 | .g k=>k.so|_=>none
def Lf.na :Lf->Nat
 | .g k=>k.na|_=>0
def Lf.blk (x:Lf)(d:E):Bc w9:=match x with
 | .g k=>k.blk .any d|_=>none
def lvv (num:Nat->Nat)(x:Lf)(e:E)(nb:Nat):SV:=match x with
 | .g k=>tv k .any e nb| .ptr i z=>.ptr (num i) z (.int 0) 0| .nilp=>.nilp| .clo g is=>.fn (.func g) [] (is.map fun p=>.ptr (num p.1) p.2 (.int 0) 0)| .cst k e=>tv k .any e nb
def uz (x:Lf)(es:Av):Av:=match x.so with
 |some _=>tl1 es|none=>es
def AO (num:Nat->Nat):List Lf->Av->Nat->Au
 | [],_,_=>[]
 |x::l,es,nb=>lvv num x (hd1 es) nb::AO num l (uz x es) (nb+x.na)
def X0 :List Lf->Av->Nat->List (Nat×Bc w9)
 | [],_,_=>[]
 |x::l,es,nb=>match x.blk (hd1 es)with
  |some X=>(nb,some X)::X0 l (uz x es) (nb+x.na)|none=>X0 l (uz x es) (nb+x.na)
def j5 :List Lf->List So
 | []=>[]
 |x::l=>O9 x.so (j5 l)
def I9 :List Lf->Nat
 | []=>0|x::l=>x.na+I9 l
section
variable (P :Ax)(U:Ab)
def Ew (x:Lf)(v:SV):M SV:=match x with
 | .g k=>kG P U k v| .cst k _=>kG P U k v|_=>e8 v
def eqS (so:So)(d e:E):Bc E:=match so with
 | .i=>some (I8 d e)| .s=>some (ii d e)| .b=>some (zg d e)| .l=>match e with
  | .op .nil []=>some (I8 (A5 d) (.int 0))|_=>none
def ur :List Lf->Au->M (Au)
 |x::l,v::vs=>c6 (Ew P U x v) fun v'=>c6 (ur l vs) fun vs'=>e8 (v'::vs')
 | [],[]=>e8 []|_,_=>a7 "contract: places"
def z8 (bl:Ah)(i b:Nat):Bool:=match bl[i]? with
 |some b'=>Nat.beq b b'|none=>false
def mtC (bl:Ah):List (Nat×Nat)->Au->Bool
 | [],[]=>true|p::is,.ptr b z (.int m) f::l=>z8 bl p.1 b&&Nat.beq p.2 z&&decide (m=0)&&Nat.beq f 0&&mtC bl is l|_,_=>false
def Bm (bl:Ah)(x:Lf)(v:SV):M (Bc E×Ai):=match x with
 | .g k=>mt1 U k .any v| .ptr i z=>match v with
  | .ptr b z' (.int m) f=>bif z8 bl i b&&Nat.beq z z'&&decide (m=0)&&Nat.beq f 0 then e8 (none,none)else a7 "contract: another pointer"|_=>a7 "contract: no pointer"
 | .nilp=>match v with
  | .nilp=>e8 (none,none)|_=>a7 "contract: not nil"
 | .clo g is=>match v with
  | .fn (.func g') [] l=>bif Nat.beq g g'&&mtC bl is l then e8 (none,none)else a7 "contract: another function"|_=>a7 "contract: no function"
 | .cst k e => bif Nat.beq k.na 0 then c6 (mt1 U k .any v) fun r => match r.1, k.so with
   |some d,some so=>match eqS so d e with
    |some c=>c6 (n5 U c) fun _=>e8 (none,none)
    |none=>a7 "contract: known"
   |_,_=>a7 "contract: known"
  else a7 "contract: known"
def mtL (bl:Ah):List Lf->Au->M (Av×Ah)
 |x::l,v::vs=>c6 (Bm U bl x v) fun r=>c6 (mtL bl l vs) fun t=>e8 (O9 r.1 t.1,O9 r.2 t.2)
 | [],[]=>e8 ([],[])|_,_=>a7 "contract: places"
end
section
variable {P :Ax}{U:Ab}
variable {τ:Tau}{F:Ac}
def Bs {s:SS}{hp:Hp}(x:Lf){v:SV}{u:Aw}(a:VD P U τ F v u)(hs:SD P U τ F s hp):OKh P U (Ew P U x v) τ F s hp fun v' τ' F' hp'=>hp'=hp/\VD P U τ' F' v' u:=by
 cases x with
 |g k=>exact mR k a hs|cst k e=>exact mR k a hs|_=>exact Mf ⟨rfl,a⟩
def mS :∀(ps:List Lf) (vs:Au) (xs:Af) (τ:Tau) (F:Ac) (s:SS) (hp:Hp),VDL P U τ F vs xs->SD P U τ F s hp->OKh P U (ur P U ps vs) τ F s hp fun d τ' F' hp'=>hp'=hp/\VDL P U τ' F' d xs
 | [],[],xs,τ,F,s,hp,c,hs=>Mf ⟨rfl,c⟩| [],v::vs,xs,τ,F,s,hp,c,hs=>Md|p::ps,[],xs,τ,F,s,hp,c,hs=>Md|p::ps,v::vs,xs,τ,F,s,hp,c,hs=>by obtain⟨y,ys,rfl,h1,h2⟩:=c.uncons;unfold ur;refine(Bs p h1 hs).bind fun v' τ1 F1 s1 hp1 ex hs1 ⟨e,g⟩=>(mS ps vs ys τ1 F1 s1 hp1 (h2.mono ex.t ex.f) hs1).bind fun d τ2 j s2 hp2 a h ⟨k1,k2⟩=>Mf ⟨by rw[k1,e],.cons (g.mono a.t a.f) k2⟩
def IR {so:So}{d e c:E}(h:eqS so d e=some c)(hp:c.pr U):iy U so d e:=by
 unfold eqS at h;split at h
 ·cases h;exact cu hp
 ·cases h;rw[LV,Q7]at hp;show(d.den U).toStr=(e.den U).toStr;simpa using hp
 ·cases h;rw[LV,pG]at hp;show(d.den U).toBool=(e.den U).toBool;simpa using hp
 ·split at h
  ·cases h;have:=cu hp;rw[i4,E1]at this;show d.toR U=_;have h0:d.toR U=[]:=List.length_eq_zero_iff.1 (by omega);rw[h0];rfl
  ·cases h
variable (P U) in
def LOK (bl:Ah)(τ:Tau)(F:Ac)(s:SS)(x:Lf)(v:SV)(r:Bc E×Ai):Prop:=
 (∀so,x.so=some so-> ∃e,r.1=some e)/\(x.so=none->r.1=none)/\(x.na=0->r.2=none)/\
 (∀u,VD P U τ F v u-> ∀(τ2:Tau) (num:Nat->Nat) (nb:Nat) (d:E),(∀i b,bl[i]? =some b->τ2 (num i)=τ b)->(∀e so,r.1=some e->x.so=some so->iy U so e d)->(∀b,r.2=some b->τ2 nb=τ b)->VD P U τ2 F (lvv num x d nb) u)/\
 (x.na≠0-> ∃so,x.so=some so/\Cs P U τ F s so x.blk r)
theorem zm {bl:Ah}:∀ {is:List (Nat×Nat)} {l:Au} {num:Nat->Nat},mtC bl is l=true->(is.map fun p=>SV.ptr (num p.1) p.2 (.int 0) 0).length=l.length
 | [],[],num,_=>rfl| [],_::_,num,h=>by simp[mtC]at h|p::is,[],num,h=>by simp[mtC]at h|p::is,a::l,num,h=>by
  unfold mtC at h;split at h
  ·grind
  ·rename_i c d;cases c;cases d;simp only[JM]at h;have:=zm (num:=num) h.2;grind
  ·cases h
theorem zk {bl:Ah}{τ τ2:Tau}{F:Ac}{num:Nat->Nat}:∀ {is:List (Nat×Nat)} {l:Au} {ys:Af},mtC bl is l=true->(∀i b,bl[i]? =some b->τ2 (num i)=τ b)->VDL P U τ F l ys-> ∀ {i:Nat} {a:SV} {x:Aw},(is.map fun p=>SV.ptr (num p.1) p.2 (.int 0) 0)[i]? =some a->ys[i]? =some x->VD P U τ2 F a x
 | [],l,ys,h,hb,d,i,a,x,ha,hx=>by simp at ha|p::is,[],ys,h,hb,d,i,a,x,ha,hx=>by simp[mtC]at h|p::is,b0::l,ys,h,hb,d,i,a,x,ha,hx=>by
  unfold mtC at h;split at h
  ·grind
  ·rename_i e g;cases e;cases g;simp only[JM,KA,Kh]at h;obtain⟨⟨⟨⟨h1,h2⟩,h3⟩,h4⟩,h5⟩:=h;subst h3;subst h4;obtain⟨y,k,rfl,k1,k2⟩:=d.uncons;cases i with
   |zero=>
    simp only[KM,Kb,JL]at ha hx;subst ha;subst hx;unfold z8 at h1;split at h1
    ·rename_i b' c;have:=JQ h1;subst this;cases k1 with
     |ptr _ _ _ _ j o' h h0=>rw[h2];exact .ptr _ _ (.int 0) 0 j o' (by rw[hb _ _ c];exact h) h0
    ·cases h1
   |succ i=>simp only[KM,JW]at ha hx;exact zk h5 hb k2 ha hx
  ·cases h
def Ha {s:SS}(bl:Ah)(x:Lf)(v:SV):OKp U (Bm U bl x v) s fun r=>∀s',s'.h=s.h->LOK P U bl τ F s' x v r:=by
 cases x with
 |g k=>refine(wS (P:=P) (τ:=τ) (F:=F) (fun _=>none) k .any v).mono fun r h s' q=>?_;obtain⟨h1,h2,h3,h4,h5⟩:=h s' q;refine⟨h1,h2,h3,fun u j τ2 num nb d _ hd hb=>h4 u j τ2 nb d (fun b p e=>by cases e) ⟨fun _=>none,undef,.any _⟩ hd hb,fun y=>h5.1 y⟩
 |ptr i z=>
  simp only[Bm];split
  ·rename_i b G m f;cases hc:z8 bl i b&&Nat.beq z G&&decide (m=0)&&Nat.beq f 0 with
   |false=>exact Mg|true=>
    simp only[JM,KA,Kh]at hc;obtain⟨⟨⟨hi,rfl⟩,rfl⟩,rfl⟩:=hc;refine Ml fun s' _=>⟨fun so h=>(by cases h),fun _=>rfl,fun _=>rfl,fun u j τ2 num nb d hb _ _=>?_,fun h=>absurd rfl h⟩
    unfold z8 at hi;split at hi
    ·rename_i b' t;have:=JQ hi;subst this;cases j with
     |ptr _ _ _ _ D o' h h0=>exact .ptr (num i) z (.int 0) 0 D o' (by rw[hb i b t];exact h) h0
    ·cases hi
  ·exact Mg
 |clo g is=>
  simp only[Bm];split
  ·rename_i B l;cases hc:Nat.beq g B&&mtC bl is l with
   |false=>exact Mg|true=>
    rw[JM]at hc;have:=JQ hc.1;subst this;refine Ml fun s' _=>⟨fun so h=>(by cases h),fun _=>rfl,fun _=>rfl,fun u j τ2 num nb d hb _ _=>?_,fun h=>absurd rfl h⟩
    cases j with
    |fn _ _ _ xs ys h1 h2 h3 h4=>refine .fn _ _ _ xs ys h1 (fun i a x ha hx=>by simp at ha) (by rw[<-h3];exact zm hc.2) fun i a x ha hx=>?_;exact zk hc.2 hb ⟨h3,h4⟩ ha hx
  ·exact Mg
 |nilp=>
  simp only[Bm];split
  ·refine Ml fun s' _=>⟨fun so h=>(by cases h),fun _=>rfl,fun _=>rfl,fun u j τ2 num nb d _ _ _=>?_,fun h=>absurd rfl h⟩
   cases j;exact .nilp
  ·exact Mg
 |cst k e=>
  simp only[Bm];cases hn:Nat.beq k.na 0 with
  |false=>exact Mg|true=>
   have hn:=JQ hn;rw[Kc];refine(wS (P:=P) (τ:=τ) (F:=F) (fun _=>none) k .any v).bind fun r s1 K _ hr=>?_;split
   ·rename_i d so hd A;split
    ·rename_i c hc;refine OKp.need.bind fun _ s2 L C hp=>Ml fun s' q=>?_;obtain⟨h1,h2,h3,h4,h5⟩:=hr s' q;refine⟨fun so h=>(by cases h),fun _=>rfl,fun _=>rfl,fun u j τ2 num nb J _ _ _=>?_,fun h=>absurd rfl h⟩;refine h4 u j τ2 nb e (fun b p e=>by cases e) ⟨fun _=>none,undef,.any _⟩ (fun e' E he n=>?_) fun b hb=>?_
     ·rw[hd]at he;cases he;rw[A]at n;cases n;exact IR hc hp
     ·rw[h3 hn]at hb;cases hb
    ·exact Mg
   ·exact Mg
variable (P U) in
def fw (bl:Ah)(τ:Tau)(F:Ac)(s:SS):List Lf->Au->Av->Ah->Prop
 | [],[],es,bs=>es=[]/\bs=[]
 |x::l,v::vs,es,bs=>∃r es' bs',es=O9 r.1 es'/\bs=O9 r.2 bs'/\LOK P U bl τ F s x v r/\fw bl τ F s l vs es' bs'|_,_,_,_=>False
def wT {τ:Tau}{F:Ac}(bl:Ah):∀(ps:List Lf) (vs:Au) (s:SS),OKp U (mtL U bl ps vs) s fun r=>∀s',s'.h=s.h->fw P U bl τ F s' ps vs r.1 r.2
 | [],[],s=>Ml fun _ _=>⟨rfl,rfl⟩
 | [],_::_,s=>Mg|_::_,[],s=>Mg|p::ps,v::vs,s=>by unfold mtL;refine(Ha (P:=P) (τ:=τ) (F:=F) bl p v).bind fun r s1 c _ h1=>(wT (τ:=τ) (F:=F) bl ps vs s1).bind fun t s2 d _ h2=>Ml fun s' a=>?_;exact⟨r,t.1,t.2,rfl,rfl,h1 s' a,h2 s' (by rw[a,c.h])⟩
section
variable {bl :Ah}{τ:Tau}{F:Ac}{s:SS}
def Lf.blk_none {x:Lf}(h:x.na=0)(d:E):x.blk d=none:=by
 cases x with
 |g k=>exact G.blk_none h .any d|_=>rfl
theorem ud {x:Lf}{ps:List Lf}{v:SV}{r:Bc E×Ai}{c ds:Av}(h:LOK P U bl τ F s x v r)(hd:bE U (j5 (x::ps)) (O9 r.1 c) ds):(∀e so,r.1=some e->x.so=some so->iy U so e (hd1 ds))/\bE U (j5 ps) c (uz x ds)/\(∀b,r.2=some b->x.na=1)/\(x.na=0\/x.na=1):=by
 obtain⟨m,m2,m3,m4,m5⟩:=h;have j:x.na=0\/x.na=1:=by
  cases x with
  |g k=>exact k.na_le|_=>exact .inl rfl
 refine⟨?_,?_,fun b hb=>?_,j⟩
 ·intro e so he a;unfold j5 at hd;rw[a,he]at hd;cases ds with
  |nil=>exact hd.elim|cons d ds=>exact hd.1
 ·unfold j5 at hd;cases a:x.so with
  |none=>rw[a,m2 a]at hd;unfold uz;rw[a];exact hd|some so=>
   obtain⟨e,he⟩:=m so a;rw[a,he]at hd;cases ds with
   |nil=>exact hd.elim|cons d ds=>unfold uz;rw[a];exact hd.2
 ·grind
theorem fw.vals :∀ {ps:List Lf} {vs:Au} {es:Av} {bs:Ah} {ds:Av} {xs:Af} {τ2:Tau} {num:Nat->Nat} {nb:Nat},fw P U bl τ F s ps vs es bs->bE U (j5 ps) es ds->(∀i b,bl[i]? =some b->τ2 (num i)=τ b)->(∀k b,bs[k]? =some b->τ2 (nb+k)=τ b)->VDL P U τ F vs xs->VDL P U τ2 F (AO num ps ds nb) xs
 | [], [], es, bs, ds, xs, τ2, num, nb, h, hd, hk, hb, hx => by have:xs=[]:=JR hx.1.symm;subst this;exact MC| [],_::_,es,bs,ds,xs,τ2,num,nb,h,hd,hk,hb,hx=>h.elim|x::ps,[],es,bs,ds,xs,τ2,num,nb,h,hd,hk,hb,hx=>h.elim|x::ps,v::vs,es,bs,ds,xs,τ2,num,nb,h,hd,hk,hb,hx=>by
  obtain⟨r,e,d,rfl,rfl,hm,c⟩:=h;obtain⟨y,ys,rfl,h1,h2⟩:=hx.uncons;obtain⟨s1,s2,j,g⟩:=ud hm hd;unfold AO;refine .cons (hm.2.2.2.1 y h1 τ2 num nb (hd1 ds) hk s1 fun b hr=>?_) (fw.vals c s2 hk (fun k b a=>?_) h2)
  ·have:=hb 0 b (by rw[hr];rfl);grind
  ·rcases g with h0|h0
   ·rw[h0,Lb];have hr:r.2=none:=hm.2.2.1 h0;rw[hr]at hb;exact hb k b a
   ·obtain⟨so,_,b',L,x',hr,_⟩:=hm.2.2.2.2 (by omega);rw[hr]at hb;have:=hb (k+1) b a;grind
theorem fw.blks :∀ {ps:List Lf} {vs:Au} {es:Av} {bs:Ah} {ds:Av} {nb:Nat},fw P U bl τ F s ps vs es bs->bE U (j5 ps) es ds-> ∀b' y,lk (X0 ps ds nb) b'=some y-> ∃k b X x',b'=nb+k/\bs[k]? =some b/\y=some X/\s.get b=some x'/\(∀(τ2:Tau) o z,BD P U τ F o x' z->BD P U τ2 F o X z)/\(H4 P U x'->H4 P U X)
 | [],vs,es,bs,ds,nb,h,hd=>fun b' y hy=>by simp[X0,lk]at hy
 |x::ps,[],es,bs,ds,nb,h,hd=>h.elim|x::ps,v::vs,es,bs,ds,nb,h,hd=>by
  obtain⟨r,A,t,rfl,rfl,hm,e⟩:=h;obtain⟨s1,s2,D,B⟩:=ud hm hd;intro b' y hy;have p:=fw.blks (nb:=nb+x.na) e s2;by_cases c:x.na=0
  ·have hr:r.2=none:=hm.2.2.1 c;have a:lk (X0 ps (uz x ds) (nb+x.na)) b'=some y:=by unfold X0 at hy;rw[Lf.blk_none c]at hy;exact hy
   obtain⟨k,b,X,x',h1,h2⟩:=p b' y a;exact⟨k,b,X,x',by rw[h1,c,Lb],by rw[hr];exact h2⟩
  ·have g:x.na=1:=B.resolve_left c;obtain⟨so,m,b0,L,x',hr,j,hx,d⟩:=hm.2.2.2.2 c;obtain⟨q,C,k1,k2⟩:=d (hd1 ds) (s1 L so j m);have a:lk ((nb,some q)::X0 ps (uz x ds) (nb+x.na)) b'=some y:=by unfold X0 at hy;grind
   rw[p8]at a;split at a
   ·rename_i u;simp only[JL]at a;exact⟨0,b0,_,x',u.symm,by rw[hr];rfl,a.symm,hx,k1,k2⟩
   ·obtain⟨k,b,X,n,h1,h2,h3⟩:=p b' y a;exact⟨k+1,b,X,n,by rw[h1,g];omega,by rw[hr];exact h2,h3⟩
theorem fw.live :∀ {ps:List Lf} {vs:Au} {es:Av} {bs:Ah},fw P U bl τ F s ps vs es bs-> ∀ {k b:Nat},bs[k]? =some b-> ∃x,s.get b=some x
 | [],[],es,bs,h,k,b,hb=>by rw[h.2]at hb;simp at hb| [],_::_,es,bs,h,k,b,hb=>h.elim|p::ps,[],es,bs,h,k,b,hb=>h.elim|p::ps,v::vs,es,bs,h,k,b,hb=>by
  obtain⟨r,e,d,rfl,rfl,hm,a⟩:=h;cases hr:r.2 with
  |none=>rw[hr]at hb;exact a.live hb|some b0=>
   rw[hr]at hb;cases k with
   |succ k=>exact a.live (k:=k) hb|zero=>
    have c:p.na≠0:=fun h0=>by rw[hm.2.2.1 h0]at hr;cases hr
    obtain⟨so,_,b1,L,x',h1,_,hx,_⟩:=hm.2.2.2.2 c;rw[hr]at h1;simp only[JL]at h1;have e0:b0=b:=by simpa [O9]using hb
    grind
def fw.len :∀ {ps:List Lf} {vs:Au} {es:Av} {bs:Ah},fw P U bl τ F s ps vs es bs->es.length=(j5 ps).length
 | [],[],es,bs,h=>by rw[h.1];rfl| [],_::_,es,bs,h=>h.elim|p::ps,[],es,bs,h=>h.elim|p::ps,v::vs,es,bs,h=>by
  obtain⟨r,j,g,rfl,rfl,hm,c⟩:=h;have d:=c.len;unfold j5;cases a:p.so with
  |none=>rw[hm.2.1 a];exact d|some so=>obtain⟨e,he⟩:=hm.1 so a;rw[he];simp only[O9,KE,d]
end
inductive Vs where
 |one (l:Lf)
 |agg (ls:List Lf)
def Vs.lfs :Vs->List Lf
 | .one l=>[l]
 | .agg ls=>ls
def Vs.fl :Vs->SV->Bc (Au)
 | .one _,v=>some [v]| .agg ls,.agg l=>bif Nat.beq l.length ls.length then some l else none|_,_=>none
def hdV :Au->SV
 | []=>.any|v::_=>v
def Vs.mk :Vs->Au->SV
 | .one _,l=>hdV l| .agg _,l=>.agg l
def oI :List Vs->Au->Bc (Au)
 | [],[]=>some []|a::r,v::vs=>match a.fl v with
  |some l=>match oI r vs with
   |some m=>some (l++m)|none=>none
  |none=>none
 |_,_=>none
def Q6 :List Vs->List Lf
 | []=>[]
 |a::r=>a.lfs++Q6 r
def wQ :List Vs->Au->Au
 | [],_=>[]
 |a::r,fl=>a.mk (fl.take a.lfs.length)::wQ r (fl.drop a.lfs.length)
def VDL.split {c:Au}{xs ys:Af}(h:VDL P U τ F c (xs++ys)):VDL P U τ F (c.take xs.length) xs/\VDL P U τ F (c.drop xs.length) ys:=by
 induction xs generalizing c with
 |nil=>exact⟨by simpa using MC,by simpa using h⟩|cons x xs d=>
  cases c with
  |nil=>have:=h.1;simp at this|cons a c=>obtain⟨y,g,e,h1,h2⟩:=h.uncons;cases e;obtain⟨k1,k2⟩:=d h2;exact⟨.cons h1 k1,k2⟩
variable {l:Au}
theorem Vs.fl_ok {a:Vs}{v:SV}{x:Aw}(h:a.fl v=some l)(j:VD P U τ F v x):∃xs,VDL P U τ F l xs/\xs.length=a.lfs.length/\ ∀(τ2:Tau) g c,VDL P U τ2 g c xs->VD P U τ2 g (a.mk c) x:=by
 cases a with
 |one n=>
  simp only[Vs.fl,JL]at h;subst h;refine⟨[x],.cons j .nil,rfl,fun τ2 g c d=>?_⟩;cases c with
  |nil=>have:=d.1;simp at this|cons b c=>obtain⟨y,ys,e,h1,_⟩:=d.uncons;cases e;exact h1
 |agg ls=>
  unfold Vs.fl at h;split at h
  ·grind
  ·rename_i k m hh;cases hh;cases hc:Nat.beq m.length ls.length with
   |false=>grind|true=>
    rw[hc,Kc,JL]at h;subst h;cases j with
    |agg _ xs h1 h2=>exact⟨xs,⟨h1,h2⟩,by rw[<-h1];exact JQ hc,fun τ2 g c d=>.agg c xs d.1 d.2⟩
  ·cases h
def ra {τ:Tau}{F:Ac}:∀ {as:List Vs} {vs fl:Au} {args:Af},oI as vs=some fl->VDL P U τ F vs args-> ∃e,VDL P U τ F fl e/\e.length=(Q6 as).length/\ ∀(τ2:Tau) d j rest,VDL P U τ2 d j e->VDL P U τ2 d (wQ as (j++rest)) args
 | [],[],fl,args,h,g=>by simp only[oI,JL]at h;subst h;have:args=[]:=JR g.1.symm;subst this;exact⟨[],.nil,rfl,fun _ _ _ _ _=>.nil⟩| [],_::_,fl,args,h,g=>by simp[oI]at h|_::_,[],fl,args,h,g=>by simp[oI]at h|a::r,v::vs,fl,args,h,g=>by
  unfold oI at h;split at h
  ·rename_i l hl;split at h
   ·rename_i m hm;cases h;obtain⟨y,ys,rfl,h1,h2⟩:=g.uncons;obtain⟨xs,k1,k2,k3⟩:=Vs.fl_ok hl h1;obtain⟨e,q1,q2,q⟩:=ra hm h2;refine⟨xs++e,k1.append q1,by simp[Q6,k2,q2],fun τ2 d j rest k=>?_⟩;obtain⟨n,p⟩:=k.split;have c:xs.length<=j.length:=by rw[k.1];simp
    unfold wQ;rw[<-k2,List.take_append_of_le_length c,List.drop_append_of_le_length c];exact .cons (k3 τ2 d _ n) (q τ2 d _ rest p)
   ·cases h
  ·cases h
def resL :List Vs->SV->Bc (Au)
 | [_],a=>some [a]|_,.tup l=>some l|_,_=>none
def uy :List Vs->Au->SV
 | [_],l=>hdV l|_,l=>.tup l
theorem Hn {res:List Vs}{a:SV}{v:Aw}(h:resL res a=some l)(j:VD P U τ F a v):∃xs,VDL P U τ F l xs/\ ∀(τ2:Tau) d k,VDL P U τ2 d k xs->VD P U τ2 d (uy res k) v:=by
 unfold resL at h;split at h
 ·simp only[JL]at h;subst h;refine⟨[v],.cons j .nil,fun τ2 d g c=>?_⟩;cases g with
  |nil=>have:=c.1;simp at this|cons b g=>obtain⟨y,ys,e,h1,_⟩:=c.uncons;cases e;exact h1
 ·rename_i r m n;cases h;cases j with
  |tup _ xs h1 h2=>
   refine⟨xs,⟨h1,h2⟩,fun τ2 d g c=>?_⟩;unfold uy;split
   ·grind
   ·exact .tup g xs c.1 c.2
 ·cases h
abbrev lf:=Ay ×Nat×List Lf
def DT :List lf->List Lf
 | []=>[]
 |a::r=>a.2.2++DT r
def oG (s:SS):List lf->Ah->Bc (Au)
 | [],[]=>some []|a::r,b::bs=>match s.get b with
  | some (.cells l e' z') => bif Nat.beq a.1 e' && Nat.beq a.2.1 z' && Nat.beq l.length a.2.2.length then
    match oG s r bs with
    |some m=>some (l++m)|none=>none
   else none
  |_=>none
 |_,_=>none
def Z9 (num:Nat->Nat):Nat->List lf->Au->List (Nat×Bc w9)
 |_,[],_=>[]
 |i,a::r,fl=>(num i,some (.cells (fl.take a.2.2.length) a.1 a.2.1))::Z9 num (i+1) r (fl.drop a.2.2.length)
def BX (τ:Tau)(hp:Hp):List lf->Ah->Af->Prop
 | [],[],fx=>fx=[]
 |a::r,b::bs,fx=>∃xs ys,fx=xs++ys/\xs.length=a.2.2.length/\(∃i o cs n,τ b=some (some (i,o))/\hp.m.get i=some (.cells cs n a.1 a.2.1)/\o+xs.length<=n/\ ∀(j:Nat) x,xs[j]? =some x->cs.get (o+j)=some x)/\BX τ hp r bs ys|_,_,_=>False
def BX.mono {τ':Tau}{hp:Hp}(ht:Tle τ τ'):∀ {r:List lf} {bs:Ah} {c:Af},BX τ hp r bs c->BX τ' hp r bs c
 | [],[],c,h=>h| [],_::_,c,h=>h.elim|_::_,[],c,h=>h.elim|a::r,b::bs,c,h=>by obtain⟨xs,ys,h1,h2,⟨i,o,cs,n,h3,h4⟩,h5⟩:=h;exact⟨xs,ys,h1,h2,⟨i,o,cs,n,ht _ _ h3,h4⟩,h5.mono ht⟩
def BX.len {hp:Hp}:∀ {r:List lf} {bs:Ah} {c:Af},BX τ hp r bs c->bs.length=r.length/\c.length=(DT r).length
 | [],[],c,h=>by have h:c=[]:=h;subst h;exact⟨rfl,rfl⟩| [],_::_,c,h=>h.elim|_::_,[],c,h=>h.elim|a::r,b::bs,c,h=>by obtain⟨xs,ys,rfl,h2,_,h5⟩:=h;obtain⟨k1,k2⟩:=h5.len;exact⟨by simp[k1],by simp[DT,h2,k2]⟩
theorem qQ {τ:Tau}{F:Ac}{s:SS}{hp:Hp}(hs:SD P U τ F s hp):∀ {r:List lf} {bs:Ah} {fl:Au},oG s r bs=some fl-> ∃g,VDL P U τ F fl g/\BX τ hp r bs g
 | [],[],fl,h=>by simp only[oG,JL]at h;subst h;exact⟨[],.nil,rfl⟩| [],_::_,fl,h=>by simp[oG]at h|_::_,[],fl,h=>by simp[oG]at h|a::r,b::bs,fl,h=>by
  unfold oG at h;split at h
  ·rename_i l e' u hb;cases hc:Nat.beq a.1 e'&&Nat.beq a.2.1 u&&Nat.beq l.length a.2.2.length with
   |false=>rw[hc]at h;cases h
   |true=>
    rw [hc, Kc] at h;simp only [JM,KA] at hc;obtain ⟨⟨rfl,rfl⟩,p⟩:=hc;split at h
    ·rename_i m hm;cases h;obtain⟨g,q1,q2⟩:=qQ hs hm;rcases hs.live b _ hb with⟨i,o,y,h1,h2,h3,cs,n,rfl,h4,h5⟩| ⟨_,L,e',u,ph,h2,_⟩
     ·have c:∀j,∃x,∀a',l[j]? =some a'->cs.get (o+j)=some x/\VD P U τ F a' x:=by
       intro j;cases hj:l[j]? with
       |none=>exact⟨undef,fun a' e=>by cases e⟩|some a'=>simp_all
      obtain⟨ch,k⟩:=Classical.axiomOfChoice c;let xs:=(List.range l.length).map ch
      have d:xs.length=l.length:=by simp[xs]
      have q:∀(j:Nat) x,xs[j]? =some x-> ∃a',l[j]? =some a'/\x=ch j:=by
       intro j x hx;have hj:j<l.length:=by grind
       refine⟨l[j],JX hj,?_⟩;grind
      have z:VDL P U τ F l xs:=⟨d.symm,fun j a' x ha hx=>by obtain⟨_,_,rfl⟩:=q j x hx;exact(k j a' ha).2⟩
      refine⟨xs++g,z.append q1,xs,g,rfl,by rw[d];exact p,⟨i,o,cs,n,h1,h2,by rw[d];exact h4,fun j x hx=>?_⟩,q2⟩;obtain⟨a',t,rfl⟩:=q j x hx;exact(k j a' t).1
     ·cases h2
    ·cases h
  ·cases h
def rC {τ τ2:Tau}{F:Ac}{hp:Hp}{num:Nat->Nat}{rest:Au}:∀ {r:List lf} {bs:Ah} {g:Af} {d:Au} {i0:Nat},BX τ hp r bs g->VDL P U τ2 F d g-> ∀ {b:Nat} {y:Bc w9},lk (Z9 num i0 r (d++rest)) b=some y-> ∃j p X i o Y,b=num (i0+j)/\bs[j]? =some p/\y=some X/\(∃l e z,X= .cells l e z)/\τ p=some (some (i,o))/\hp.m.get i=some Y/\BD P U τ2 F o X Y
 | [],[],g,d,i0,h,k,b,y,hy=>by simp[Z9,lk]at hy| [],_::_,g,d,i0,h,k,b,y,hy=>h.elim|_::_,[],g,d,i0,h,k,b,y,hy=>h.elim|a::r,b0::bs,g,d,i0,h,k,b,y,hy=>by
  obtain⟨xs,ys,rfl,h2,⟨i,o,cs,n,h3,h4,h5,D⟩,h7⟩:=h;obtain⟨t,C⟩:=k.split;have c:xs.length<=d.length:=by rw[k.1];simp
  unfold Z9 at hy;rw[<-h2,List.take_append_of_le_length c,List.drop_append_of_le_length c,p8]at hy;split at hy
  ·rename_i e;simp only[JL]at hy;subst hy;refine⟨0,b0,_,i,o,_,e.symm,rfl,rfl,⟨_,_,_,rfl⟩,h3,h4,cs,n,rfl,by rw[t.1];exact h5,fun j a' ha=>?_⟩;obtain⟨x,hx,q⟩:=t.get ha;exact⟨x,D j x hx,q⟩
  ·obtain⟨j,p,X,E,o',Y,u,A,B⟩:=rC h7 C hy;exact⟨j+1,p,X,E,o',Y,by rw[u];congr 1;omega,A,B⟩
theorem mO {num:Nat->Nat}:∀ {r:List lf} {fl:Au} {i0 j:Nat},j<r.length->num (i0+j)∈(Z9 num i0 r fl).map Prod.fst
 | [],fl,i0,j,h=>by simp at h|a::r,fl,i0,0,h=>by simp[Z9]|a::r,fl,i0,j+1,h=>by simp only[Z9,KM,Ky];right;have:=mO (num:=num) (r:=r) (fl:=fl.drop a.2.2.length) (i0:=i0+1) (j:=j) (by simpa using h);grind
end
end Go.Sx
end PartSm33
noncomputable section PartSm34
namespace Go.Sx
open Go.Xe
structure Con where
 name:String
 args:List Vs
 blks:List lf
 find:Au->SS->Bc (Ah)
 pre:As->Prop
 res:List Vs
 post:List lf
 find':SV->SS->Bc (Ah)
 rel:As->As->Prop
def Con.inL (c:Con):List Lf:=Q6 c.args++DT c.blks
def Con.outL (c:Con):List Lf:=Q6 c.res++DT c.post
def O8 :Nat->Nat->Ah
 |_,0=>[]
 |i,n+1=>i::O8 (i+1) n
def B9 :∀(n i:Nat),(O8 i n).length=n
 |0,_=>rfl|n+1,i=>by simp[O8,B9 n]
theorem dV :∀(n i k:Nat),(O8 i n)[k]? =if k<n then some (i+k)else none
 |0,i,k=>by simp[O8]|n+1,i,0=>by simp[O8]|n+1,i,k+1=>by simp only[O8,JW,dV n (i+1) k];grind
def idN :Nat->Nat:=fun i=>i
def kr (c:Con)(es:Av):Au:=AO idN c.inL es c.blks.length
def kq (c:Con)(es:Av):Au:=wQ c.args (kr c es)
def gst (c:Con)(es:Av)(fv:Nat):SS:=⟨Z9 idN 0 c.blks ((kr c es).drop (Q6 c.args).length)++X0 c.inL es c.blks.length,c.blks.length+I9 c.inL,[],fv,[]⟩
def nQ (τ:Tau)(ns:Ah):Tau:=fun b=>match ns[b]? with
 |some b'=>τ b'|none=>none
def U8 (c:Con)(bl:Ah)(n:Nat)(i:Nat):Nat:=bif Nat.ble (i+1) c.blks.length then bl.getD i 0 else n+(i-c.blks.length)
def P9 (c:Con)(es:Av)(s:SS)(bl:Ah):Au:=AO (U8 c bl s.nx) c.outL es (s.nx+(c.post.length-c.blks.length))
def fst_ (c:Con)(es:Av)(s:SS)(bl kill:Ah):SS:=
 ⟨Z9 (U8 c bl s.nx) 0 c.post ((P9 c es s bl).drop (Q6 c.res).length)++(X0 c.outL es (s.nx+(c.post.length-c.blks.length))++(S6 (kill++(bl++ [s.nx]))++s.h)),s.nx+(c.post.length-c.blks.length)+I9 c.outL,s.fc,s.fv+(j5 c.outL).length,s.fz⟩
def uc (s:SS)(b:Nat):Bool:=(s.get b).isSome
section
variable (P :Ax)(U:Ab)
def cfin (c:Con)(es:Av)(a:SV):M Unit:=o8 fun s=>match resL c.res a with
 |none=>a7 "contract: result"|some l=>match oI c.res l with
  |none=>a7 "contract: results"|some fl1=>match c.find' a s with
   |none=>a7 "contract: new blocks"|some nw=>match oG s c.post (O8 0 c.blks.length++nw)with
    |none=>a7 "contract: blocks behind"|some fl2=>c6 (ur P U c.outL (fl1++fl2)) fun vs=>c6 (mtL U (O8 0 c.blks.length++nw) c.outL vs) fun t=>o8 fun s2=>
     bif (O8 0 c.blks.length++nw).all (uc s2)&&gc (nw++t.2)&&nw.all (Nat.ble (c.blks.length+I9 c.inL))&&t.2.all (Nat.ble c.blks.length)&&Nat.beq t.2.length (I9 c.outL)&&Nat.beq (nw.length+c.blks.length) c.post.length then
      fun _=>.need (.pt (c.name++ "Rel") [(j5 c.inL).zip es,(j5 c.outL).zip t.1]) (c.rel (j6 U (j5 c.inL) es) (j6 U (j5 c.outL) t.1)) .done
     else a7 "contract: the end"
def cvc (c:Con)(run:Au->M SV):Tr (Unit×SS):=
 AI (j5 c.inL) 0 fun es=>.asm (.pt (c.name++ "Pre") [(j5 c.inL).zip es]) (c.pre (j6 U (j5 c.inL) es)) ((c6 (run (kq c es)) (cfin P U c es)) (gst c es (j5 c.inL).length))
def kcon (c:Con)(args:Au):M SV:=o8 fun s0=>match oI c.args args with
 |none=>a7 "contract: arguments"|some fl1=>match c.find args s0 with
  |none=>a7 "contract: no blocks"|some bl=>match oG s0 c.blks bl with
   |none=>a7 "contract: blocks"|some fl2=>c6 (ur P U c.inL (fl1++fl2)) fun vs=>c6 (mtL U bl c.inL vs) fun t=>o8 fun s1=>
    bif bl.all (uc s1)&&gc (bl++t.2)&&Nat.beq t.2.length (I9 c.inL)&&Nat.ble c.blks.length c.post.length then
     fun _=>.need (.pt (c.name++ "Pre") [(j5 c.inL).zip t.1]) (c.pre (j6 U (j5 c.inL) t.1)) (AI (j5 c.outL) s1.fv fun ds=>.asm (.pt (c.name++ "Rel") [(j5 c.inL).zip t.1,(j5 c.outL).zip ds]) (c.rel (j6 U (j5 c.inL) t.1) (j6 U (j5 c.outL) ds))
      (.ret (uy c.res (wQ c.res (P9 c ds s1 bl)),fst_ c ds s1 bl t.2)))
    else a7 "contract: the start"
end
section
variable {P :Ax}{U:Ab}{ov:Aa}
def pA {s:SS}{b:Nat}(h:uc s b=true):∃x,s.get b=some x:=Option.isSome_iff_exists.1 h
def P3 {τ:Tau}{a:Ah}{b b':Nat}(h:a[b]? =some b'):nQ τ a b=τ b':=by unfold nQ;rw[h]
theorem Jc {c:Con}{τ:Tau}{F:Ac}{s:SS}{hp:Hp}{vs:Au}{t u:Af}{bl a:Ah}{es ds:Av}{fv:Nat}(hs:SD P U τ F s hp)(hv:VDL P U τ F vs (t++u))(h1:t.length=(Q6 c.args).length)(hb:BX τ hp c.blks bl u)(hm:fw P U bl τ F s c.inL vs es a)(hd:gc (bl++a)=true)(n:∀b∈bl,∃x,s.get b=some x)(hn:a.length=I9 c.inL)(G:bE U (j5 c.inL) es ds):SD P U (nQ τ (bl++a)) F (gst c ds fv) hp/\VDL P U (nQ τ (bl++a)) F (kr c ds) (t++u)/\ ∀b x,(gst c ds fv).get b=some x-> ∃b' x',(bl++a)[b]? =some b'/\s.get b'=some x':=by
 have aa:bl.length=c.blks.length:=hb.len.1;have W:∀i b,bl[i]? =some b->(bl++a)[i]? =some b:=fun i b h=>by rw[JU (JO.1 h).1];exact h
 have T:∀k b,a[k]? =some b->(bl++a)[c.blks.length+k]? =some b:=fun k b h=>by grind
 have p:VDL P U (nQ τ (bl++a)) F (kr c ds) (t++u):=hm.vals G (fun i b h=>P3 (W i b h)) (fun k b h=>P3 (T k b h)) hv;obtain⟨_,Z⟩:=p.split;rw[h1]at Z;have V:=hm.blks (nb:=c.blks.length) G;have C:∀b x,(gst c ds fv).get b=some x->
   (∃b' i o Y,bl[b]? =some b'/\(∃l e z,x= .cells l e z)/\τ b'=some (some (i,o))/\hp.m.get i=some Y/\BD P U (nQ τ (bl++a)) F o x Y)\/
   (∃k b' x',b=c.blks.length+k/\a[k]? =some b'/\s.get b'=some x'/\(∀(τ2:Tau) o z,BD P U τ F o x' z->BD P U τ2 F o x z)/\(H4 P U x'->H4 P U x)):=by
  intro b x d;have g:(match lk (Z9 idN 0 c.blks ((kr c ds).drop (Q6 c.args).length)++X0 c.inL ds c.blks.length) b with|some x=>x|none=>none)=some x:=d;rw[K9]at g;cases M:lk (Z9 idN 0 c.blks ((kr c ds).drop (Q6 c.args).length)) b with
  |some y=>
   rw[M]at g;simp only at g;subst g;rw[<-Lz ((kr c ds).drop (Q6 c.args).length)]at M;obtain⟨j,bj,X,i,o,Y,r,A,B,K,L,e6,e7⟩:=rC hb Z M;cases B;have:b=j:=by rw[r];show 0+j=j;omega
   grind
  |none=>grind
 have src:∀b x,(gst c ds fv).get b=some x-> ∃b' x',(bl++a)[b]? =some b'/\s.get b'=some x':=by
  intro b x d;rcases C b x d with⟨b',i,o,Y,r,_⟩| ⟨k,b',x',rfl,A,B,_⟩
  ·obtain⟨x',J⟩:=n b' (JV r);grind
  ·grind
 refine⟨⟨fun b x d=>?_,fun b b2 x y i o j q d N O r A=>?_,hs.frz,fun b i o h=>?_,hs.flt,fun b D=>?_,(fun _ _ h=>by cases h),fun _ h=>by cases h⟩,p,src⟩
 ·rcases C b x d with⟨b',i,o,Y,r,A,B,K,L⟩| ⟨k,b',x',rfl,A,B,K,L⟩
  ·obtain⟨x',J⟩:=n b' (JV r);rcases hs.live b' x' J with⟨i',o',y',k1,_,k3,_⟩| ⟨k1,_⟩
   ·rw[B]at k1;cases k1;exact .inl ⟨i,o,Y,by rw[P3 (W b b' r)];exact B,K,k3,L⟩
   ·grind
  ·rcases hs.live b' x' B with⟨i,o,y,k1,k2,k3,R⟩| ⟨k1,k2⟩
   ·exact .inl ⟨i,o,y,by rw[P3 (T k b' A)];exact k1,k2,k3,K _ o y R⟩
   ·exact .inr ⟨by rw[P3 (T k b' A)];exact k1,L k2⟩
 ·obtain⟨b',x',k1,k2⟩:=src b x d;obtain⟨c',y',k3,R⟩:=src b2 y N;rw[P3 k1]at r;rw[P3 k3]at A;refine hs.inj b' c' x' y' i o j q k2 R (fun e=>?_) r A;subst e;exact O (dM hd b b2 b' k1 k3)
 ·unfold nQ at h;split at h
  ·exact hs.lt _ i o h
  ·cases h
 ·have D:c.blks.length+I9 c.inL<=b:=D;unfold nQ;grind
variable (P U) in
def RX (c:Con)(X:Af->Hp->Aw->Hp->Prop)(es:Av)(τ:Tau)(F:Ac)(hp:Hp)(xs:Af):Prop:=
 ∃v τ' F' s' hp' vs fx1 fx2 es' nw accs,X xs hp v hp'/\Ext τ F (gst c (E2 U (j5 c.inL) 0 es) (j5 c.inL).length) hp τ' F' s' hp'/\SD P U τ' F' s' hp'/\VDL P U τ' F' vs (fx1++fx2)/\fx1.length=(Q6 c.res).length/\
  (∀(τ2:Tau) F2 gl rest,VDL P U τ2 F2 gl fx1->VD P U τ2 F2 (uy c.res (wQ c.res (gl++rest))) v)/\BX τ' hp' c.post (O8 0 c.blks.length++nw) fx2/\fw P U (O8 0 c.blks.length++nw) τ' F' s' c.outL vs es' accs/\
  (∀b∈O8 0 c.blks.length++nw,∃x,s'.get b=some x)/\gc (nw++accs)=true/\(∀b∈nw,c.blks.length+I9 c.inL<=b)/\(∀b∈accs,c.blks.length<=b)/\accs.length=I9 c.outL/\nw.length+c.blks.length=c.post.length/\
  c.rel (j6 U (j5 c.inL) es) (j6 U (j5 c.outL) es')
variable (P U) in
def II (c:Con)(Pm:Af->Prop)(X:Af->Hp->Aw->Hp->Prop):Prop:=∀(es:Av),es.length=(j5 c.inL).length->c.pre (j6 U (j5 c.inL) es)-> ∀τ F hp xs,SD P U τ F (gst c (E2 U (j5 c.inL) 0 es) (j5 c.inL).length) hp->VDL P U τ F (kq c (E2 U (j5 c.inL) 0 es)) xs->Pm xs->RX P U c X es τ F hp xs
variable (P U ov) in
def g8 (c:Con)(g:Az):Prop:=∀(es:Av),es.length=(j5 c.inL).length->c.pre (j6 U (j5 c.inL) es)-> ∀τ F hp xs,SD P U τ F (gst c (E2 U (j5 c.inL) 0 es) (j5 c.inL).length) hp->VDL P U τ F (kq c (E2 U (j5 c.inL) 0 es)) xs->RX P U c (A4 P ov g) es τ F hp xs
def BF {c:Con}{run:Au->M SV}{Pm:Af->Prop}{X:Af->Hp->Aw->Hp->Prop}(x:∀es τ F hp xs,VDL P U τ F (kq c es) xs->Pm xs->SD P U τ F (gst c es (j5 c.inL).length) hp->OKh P U (run (kq c es)) τ F (gst c es (j5 c.inL).length) hp fun a τ' F' hp'=>∃v,X xs hp v hp'/\VD P U τ' F' a v)(aa:(cvc P U c run).vc U fun _=>True):II P U c Pm X:=by
 intro es e u τ F hp xs hs hx W;unfold RX;have hq:=lz (U:=U) _ _ _ aa es e;have hq:=hq (by rw[Q4 _ _ _ e];exact u);generalize K:E2 U (j5 c.inL) 0 es=ds at*;rw[v5]at hq;obtain⟨a,s1,hq,τ1,F1,hp1,D,hs1,v,j,Z⟩:=x _ τ F hp xs hx W hs _ hq hs;unfold cfin at hq;simp only[o8]at hq;cases A:resL c.res a with
 |none=>rw[A]at hq;exact hq.elim|some l=>
 rw[A]at hq;simp only at hq;cases B:oI c.res l with
 |none=>rw[B]at hq;exact hq.elim|some E=>
 rw[B]at hq;simp only at hq;cases c3:c.find' a s1 with
 |none=>rw[c3]at hq;exact hq.elim|some nw=>
 rw[c3]at hq;simp only at hq;cases C:oG s1 c.post (O8 0 c.blks.length++nw)with
 |none=>rw[C]at hq;exact hq.elim|some G=>
 rw[C]at hq;simp only at hq;obtain⟨us,R,T⟩:=Hn A Z;obtain⟨p,L,N,O⟩:=ra B R;obtain⟨q,J,hb2⟩:=qQ hs1 C;rw[v5]at hq;obtain⟨vs,s2,hq,τ2,F2,hp2,n,k,rfl,ab⟩:=mS c.outL (E++G) (p++q) τ1 F1 s1 hp1 (L.append J) hs1 _ hq hs1;rw[v5]at hq;obtain⟨⟨m,d⟩,s3,hq,o3,r,V⟩:=wT (P:=P) (τ:=τ2) (F:=F2) (O8 0 c.blks.length++nw) c.outL vs s2 _ hq k.fc;simp only[o8]at hq;cases z:(O8 0 c.blks.length++nw).all (uc s3)&&gc (nw++d)&&nw.all (Nat.ble (c.blks.length+I9 c.inL))&&d.all (Nat.ble c.blks.length)&&Nat.beq d.length (I9 c.outL)&&Nat.beq (nw.length+c.blks.length) c.post.length with
 |false=>rw[z]at hq;exact hq.elim|true=>
 rw[z]at hq;simp only[JM,Kq,KP,KA]at z;obtain⟨⟨⟨⟨⟨k1,k2⟩,k3⟩,k4⟩,k5⟩,k6⟩:=z;have g:c.rel (j6 U (j5 c.inL) ds) (j6 U (j5 c.outL) m):=hq.1;have hd:j6 U (j5 c.inL) ds=j6 U (j5 c.inL) es:=by rw[<-K];exact Q4 _ _ _ e
 rw[hd]at g;have Y:=k.only o3 r;exact⟨v,τ2,F2,s3,hp2,vs,p,q,m,nw,d,j,D.trans (n.trans (LY k o3)),Y,ab,N,fun y F3 gl rest hg=>T y F3 _ (O y F3 gl rest hg),hb2.mono n.t,V s3 o3.h,
  fun b hb=>pA (k1 b hb),k2,k3,k4,k5,k6,g⟩
def pW {c:Con}{run:Au->M SV}{g:Az}(e:I5 P U ov run g)(h:(cvc P U c run).vc U fun _=>True):g8 P U ov c g:=
 fun es a d τ F hp xs hs hx=>BF (Pm:=fun _=>True) (fun es τ F hp xs hl _ hs=>e _ xs τ F _ hp hl hs) h es a d τ F hp xs hs hx trivial
end
end Go.Sx
end PartSm34
noncomputable section PartSm35
namespace Go.Sx
open Go.Xe
section
variable {P :Ax}{U:Ab}{ov:Aa}
variable {bl:Ah}
def lJ {c:Con}{n i b:Nat}(hi:i<c.blks.length)(h:bl[i]? =some b):U8 c bl n i=b:=by unfold U8;rw[JS hi,Kc,List.getD,h];rfl
theorem lI {c:Con}{n k:Nat}:U8 c bl n (c.blks.length+k)=n+k:=by
 unfold U8;have:Nat.ble (c.blks.length+k+1) c.blks.length=false:=by
  cases h:Nat.ble (c.blks.length+k+1) c.blks.length with
  |false=>rfl|true=>simp_all;omega
 grind
theorem IV {c:Con}{τ1:Tau}{F1:Ac}{s1:SS}{hp1:Hp}{kill:Ah}{D:Av}{fv:Nat}{τ':Tau}{F':Ac}{s':SS}{hp':Hp}{vs:Au}{R T:Af}{es ds:Av}{nw a:Ah}(hs1:SD P U τ1 F1 s1 hp1)(bi:bl.length=c.blks.length)(bm:kill.length=I9 c.inL)(al:∀b∈bl++kill,∃x,s1.get b=some x)(_:gc (bl++kill)=true)(bb:∀b x,(gst c D fv).get b=some x-> ∃b' x',(bl++kill)[b]? =some b'/\s1.get b'=some x')(ex:Ext (nQ τ1 (bl++kill)) F1 (gst c D fv) hp1 τ' F' s' hp')(hs:SD P U τ' F' s' hp')(hv:VDL P U τ' F' vs (R++T))(bk:R.length=(Q6 c.res).length)(hb:BX τ' hp' c.post (O8 0 c.blks.length++nw) T)(hm:fw P U (O8 0 c.blks.length++nw) τ' F' s' c.outL vs es a)(hl:∀b∈O8 0 c.blks.length++nw,∃x,s'.get b=some x)(hd:gc (nw++a)=true)(bz:∀b∈nw,c.blks.length+I9 c.inL<=b)(hac:∀b∈a,c.blks.length<=b)(bp:a.length=I9 c.outL)(bx:nw.length+c.blks.length=c.post.length)(ba:bE U (j5 c.outL) es ds):SD P U (P2 τ1 τ' s1.nx (nw++a)) F' (fst_ c ds s1 bl kill) hp'/\Ext τ1 F1 s1 hp1 (P2 τ1 τ' s1.nx (nw++a)) F' (fst_ c ds s1 bl kill) hp'/\VDL P U (P2 τ1 τ' s1.nx (nw++a)) F' (P9 c ds s1 bl) (R++T):=by
 have az:c.post.length-c.blks.length=nw.length:=by omega
 have au:(gst c D fv).nx=(bl++kill).length:=by show c.blks.length+I9 c.inL=_;rw[Kn,bi,bm]
 have blt:∀b x,s1.get b=some x->b<s1.nx:=fun b x h=>hs1.bound h;have ap:∀b p,τ1 b=some p->b<s1.nx:=fun b p hb=>Nat.lt_of_not_le fun W=>by rw[hs1.new b W]at hb;cases hb
 have lo:∀b,b<s1.nx->P2 τ1 τ' s1.nx (nw++a) b=τ1 b:=fun b hb=>eY hb;have bg:∀k b,(bl++kill)[k]? =some b->b<s1.nx/\τ' k=τ1 b:=by intro k b h;obtain⟨x,hx⟩:=al b (JV h);exact⟨blt b x hx,by rw[ex.st k (by rw[au];exact(JO.1 h).1),P3 h]⟩
 have aj:∀i b,(O8 0 c.blks.length++nw)[i]? =some b->P2 τ1 τ' s1.nx (nw++a) (U8 c bl s1.nx i)=τ' b:=by
  intro i b h;by_cases hi:i<c.blks.length
  ·rw[JU (by rw[B9];exact hi),dV,Ki hi,Ks]at h;cases h;have V:bl[i]? =some (bl[i]'(by omega)):=JX (by omega);have bq:(bl++kill)[i]? =some (bl[i]'(by omega)):=by grind
   obtain⟨k1,k2⟩:=bg i _ bq;rw[lJ hi V,lo _ k1,k2]
  ·rw[JT (by rw[B9];omega),B9]at h;obtain⟨k,rfl⟩:∃k,i=c.blks.length+k:=⟨i-c.blks.length,by omega⟩
   rw[Lj]at h;rw[lI];exact iH (by rw[JU (JO.1 h).1];exact h)
 have av:∀k b,a[k]? =some b->P2 τ1 τ' s1.nx (nw++a) (s1.nx+(c.post.length-c.blks.length)+k)=τ' b:=by intro k b h;rw[az,KU];exact iH (by rw[JT (by omega),Lj];exact h)
 have N:VDL P U (P2 τ1 τ' s1.nx (nw++a)) F' (P9 c ds s1 bl) (R++T):=hm.vals ba aj av hv;obtain⟨_,v2⟩:=N.split;rw[bk]at v2;have ax:=hm.blks (nb:=s1.nx+(c.post.length-c.blks.length)) ba;have M:Tle τ1 (P2 τ1 τ' s1.nx (nw++a)):=fun b p hb=>by rw[lo b (ap b p hb)];exact hb
 have A:∀k b,(O8 0 c.blks.length++(nw++a))[k]? =some b->P2 τ1 τ' s1.nx (nw++a) (U8 c bl s1.nx k)=τ' b:=by
  intro k b h;by_cases hi:k<c.blks.length
  ·refine aj k b ?_;rw[JU (by rw[B9];exact hi)]at h⊢;exact h
  ·rw[JT (by rw[B9];omega),B9]at h;obtain⟨j,rfl⟩:∃j,k=c.blks.length+j:=⟨k-c.blks.length,by omega⟩
   rw[Lj]at h;rw[lI];exact iH h
 have aq:∀(k k':Nat) b,(O8 0 c.blks.length++(nw++a))[k]? =some b->(O8 0 c.blks.length++(nw++a))[k']? =some b->k=k':=by
  have hge:∀b∈nw++a,c.blks.length<=b:=fun b hb=>by grind
  intro k k' b h h';by_cases hk:k<c.blks.length
  ·rw[JU (by rw[B9];exact hk),dV,Ki hk,Ks]at h;cases h;by_cases K:k'<c.blks.length
   ·rw[JU (by rw[B9];exact K),dV,Ki K,Ks]at h';grind
   ·rw[JT (by rw[B9];omega)]at h';have:=hge k (JV h');omega
  ·rw[JT (by rw[B9];omega)]at h;by_cases K:k'<c.blks.length
   ·rw[JU (by rw[B9];exact K),dV,Ki K,Ks]at h';cases h';have:=hge k' (JV h);omega
   ·rw[JT (by rw[B9];omega)]at h';have:=dM hd _ _ b h h';rw[B9]at this;omega
 have G:∀b x,(fst_ c ds s1 bl kill).get b=some x->
   (∃k b',b=U8 c bl s1.nx k/\(O8 0 c.blks.length++(nw++a))[k]? =some b'/\(∃x',s'.get b'=some x')/\
    ((∃i o Y,τ' b'=some (some (i,o))/\hp'.m.get i=some Y/\F' i=none/\BD P U (P2 τ1 τ' s1.nx (nw++a)) F' o x Y)\/(τ' b'=some none/\H4 P U x)))\/
   (b<s1.nx/\b∉bl/\b∉kill/\s1.get b=some x):=by
  intro b x C;have d:(match lk (Z9 (U8 c bl s1.nx) 0 c.post ((P9 c ds s1 bl).drop (Q6 c.res).length)++(X0 c.outL ds (s1.nx+(c.post.length-c.blks.length))++(S6 (kill++(bl++ [s1.nx]))++s1.h))) b with|some x=>x|none=>none)=some x:=C;rw[K9,K9,K9]at d;cases c1:lk (Z9 (U8 c bl s1.nx) 0 c.post ((P9 c ds s1 bl).drop (Q6 c.res).length)) b with
  |some y=>
   rw[c1]at d;simp only at d;subst d;rw[<-Lz ((P9 c ds s1 bl).drop (Q6 c.res).length)]at c1;obtain⟨j,bj,X,i,o,Y,O,B,e3,_,e5,e6,e7⟩:=rC hb v2 c1;cases e3;left;obtain⟨x',ad⟩:=hl bj (JV B);have hF:F' i=none:=by
    rcases hs.live bj x' ad with⟨i',o',y',k1,_,k3,_⟩| ⟨k1,_⟩
    ·grind
    ·grind
   refine⟨j,bj,by rw[O,Ks],?_,⟨x',ad⟩,.inl ⟨i,o,Y,e5,e6,hF,e7⟩⟩;rw[<-JZ,JU (JO.1 B).1];exact B
  | none =>
   rw[c1]at d;simp only at d;cases c2:lk (X0 c.outL ds (s1.nx+(c.post.length-c.blks.length))) b with
   |some y=>
    rw[c2]at d;simp only at d;subst d;obtain⟨k,b',X,x',O,B,e3,e4,e5,e6⟩:=ax b _ c2;cases e3;left;refine⟨c.blks.length+(nw.length+k),b',by rw[lI,O,az,KU],?_,⟨x',e4⟩,?_⟩
    ·rw[JT (by rw[B9];omega),B9,Lj,JT (by omega),Lj];exact B
    ·rcases hs.live b' x' e4 with⟨i,o,y,k1,k2,k3,k4⟩| ⟨k1,k2⟩
     ·exact .inl ⟨i,o,y,k1,k2,k3,e5 _ o y k4⟩
     ·exact .inr ⟨k1,e6 k2⟩
   |none=>
    rw[c2,O6]at d;simp only at d;by_cases hk:b∈kill++(bl++ [s1.nx])
    ·rw[Ki hk]at d;cases d
    ·rw[Kg hk]at d;have g:s1.get b=some x:=d;refine .inr ⟨blt b x g,fun J=>?_,fun h=>hk (LG _ h),g⟩;obtain⟨i,hi⟩:=KQ.1 J;have hlt:i<c.blks.length:=by have:=(JO.1 hi).1;omega
     have:=mO (num:=U8 c bl s1.nx) (r:=c.post) (fl:=(P9 c ds s1 bl).drop (Q6 c.res).length) (i0:=0) (j:=i) (by omega);rw[Ks,lJ hlt hi]at this;exact absurd this (rm c1)
 obtain⟨lg,a1,a2,a3,a4,_⟩:=ex.hh;have u:∀b0 x i o,(gst c D fv).get b0=some x->nQ τ1 (bl++kill) b0=some (some (i,o))-> ∃b' x',b'∈bl++kill/\s1.get b'=some x'/\τ1 b'=some (some (i,o)):=by intro b0 x i o h0 ht;obtain⟨b',x',k1,k2⟩:=bb b0 x h0;rw[P3 k1]at ht;exact⟨b',x',JV k1,k2,ht⟩
 have be:∀b i o,b<(gst c D fv).nx->τ' b=some (some (i,o))-> ∃b' x',b'∈bl++kill/\s1.get b'=some x'/\τ1 b'=some (some (i,o)):=by intro b i o hb ht;rw[au]at hb;have hg:=JX hb;obtain⟨_,k2⟩:=bg b _ hg;obtain⟨x,hx⟩:=al _ (JV hg);rw[k2]at ht;exact⟨_,x,JV hg,hx,ht⟩
 have ae:∀b i o,τ' b=some (some (i,o))->hp1.nx<=i\/ ∃b' x' o',b'∈bl++kill/\s1.get b'=some x'/\τ1 b'=some (some (i,o')):=by
  intro b i o ht;by_cases hb:b<(gst c D fv).nx
  ·obtain⟨b',x',h1,h2,h3⟩:=be b i o hb ht;exact .inr ⟨b',x',o,h1,h2,h3⟩
  ·rcases a3 b i o (Lp hb) ht with h| ⟨b0,x,o0,h1,h2,_⟩
   ·omega
   ·obtain⟨b',x',k1,k2,k3⟩:=u b0 x i o0 h1 h2;exact .inr ⟨b',x',o0,k1,k2,k3⟩
 have apart:∀b x i o c' y o',s1.get b=some x->b∉bl->b∉kill->τ1 b=some (some (i,o))->c'∈bl++kill->s1.get c'=some y->τ1 c'=some (some (i,o'))->False:=by
  intro b x i o c' y o' h1 h2 h3 h4 h5 h6 h7;have aa:b≠c':=fun e=>by
   subst e;rcases Kx.1 h5 with h|h
   ·exact h2 h
   ·exact h3 h
  exact hs1.inj b c' x y i o i o' h1 h6 aa h4 h7 rfl
 have ao:∀b∈bl,b∈(Z9 (U8 c bl s1.nx) 0 c.post ((P9 c ds s1 bl).drop (Q6 c.res).length)).map Prod.fst:=by
  intro b J;obtain⟨i,hi⟩:=KQ.1 J;have hlt:i<c.blks.length:=by have:=(JO.1 hi).1;omega
  have:=mO (num:=U8 c bl s1.nx) (r:=c.post) (fl:=(P9 c ds s1 bl).drop (Q6 c.res).length) (i0:=0) (j:=i) (by omega);rw[Ks,lJ hlt hi]at this;exact this
 have keys:∀b∈bl++kill,b∈(Z9 (U8 c bl s1.nx) 0 c.post ((P9 c ds s1 bl).drop (Q6 c.res).length)++(X0 c.outL ds (s1.nx+(c.post.length-c.blks.length))++S6 (kill++(bl++ [s1.nx])))).map Prod.fst:=by
  intro b J;simp only[KI,Kx];rcases Kx.1 J with h|h
  ·exact .inl (ao b h)
  ·exact .inr (.inr (Lt.2 ⟨(b,none),X7 (by rw[O6,Ki (LG _ h)]),rfl⟩))
 have t:∀b x i o,s1.get b=some x->b∉bl->b∉kill->τ1 b=some (some (i,o))->hp'.m.get i=hp1.m.get i:=by intro b x i o h1 h2 h3 h4;refine a2 i (hs1.lt b i o h4) fun b0 x0 o0 k1 k2 _=>?_;obtain⟨b',x',q1,q2,q3⟩:=u b0 x0 i o0 k1 k2;exact apart b x i o b' x' o0 h1 h2 h3 h4 q1 q2 q3
 refine⟨⟨fun b x C=>?_,fun b b2 x y i o j q C ay aa O B=>?_,hs.frz,fun b i o h=>?_,hs.flt,fun b W=>?_,hs1.fc,fun r hr=>(hs1.fz r hr).mono M ex.f⟩,⟨M,ex.f,ex.nx,?_,fun b hb=>lo b hb,fun b x C hlt=>?_,⟨Z9 (U8 c bl s1.nx) 0 c.post ((P9 c ds s1 bl).drop (Q6 c.res).length)++(X0 c.outL ds (s1.nx+(c.post.length-c.blks.length))++S6 (kill++(bl++ [s1.nx]))),?_,fun i hi ac=>?_,fun b i o aw ht=>?_,fun i y hi hy=>?_,fun hp=>absurd rfl (hp (s1.nx,none) (Lv _ (Lv _ (X7 (by rw[O6,Ki (Lv _ (by simp))])))))⟩,⟨[],rfl⟩,⟨Z9 (U8 c bl s1.nx) 0 c.post ((P9 c ds s1 bl).drop (Q6 c.res).length)++(X0 c.outL ds (s1.nx+(c.post.length-c.blks.length))++S6 (kill++(bl++ [s1.nx]))),?_,fun b c' e z i o cs n aw bt bw hg bn=>⟨cs,?_,fun _ _=>rfl⟩⟩⟩,N⟩
 rotate_right 2
 ·show Z9 (U8 c bl s1.nx) 0 c.post ((P9 c ds s1 bl).drop (Q6 c.res).length)++(X0 c.outL ds (s1.nx+(c.post.length-c.blks.length))++(S6 (kill++(bl++ [s1.nx]))++s1.h))=
   (Z9 (U8 c bl s1.nx) 0 c.post ((P9 c ds s1 bl).drop (Q6 c.res).length)++(X0 c.outL ds (s1.nx+(c.post.length-c.blks.length))++S6 (kill++(bl++ [s1.nx]))))++s1.h
  rw[JZ,JZ]
 ·have ac:b∉kill++(bl++ [s1.nx]):=fun q=>by obtain⟨_,q',_⟩:=bn none (Lv _ (Lv _ (X7 (by rw[O6,Ki q]))));cases q'
  rw[t b _ i o aw (fun q=>ac (Lv _ (LG _ q))) (fun q=>ac (LG _ q)) bt];exact hg
 ·rcases G b x C with⟨k,b',rfl,B,_,h⟩| ⟨hlt,Z,ab,g⟩
  ·rcases h with⟨i,o,Y,h1,h2,h3,h4⟩| ⟨h1,h2⟩
   ·exact .inl ⟨i,o,Y,by rw[A k b' B];exact h1,h2,h3,h4⟩
   ·exact .inr ⟨by rw[A k b' B];exact h1,h2⟩
  ·rcases hs1.live b x g with⟨i,o,y,h1,h2,h3,h4⟩| ⟨h1,h2⟩
   ·refine .inl ⟨i,o,y,by rw[lo b hlt];exact h1,by rw[t b x i o g Z ab h1];exact h2,?_,h4.mono M ex.f⟩;cases hF:F' i with
    |none=>rfl|some y'=>
     exfalso;rcases a4 i y' (hs1.lt b i o h1) hF with h5| ⟨b0,o0,h5,_⟩
     ·rw[h3]at h5;cases h5
     ·rcases ae b0 i o0 h5 with h6| ⟨b',x',o',h6,h7,h8⟩
      ·have:=hs1.lt b i o h1;omega
      ·exact apart b x i o b' x' o' g Z ab h1 h6 h7 h8
   ·exact .inr ⟨by rw[lo b hlt];exact h1,h2⟩
 ·have mixed:∀ {b b2 x y i o j q} {k b':Nat},(O8 0 c.blks.length++(nw++a))[k]? =some b'->P2 τ1 τ' s1.nx (nw++a) (U8 c bl s1.nx k)=some (some (i,o))->b=U8 c bl s1.nx k->s1.get b2=some y->b2<s1.nx->b2∉bl->b2∉kill->
    P2 τ1 τ' s1.nx (nw++a) b2=some (some (j,q))->i≠j/\(x:w9)=x:=by
   intro b b2 x y i o j q k b' k1 k2 _ k3 k4 k5 k6 k7;refine⟨fun e=>?_,rfl⟩;subst e;rw[A k b' k1]at k2;rw[lo b2 k4]at k7;rcases ae b' i o k2 with h| ⟨bh,bv,bu,h1,h2,h3⟩
   ·have:=hs1.lt b2 i q k7;omega
   ·exact apart b2 y i q bh bv bu k3 k5 k6 k7 h1 h2 h3
  rcases G b x C with⟨k,b',rfl,k1,⟨x',ad⟩,_⟩| ⟨hlt,Z,ab,g⟩
  ·rcases G b2 y ay with⟨k',ak,rfl,k2,⟨y',bc⟩,_⟩| ⟨L,ah,ai,hb2⟩
   ·rw[A k b' k1]at O;rw[A k' ak k2]at B;refine hs.inj b' ak x' y' i o j q ad bc (fun e=>?_) O B;subst e;exact aa (by rw[aq k k' b' k1 k2])
   ·exact(mixed (b:=U8 c bl s1.nx k) (x:=x) k1 O rfl hb2 L ah ai B).1
  ·rcases G b2 y ay with⟨k',ak,rfl,k2,⟨y',bc⟩,_⟩| ⟨L,ah,ai,hb2⟩
   ·exact Ne.symm (mixed (b:=U8 c bl s1.nx k') (x:=x) k2 B rfl g hlt Z ab O).1
   ·rw[lo b hlt]at O;rw[lo b2 L]at B;exact hs1.inj b b2 x y i o j q g hb2 aa O B
 ·by_cases hlt:b<s1.nx
  ·rw[lo b hlt]at h;exact KO (hs1.lt b i o h) ex.nx
  ·unfold P2 at h;rw[Kg hlt]at h;split at h
   ·exact hs.lt _ i o h
   ·cases h
 ·have W:s1.nx+(c.post.length-c.blks.length)+I9 c.outL<=b:=W;unfold P2;rw[Kg (by omega),LQ (by rw[Kn,bp];omega)]
 ·show s1.nx<=s1.nx+(c.post.length-c.blks.length)+I9 c.outL;omega
 ·rcases G b x C with⟨k,b',rfl,k1,_⟩| ⟨_,_,_,g⟩
  ·by_cases hk:k<c.blks.length
   ·have V:bl[k]? =some (bl[k]'(by omega)):=JX (by omega);rw[lJ hk V]at hlt⊢;exact al _ (LG _ (JV V))
   ·obtain⟨j,rfl⟩:∃j,k=c.blks.length+j:=⟨k-c.blks.length,by omega⟩
    rw[lI]at hlt;omega
  ·exact⟨x,g⟩
 ·show Z9 (U8 c bl s1.nx) 0 c.post ((P9 c ds s1 bl).drop (Q6 c.res).length)++(X0 c.outL ds (s1.nx+(c.post.length-c.blks.length))++(S6 (kill++(bl++ [s1.nx]))++s1.h))=
   (Z9 (U8 c bl s1.nx) 0 c.post ((P9 c ds s1 bl).drop (Q6 c.res).length)++(X0 c.outL ds (s1.nx+(c.post.length-c.blks.length))++S6 (kill++(bl++ [s1.nx]))))++s1.h
  rw[JZ,JZ]
 ·refine a2 i hi fun b0 x0 o0 k1 k2 _=>?_;obtain⟨b',x',q1,q2,q3⟩:=u b0 x0 i o0 k1 k2;exact ac b' x' o0 q2 q3 (keys b' q1)
 ·unfold P2 at ht;rw[Kg (by omega)]at ht;split at ht
  ·rcases ae _ i o ht with h| ⟨b',x',o',h1,h2,h3⟩
   ·exact .inl h
   ·exact .inr ⟨b',x',o',h2,h3,keys b' h1⟩
  ·cases ht
 ·rcases a4 i y hi hy with h| ⟨b0,o0,h5,_⟩
  ·exact .inl h
  ·rcases ae b0 i o0 h5 with h6| ⟨b',x',o',h6,h7,h8⟩
   ·omega
   ·exact .inr ⟨b',o',by rw[lo b' (blt b' x' h7)];exact h8,keys b' h6⟩
theorem GV {c:Con}{g:Az}(hg:g8 P U ov c g):I5 P U ov (kcon P U c) g:=by
 intro l args τ F s hp hl hs Q hq _;unfold kcon at hq;simp only[o8]at hq;cases G:oI c.args l with
 |none=>rw[G]at hq;exact hq.elim|some K=>
 rw[G]at hq;simp only at hq;cases c2:c.find l s with
 |none=>rw[c2]at hq;exact hq.elim|some bl=>
 rw[c2]at hq;simp only at hq;cases J:oG s c.blks bl with
 |none=>rw[J]at hq;exact hq.elim|some L=>
 rw[J]at hq;simp only at hq;obtain⟨y,O,R,T⟩:=ra G hl;obtain⟨M,N,hb2⟩:=qQ hs J;rw[v5]at hq;obtain⟨vs,s2,hq,τ2,D,hp2,u,q,rfl,X⟩:=mS c.inL (K++L) (y++M) τ F s hp (O.append N) hs _ hq hs;rw[v5]at hq;obtain⟨⟨es,d⟩,r,hq,Y,A,W⟩:=wT (P:=P) (τ:=τ2) (F:=D) bl c.inL vs s2 _ hq q.fc;simp only[o8]at hq;cases C:bl.all (uc r)&&gc (bl++d)&&Nat.beq d.length (I9 c.inL)&&Nat.ble c.blks.length c.post.length with
 |false=>rw[C]at hq;exact hq.elim|true=>
 rw[C]at hq;simp only[JM,Kq,KP,KA]at C;obtain⟨⟨⟨k1,k2⟩,k3⟩,k4⟩:=C;have B:=q.only Y A;have hm:=W r Y.h;have e:=hm.len;have j:c.pre (j6 U (j5 c.inL) es):=hq.1;have p:∀b∈bl,∃x,r.get b=some x:=fun b hb=>pA (k1 b hb);have hb3:=hb2.mono u.t;obtain⟨g1,g2,g3⟩:=Jc (fv:=(j5 c.inL).length) B X R hb3 hm k2 p k3 (J8 (j5 c.inL) 0 es e);have n:VDL P U (nQ τ2 (bl++d)) D (kq c (E2 U (j5 c.inL) 0 es)) args:=by obtain⟨w1,_⟩:=g2.split;have:=T _ _ _ ((kr c (E2 U (j5 c.inL) 0 es)).drop y.length) w1;rw[LD]at this;exact this
 obtain⟨v,τ',F',s',hp',ai,z,ah,m,nw,E,r1,r2,r3,r4,r5,r6,r7,r8,r9,Z,aa,ab,ac,ad,ae⟩:=hg es e j _ D hp2 args g1 n;have a:=r8.len;have hQ:=lz (U:=U) _ _ _ (hq.2 j) m a (by rw[Q4 _ _ _ a];exact ae);have V:∀b∈bl++d,∃x,r.get b=some x:=fun b hb=>by
  rcases Kx.1 hb with h|h
  ·grind
  ·obtain⟨k,hk⟩:=KQ.1 h;exact hm.live hk
 obtain⟨f1,f2,f3⟩:=IV (U:=U) B hb3.len.1 k3 V k2 g3 r2 r3 r4 r5 r7 r8 r9 Z aa ab ac ad (J8 (j5 c.outL) r.fv m a);refine⟨_,_,hQ,_,F',hp',(u.trans (LY q Y)).trans f2,f1,v,r1,?_⟩;obtain⟨w1,_⟩:=f3.split;have:=r6 _ _ _ ((P9 c (E2 U (j5 c.outL) r.fv m) r bl).drop z.length) w1;simp_all
end
def gZ (P:Ax)(U:Ab):List (Az×Con)->Az->Bc (Au->M SV)
 | [],_=>none|p::l,g=>bif Nat.beq p.1 g then some (kcon P U p.2)else gZ P U l g
section
variable {P :Ax}{U:Ab}{ov:Aa}
variable (P U ov) in
def aI :List (Az×Con)->Prop
 | []=>True|p::l=>g8 P U ov p.2 p.1/\aI l
def tq :∀ {l:List (Az×Con)},aI P U ov l-> ∀g k,gZ P U l g=some k->I5 P U ov k g
 | [],_,g,k,h=>by cases h
 |p::l,ha,g,k,h=>by
  unfold gZ at h;cases hb:Nat.beq p.1 g with
  |true=>rw[hb,Kc,JL]at h;rw[<-h,<-JQ hb];exact GV ha.1|false=>rw[hb,Ke]at h;exact tq ha.2 g k h
def noT {C:Az->Prop}:∀g,isT (noOv g)=true->C g:=fun _ h=>Bool.noConfusion (show false=true from h)
theorem Bz {a:Az}{t:Ay}{rest:Aa}(h:isT (some t)=false)(hr:∀g,isT (rest g)=false):∀g,isT (ne a t rest g)=false:=by intro g;unfold ne;grind
theorem V4 {L:Az}{rest:Aa}{con:Az->Bc (Au->M SV)}(h:(con L).isSome=true)(hr:∀g,isT (rest g)=false:=by first|exact fun _=>rfl|exact Bz rfl (fun _=>rfl)|exact Bz rfl (Bz rfl (fun _=>rfl))|exact Bz rfl (Bz rfl (Bz rfl (fun _=>rfl)))):∀g,isT (ne L fQ rest g)=true->con g≠none:=by
 intro g a e;unfold ne at a;cases hb:Nat.beq g L with
 |true=>simp_all|false=>grind
end
end Go.Sx
end PartSm35
noncomputable section PartSm36
namespace Go.Sx
open Go.Xe Go.RowKit
section
variable {P :Ax}{U:Ab}{ov:Aa}
def AY (hm:P.follows .mixedOrders=true)(R:∀g t,ov g=some t->dq P g t){c:Con}{f:Az}(hg:g8 P U ov c f)(h1:c.blks=[])(h2:c.res=[.one (.g .bool)])(h3:c.post=[])(L:∀d e,c.rel d e->e=[.bool true])(ha:I9 c.inL=0)(hA:∀nb ds,X0 c.inL ds nb=[]){es:Av}(B:es.length=(j5 c.inL).length)(K:c.pre (j6 U (j5 c.inL) es)){xs ys:Af}{w:Be}(hl:VDL P U (fun _=>none) (roF w) (kq c (E2 U (j5 c.inL) 0 es)) xs)(hx:VRL (gu w) xs ys):Calls P f ys.toArray w fun e w'=>e= .returned (.bool true)/\Below w.heap.size w w':=by
 have A:gst c (E2 U (j5 c.inL) 0 es) (j5 c.inL).length=⟨[],0,[],(j5 c.inL).length,[]⟩:=by unfold gst;rw[hA,h1,ha];rfl
 have hs:SD P U (fun _=>none) (roF w) (gst c (E2 U (j5 c.inL) 0 es) (j5 c.inL).length) (uK w):=by rw[A];exact⟨fun b x hb=>(by cases hb),fun b c x y i o j q hb=>(by cases hb),fun i b h=>(EZ w i b h).1,fun b i o h=>(by cases h),fun i b h=>(EZ w i b h).2,fun b _=>rfl,fun c t h=>(by simp at h),fun r h=>(by simp at h)⟩
 obtain⟨v,τ',F',s',hp',vs,ad,N,m,nw,aa,⟨n0,hr⟩,_,_,r4,r5,r6,r7,M,_,_,_,_,_,_,X⟩:=hg es B K _ _ _ xs hs hl;have p:=L _ _ X;have J:c.outL=[.g .bool]:=by unfold Con.outL;rw[h2,h3];rfl
 have z:N=[]:=by have:=r7.len.2;rw[h3]at this;exact JR this
 subst z;rw[Lz]at r4;rw[J]at M p;have ah:=J8 (U:=U) (j5 [.g .bool]) 0 m M.len;have hd:∃e,m=[e]/\(e.den U).toBool=true:=by
  have:=M.len;cases m with
  |nil=>simp[j5,Lf.so,G.so,O9]at this|cons e k=>
   have D:k=[]:=by
    have:k.length=0:=by simpa [j5,Lf.so,G.so,O9]using this
    exact JR this
   subst D;refine⟨e,rfl,?_⟩;have h: [Dat.bool (e.den U).toBool]=[Dat.bool true]:=p;simpa using h
 obtain⟨e,rfl,he⟩:=hd;have T:VD P U τ' F' (.bool e) v:=by
  cases vs with
  |nil=>exact M.elim|cons a Y=>
   obtain⟨r,k,ac,e1,e2,n,C⟩:=M;cases Y with
   |cons b ab=>exact C.elim|nil=>
    obtain⟨rfl,rfl⟩:=C;obtain⟨y,Z,rfl,hy,W⟩:=r4.uncons;have hz:Z=[]:=JR W.1.symm;subst hz;obtain⟨e0,ae⟩:=n.1 .b rfl;have h5:=n.2.2.2.1 y hy τ' (fun i=>(O8 0 c.blks.length++nw).getD i 0) 0 e (fun i b hb=>by rw[List.getD,hb];rfl) (fun e2 so O ai=>by
     rw[O]at e1;have:e=e2:=by simpa [O9]using e1
     subst this;cases so<;>rfl) (fun b hb=>by have:=n.2.2.1 rfl;rw[this]at hb;cases hb)
    have h6:=r6 τ' F' [.bool e] [] (.cons h5 .nil);rw[h2]at h6;exact h6
 cases T;rw[he]at hr;refine((yJ hm R n0).run f xs (uK w) _ hp' (hr n0 (Kj _)) (BS.ro w) w (gu w) w ys hx (HR.ro w)).mono fun e w' he=>?_;obtain⟨σ',u,rfl,_,hv,V⟩:=he;cases hv;exact⟨rfl,HR.roBelow V⟩
end
end Go.Sx
end PartSm36
noncomputable section PartSm37
namespace Go.Sx
open Go.Xe
structure Jn where
 name:String
 gh:Au->SS->List (So×E)
 one:Bool
 res:List (Bc IntKind)
 rel:As->As->Prop
section
variable {P :Ax}{U:Ab}{ov:Aa}
end
section
variable {P :Ax}{U:Ab}
def yesM :Au->M SV:=fun l=>match l with
 | []=>e8 (.bool (.bool true))|_=>a7 "an argument"
def yg (_ e:As):Prop:=e=[.bool true]
def cYes (n:String):Con:=⟨n,[],[],fun _ _=>some [],fun d=>d=[],[.one (.g .bool)],[],fun _ _=>some [],yg⟩
def Co {ov:Aa}{L:Az}(h:isT (ov L)=true)(n:String):g8 P U ov (cYes n) L:=by
 refine pW (run:=yesM) (fun l args τ F s hp hl hs=>?_) fun _=>⟨rfl,fun _=>trivial⟩
 cases l with
 |cons a l=>exact Md|nil=>
  obtain rfl:args=[]:=JR hl.1.symm;refine Mf ⟨Value.bool true,⟨1,fun m hm=>?_⟩,VD.bool (.bool true)⟩;obtain⟨m,rfl⟩:∃k,m=k+1:=⟨m-1,by omega⟩
  show(bif isT (ov L)&&([]:Af).isEmpty then some (Value.bool true,hp)else _)=some (Value.bool true,hp);rw[h];rfl
end
end Go.Sx
end PartSm37
namespace Go.Sx
open Go.Xe
def shrI (k:IntKind)(a b:Int):Int:=a.fdiv (2^(min b.toNat k.bits))
abbrev cI (L:Rows)(i:Int)(j:Nat):Int:=(H6 L i j).toInt
abbrev cS (L:Rows)(i:Int)(j:Nat):Ae:=(H6 L i j).toStr
abbrev cB (L:Rows)(i:Int)(j:Nat):Bool:=(H6 L i j).toBool
abbrev cL (L:Rows)(i:Int)(j:Nat):Rows:=(H6 L i j).rows
abbrev ln {α:Type}(l:List α):Int:=(l.length:Int)
abbrev Nr (x:Int)(q:Prop):Prop:=Nd (x=x) q
abbrev Ni (x:Int)(q:Prop):Prop:=Nd (¬x<x) q
def byteAt (s:Ae)(i:Int):Int:=((s.getD i.toNat 0).toNat:Int)
def fg (n:Int):(Dat.int n).toInt=n:=rfl
def v9 (s:Ae):(Dat.str s).toStr=s:=rfl
def bD (l:Rows):(Dat.lst l).rows=l:=rfl
section
variable {α :Type}{f:α->As}
def B4 {T:List α}{i:Int}{s:α}(h:T[i.toNat]? =some s)(j:Nat):H6 (T.map f) i j=(f s).getD j (.int 0):=by unfold H6;rw[show(T.map f).getD i.toNat []=f s by rw[Kr,KL,h];rfl]
def get_at {T:List α}{i:Int}(h0:0<=i)(h1:i<(T.length:Int)):∃o,T[i.toNat]? =some o:=⟨_,JX (by omega)⟩
def ED {l:List α}{a n:Int}:Sx.part (l.map f) a n=((l.drop a.toNat).take n.toNat).map f:=by unfold Sx.part;rw[<-List.map_drop,<-List.map_take]
def map_inj_of {c:Type}{f:α->c}(hf:∀a b,f a=f b->a=b):∀ {l m:List α},l.map f=m.map f->l=m
 | [],[],_=>rfl| [],b::m,h=>by simp at h|a::l,[],h=>by simp at h|a::l,b::m,h=>by simp only[KM,Le]at h;rw[hf a b h.1,map_inj_of hf h.2]
def T4 {rows:Rows}(f:α->As)(R:α->Prop)(h:∀r∈rows,∃a,R a/\r=f a):∃L:List α,(∀a∈L,R a)/\rows=L.map f:=by
 induction rows with
 |nil=>exact⟨[],fun a h=>(by simp at h),rfl⟩|cons r rows d=>obtain⟨a,ha,e⟩:=h r (by simp);obtain⟨L,c,e'⟩:=d fun r hr=>h r (by simp[hr]);exact⟨a::L,fun b hb=>by rcases Ky.1 hb with rfl|hb;exact ha;exact c b hb,by rw[e,e'];rfl⟩
end
def iF {α:Type}{l:List α}{k:Nat}{a:α}(h:l[k]? =some a):l.take (k+1)=l.take k++ [a]:=by rw[List.take_add_one,h];rfl
def nS {k:Int}(h:0<=k):(k+1).toNat=k.toNat+1:=by omega
end Go.Sx
noncomputable section PartSm39
namespace Go.Sx
open Go.Xe
def numK :Kd->Bool
 | .int _=>true| .bool=>true| .str=>true|_=>false
def PV.num {P:Ax}{F F':Ac}{k:Kd}{v:Aw}{d:Dat}(hk:numK k=true)(p:PV P F k v d):PV P F' k v d:=by
 cases p with
 |int k n=>exact .int k n|bool b=>exact .bool b|str s=>exact .str s|nils e=>cases hk
 |vague e=>cases hk
 |_=>cases hk
section
variable {P :Ax}{U:Ab}{ov:Aa}
def gw :SV->Bool
 | .int _ _=>true| .bool _=>true| .str _=>true|_=>false
def zI (a:SV):Bool:=match a with
 | .tup l=>l.all gw|a=>gw a
variable {F F':Ac}{v:Aw}
def zG {τ τ':Tau}{a:SV}(h:gw a=true)(c:VD P U τ F a v):VD P U τ' F' a v:=by
 cases c with
 |int k e=>exact .int k e|bool e=>exact .bool e|str e=>exact .str e|_=>cases h
def Fc {τ τ':Tau}{a:SV}(h:zI a=true)(c:VD P U τ F a v):VD P U τ' F' a v:=by
 unfold zI at h;split at h
 ·cases c with
  |tup _ xs h1 h2=>rw[Kq]at h;exact .tup _ xs h1 fun i a x ha hx=>zG (h a (JV ha)) (h2 i a x ha hx)
 ·exact zG h c
def Iz (P:Ax)(s:SS)(a:SV)(s1:SS):Tr (SV×SS):=match a,s1.h with
 | .sl b z o n c,(k,some (.rows L e z' ph))::(k2,none)::h=>
  bif Nat.beq h.length s.h.length&&Nat.beq k2 k&&Nat.ble s.nx k&&(kf P e).all numK then .ret (.sl b z o n c,⟨(k,some (.rows L e z' ph))::s.h,s1.nx,s1.fc,s1.fv,s.fz⟩)else .ret (.sl b z o n c,s1)
 |a,(k2,none)::h=>bif zI a&&Nat.beq h.length s.h.length&&Nat.ble s.nx k2 then .ret (a,⟨s.h,s1.nx,s1.fc,s1.fv,s.fz⟩)else .ret (a,s1)|a,_=>.ret (a,s1)
def EK (P:Ax)(run:Au->M SV):Au->M SV:=fun l s=>(run l s).bind fun r=>Iz P s r.1 r.2
def EL {run:Au->M SV}{g:Az}(hr:I5 P U ov run g):I5 P U ov (EK P run) g:=by
 intro l args τ F s hp hl hs Q hq _;unfold EK at hq;rw[My]at hq;obtain⟨a,s1,h1,τ1,F1,hp1,ex,hs1,v,hx,G⟩:=hr l args τ F s hp hl hs _ hq hs;simp only at h1;unfold Iz at h1;split at h1
 ·rename_i b z o n c k L e B ph k2 h hh;cases hc:Nat.beq h.length s.h.length&&Nat.beq k2 k&&Nat.ble s.nx k&&(kf P e).all numK with
  |false=>rw[hc]at h1;exact⟨_,_,h1,τ1,F1,hp1,ex,hs1,v,hx,G⟩|true=>
   rw[hc]at h1;simp only[JM,KA,KP,Kq]at hc;obtain⟨⟨⟨J,c2⟩,V⟩,W⟩:=hc;subst k2;obtain⟨R,a1,a2,a3,a4,a5⟩:=ex.hh;rw[hh]at a1;have u: [(k,some (w9.rows L e B ph)),(k,none)]++h=R++s.h:=a1;obtain⟨C,D⟩:=List.append_inj' u J;subst C;subst D;have get:∀b,(⟨(k,some (.rows L e B ph))::s.h,s1.nx,s1.fc,s1.fv,s.fz⟩:SS).get b=s1.get b:=fun b=>by
    unfold SS.get;rw[hh,p8,p8,p8];by_cases hb:k=b
    ·rw[Ki hb,Ki hb]
    ·rw[Kg hb,Kg hb,Kg hb]
   have old:∀b x,s1.get b=some x->k≠b->s.get b=some x:=fun b x hb A=>by rw[<-get]at hb;unfold SS.get at hb⊢;rw[p8,Kg A]at hb;exact hb
   have new:∀b x,s.get b=some x->b∈ [(k,some (w9.rows L e B ph)),(k,none)].map Prod.fst->False:=fun b x hb hm=>by have:=hs.bound hb;simp only[KM,List.map_nil,Ky,List.not_mem_nil,or_false,or_self]at hm;omega
   refine⟨_,_,h1,τ1,F,hp1,⟨ex.t,LZ F,ex.nx,ex.snx,ex.st,fun b x hb hlt=>ex.low b x (by rw[<-get];exact hb) hlt,⟨[(k,some (.rows L e B ph))],rfl,fun i hi O=>a2 i hi fun b x o p1 p2 m=>new b x p1 m,fun b i o hb ht=>?_,fun i y hi hy=>.inl hy,fun _ i y hy=>hy⟩,ex.hf,?_⟩,
    ⟨fun b x hb=>?_,fun b c x y i o j q hb hc=>hs1.inj b c x y i o j q (by rw[<-get];exact hb) (by rw[<-get];exact hc),fun i b hF=>hs1.frz i b (ex.f i b hF),hs1.lt,fun i b hF=>hs1.flt i b (ex.f i b hF),hs1.new,hs1.fc,fun r hr=>(hs.fz r hr).mono ex.t (LZ F)⟩,v,hx,?_⟩
   ·rcases a3 b i o hb ht with h| ⟨b0,x,o0,h1,h2,h3⟩
    ·exact .inl h
    ·exact(new b0 x h1 h3).elim
   ·exact⟨[(k,some (.rows L e B ph))],rfl,fun b c e z i o cs n hb ht hi N _=>⟨cs,by rw[a2 i hi fun b' x o' p1 p2 m=>new b' x p1 m];exact N,fun _ _=>rfl⟩⟩
   ·rw[get]at hb;by_cases hk:k=b
    ·subst hk;have hx:x= .rows L e B ph:=by rw[<-get]at hb;unfold SS.get at hb;rw[p8,Ki rfl]at hb;exact(Km hb).symm
     subst hx;rcases hs1.live k _ hb with⟨i,o,y,p1,p2,m,cs,n,q1,⟨Y,Z,r3,r4⟩,X⟩|p
     ·refine .inl ⟨i,o,y,p1,p2,?_,cs,n,q1,⟨Y,Z,r3,fun r j row d hr hd=>?_⟩,X⟩
      ·cases hF:F i with
       |none=>rfl|some y'=>rw[ex.f i y' hF]at m;cases m
      ·obtain⟨x,t1,t2⟩:=r4 r j row d hr hd;exact⟨x,t1,fun kd E=>(t2 kd E).num (W kd (JV E))⟩
     ·exact .inr p
    ·have K:=old b x hb hk;rcases hs.live b x K with⟨i,o,y,p1,p2,m,T⟩| ⟨p1,p2⟩
     ·exact .inl ⟨i,o,y,ex.t _ _ p1,by rw[a2 i (hs.lt b i o p1) fun b x o p1 p2 m=>new b x p1 m];exact p2,m,T.mono ex.t (LZ F)⟩
     ·exact .inr ⟨ex.t _ _ p1,p2⟩
   ·cases G with
    |sl _ _ _ _ _ i o c h h0 h1 hc=>exact .sl _ _ _ _ _ i o c h h0 h1 hc|sl0 _ _ _ _ _ h h0 h1 hc=>exact .sl0 _ _ _ _ _ h h0 h1 hc
 ·rename_i a _ _ k2 h hh;cases hc:zI a&&Nat.beq h.length s.h.length&&Nat.ble s.nx k2 with
  |false=>rw[hc]at h1;exact⟨_,_,h1,τ1,F1,hp1,ex,hs1,v,hx,G⟩|true=>
   rw[hc]at h1;simp only[JM,KA,KP]at hc;obtain⟨⟨c0,J⟩,V⟩:=hc;obtain⟨R,a1,a2,a3,a4,a5⟩:=ex.hh;rw[hh]at a1;have u: [(k2,none)]++h=R++s.h:=a1;obtain⟨C,D⟩:=List.append_inj' u J;subst C;subst D;have new:∀b x,s.get b=some x->b∈ [(k2,(none:Bc w9))].map Prod.fst->False:=fun b x hb hm=>by have:=hs.bound hb;simp only[KM,List.map_nil,Ky,List.not_mem_nil,or_false]at hm;omega
   refine⟨_,_,h1,τ1,F,hp1,⟨ex.t,LZ F,ex.nx,ex.snx,ex.st,fun b x hb _=>⟨x,hb⟩,⟨[],rfl,fun i hi O=>a2 i hi fun b x o p1 p2 m=>new b x p1 m,fun b i o hb ht=>?_,fun i y hi hy=>.inl hy,fun _ i y hy=>hy⟩,ex.hf,⟨[],rfl,fun b c e z i o cs n hb ht hi N _=>⟨cs,by rw[a2 i hi fun b' x o' p1 p2 m=>new b' x p1 m];exact N,fun _ _=>rfl⟩⟩⟩,
    ⟨fun b x hb=>?_,fun b c x y i o j q hb hc A C D=>hs.inj b c x y i o j q hb hc A (by rw[<-ex.st b (hs.bound hb)];exact C) (by rw[<-ex.st c (hs.bound hc)];exact D),fun i b hF=>hs1.frz i b (ex.f i b hF),hs1.lt,fun i b hF=>hs1.flt i b (ex.f i b hF),hs1.new,hs1.fc,fun r hr=>(hs.fz r hr).mono ex.t (LZ F)⟩,v,hx,Fc c0 G⟩
   ·rcases a3 b i o hb ht with h| ⟨b0,x,o0,h1,h2,h3⟩
    ·exact .inl h
    ·exact(new b0 x h1 h3).elim
   ·rcases hs.live b x hb with⟨i,o,y,p1,p2,m,T⟩| ⟨p1,p2⟩
    ·exact .inl ⟨i,o,y,ex.t _ _ p1,by rw[a2 i (hs.lt b i o p1) fun b x o p1 p2 m=>new b x p1 m];exact p2,m,T.mono ex.t (LZ F)⟩
    ·exact .inr ⟨ex.t _ _ p1,p2⟩
 ·exact⟨_,_,h1,τ1,F1,hp1,ex,hs1,v,hx,G⟩
variable (P U) in
def conP (l:List (Az×Con))(g:Az):Bc (Au->M SV):=match gZ P U l g with
 |some k=>some (EK P k)|none=>none
end
end Go.Sx
end PartSm39
noncomputable section PartSm40
namespace Go.Sx
open Go.Xe
def Con.below (c:Con)(mu:As->Nat)(n:Nat):Con:= {c with pre:=fun d=>c.pre d/\mu d<n}
section
variable {P :Ax}{U:Ab}{ov:Aa}
def xg {c:Con}{mu:As->Nat}{g:Az}(h:∀n,g8 P U ov (c.below mu n) g->g8 P U ov (c.below mu (n+1)) g):g8 P U ov c g:=by
 have all:∀n,g8 P U ov (c.below mu n) g:=fun n=>by
  induction n with
  |zero=>intro es _ a;exact absurd a.2 (Nat.not_lt_zero _)
  |succ n e=>exact h n e
 intro es d a;exact all (mu (j6 U (j5 c.inL) es)+1) es d ⟨a,KW _⟩
end
end Go.Sx
end PartSm40
