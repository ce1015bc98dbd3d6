/- The symbolic engine, parts 23, 24, 25, 26, 27, 28, 29, 30, 31, 32, 33, 34, 35, 36, 37, 38, 39, 40.
  Conditions: none. -/
import Derived.Test.YtoegfalhkackeaaGreatSm2
import Derived.OpenShut
set_option linter.all false
noncomputable section
namespace Go.Sx
open Go.Xe
def Q7 :Nat->List (Nat×Bb B6)->Ah
 |0,_=>[]
 |_+1,[]=>[]
 |n+1,(k,_)::l=>k::Q7 n l
def qC (l h:List (Nat×Bb B6)):Q7 l.length (l++h)=l.map Prod.fst:=by
 induction l with
 |nil=>rfl|cons a l d=>simp only[RC,RZ,Q7,RM,d]
def rF {α:Type}{b:Nat}:∀(l h:List (Nat×α)),b∉l.map Prod.fst->lk (l++h) b=lk h b
 | [],_,_=>rfl| (k,x)::l,h,hb=>by simp only[RM,Rx,not_or]at hb;rw[RZ,z8,Re (fun e=>hb.1 e.symm)];exact rF l h hb.2
def qB :Nat->List (Nat×Bb B6)->Bool
 |0,_=>false|_+1,[]=>false|n+1,(_,x)::l=>match x with
  |none=>true|some _=>qB n l
theorem IE (l h:List (Nat×Bb B6))(hf:qB l.length (l++h)=false):∀p∈l,p.2≠none:=by
 induction l with
 |nil=>exact fun p hp=>by grind
 |cons a l d=>intro p hp;simp only[RC,RZ,qB]at hf;grind
def quiet {α:Type}(m:M α):M α:=fun s=>(m s).bind fun r=>bif Nat.beq r.2.h.length s.h.length&&Nat.beq r.2.nx s.nx then i4 r.1 r.2 else a8 "a region: an operation that should leave the memory alone" r.2
def KS {α:Type}(n:Nat)(m:M α):M (α×Ah×Bool):=fun s=>(m s).bind fun r=>i4 (r.1,Q7 (r.2.h.length-n) r.2.h,qB (r.2.h.length-n) r.2.h) r.2
def mpend :M Nat:=fun s=>i4 s.nx (DL s)
def Lp (pd:List Pd):M Unit:=fun s=>i4 () (eV s pd)
def liveR (r:Rd):M Unit:=match r with
 | .blk b=>t9 fun s=>match s.get b with
  |some _=>i4 ()|none=>a8 "a region: read"
 | .mlk _ b=>t9 fun s=>match s.get b with
  |some _=>i4 ()|none=>a8 "a region: read"
 |_=>i4 ()
def kV (P:Aw)(s0:SS)(f:Fm):Op->Rd
 |_=>
  have _:=P;have _:=s0;have _:=f
  .free
def KR (o:Oper):Bool:=Nat.beq (i5 o.op) 3
section
variable (P :Aw)(U:Ab)
def sgo (call:I0)(nt:Nat)(all:An):List (Oper×Nat)->Nat->Fm->List Pd->List En->M (Fm×List Pd)
 | [],_,f,pd,_=>i4 (f,pd)| (o,pre)::rest,i,f,pd,es=>
  bif A9 nt o.dst&&Nat.blt pre (2^i)then
   b9 (rN U all f o) fun t =>
   bif t then
    bif Nat.beq (i5 o.op) 0 then b9 (quiet (sop P U call (Y6 all f o t) o.op)) fun v=>sgo call nt all rest (i+1) (fF (Y6 all f o t) o.dst v) pd (⟨i,pre,false,false,.free,[],false⟩::es)
    else bif Nat.beq (i5 o.op) 1 then t9 fun sr=>b9 (quiet (sop P U call (Y6 all f o t) o.op)) fun v=>b9 (liveR (qY P (rgB sr) (Y6 all f o t) o.op)) fun _=>
      bif vok 1000 v&&es.all (dQ pre (qY P (rgB sr) (Y6 all f o t) o.op))then sgo call nt all rest (i+1) (fF (Y6 all f o t) o.dst v) pd (⟨i,pre,false,true,qY P (rgB sr) (Y6 all f o t) o.op,[],false⟩::es)
      else a8 "a region: a read"
    else bif Nat.beq (i5 o.op) 2 then match snw P (Y6 all f o t) o.op with
     |some (x,mk)=>b9 mpend fun b=>sgo call nt all rest (i+1) (fF (Y6 all f o t) o.dst (mk b)) (⟨b,i,x⟩::pd) (⟨i,pre,false,false,.free,[],false⟩::es)
     |none=>a8 "a region: a new block"
    else bif pd.all (fun p=>pre.testBit p.i)then
      t9 fun s0=>b9 (Lp pd) fun _=>b9 (KS s0.h.length (sop P U call (Y6 all f o t) o.op)) fun r=>b9 (liveR (kV P s0 (Y6 all f o t) o.op)) fun _=>
       bif es.all (eU pre r.2.1 (kV P s0 (Y6 all f o t) o.op))then sgo call nt all rest (i+1) (fF (Y6 all f o t) o.dst r.1) [] (⟨i,pre,true,false,kV P s0 (Y6 all f o t) o.op,r.2.1,r.2.2⟩::es)else a8 "a region: a write"
     else a8 "a region: blocks that wait"
   else bif KR o&& !(es.all (eU pre [] .free))then a8 "a region: not wanted" else
    sgo call nt all rest (i+1) (fF (Y6 all f o t) o.dst (.tup [])) pd (⟨i,pre,KR o,false,.free,[],false⟩::es)
  else a8 "a region: slot"
def FU (call:I0)(nt:Nat):jF:=fun all f=>
 bif stat all (F9 all [])then b9 (sgo P U call nt all (all.zip (F9 all [])) 0 f [] []) fun r=>b9 (Lp r.2) fun _=>i4 r.1
 else a8 "a region: order"
def LZ (call:I0)(nt:Nat):jF:=fun all f=>FU P U call nt all f
end
section
variable {P :Aw}{U:Ab}{ov:Aa}{nt:Nat}
variable {call :i9}{all:An}{nx0:Nat}{o:Oper}{pre:Nat}{rest:List (Oper×Nat)}{i:Nat}{tm:Ao}{S:Hp}{I:Nat}{es:List Ent}
def Qw (d:A9 nt o.dst=true)(e:u6 all tm o=false):xgo P call nt all nx0 ((o,pre)::rest) i tm S I es=xgo P call nt all nx0 rest (i+1) (y9 tm o.dst undef) S I (⟨i,o,pre,tm,S,S,I,false,undef,none⟩::es):=by rw[xgo,d,Ra,e,Rb]
variable {v:Av}{S':Hp}
theorem xgo_0 (d:A9 nt o.dst=true)(e:u6 all tm o=true)(hk:i5 o.op=0)(hx:xop P call tm S o.op=some (v,S')):xgo P call nt all nx0 ((o,pre)::rest) i tm S I es=xgo P call nt all nx0 rest (i+1) (y9 tm o.dst v) S I (⟨i,o,pre,tm,S,S,I,true,v,none⟩::es):=by rw[xgo,d,Ra,e,Ra,hk];grind
theorem xgo_1 (d:A9 nt o.dst=true)(e:u6 all tm o=true)(hk:i5 o.op=1)(hx:xrd P tm S o.op=some v):xgo P call nt all nx0 ((o,pre)::rest) i tm S I es=xgo P call nt all nx0 rest (i+1) (y9 tm o.dst v) S I (⟨i,o,pre,tm,S,S,I,true,v,none⟩::es):=by rw[xgo,d,Ra,e,Ra,hk];grind
theorem xgo_2 (d:A9 nt o.dst=true)(e:u6 all tm o=true)(hk:i5 o.op=2){n:Nw}(hx:xnw P tm o.op=some n):xgo P call nt all nx0 ((o,pre)::rest) i tm S I es=xgo P call nt all nx0 rest (i+1) (y9 tm o.dst (n.val (nx0+i))) S I (⟨i,o,pre,tm,S,S,I,true,n.val (nx0+i),some n⟩::es):=by rw[xgo,d,Ra,e,Ra,hk];grind
theorem xgo_3 (d:A9 nt o.dst=true)(e:u6 all tm o=true)(hk:i5 o.op=3)(hx:xop P call tm (takes nx0 (kQ pre I) es S) o.op=some (v,S')):xgo P call nt all nx0 ((o,pre)::rest) i tm S I es=xgo P call nt all nx0 rest (i+1) (y9 tm o.dst v) S' (I|||pre) (⟨i,o,pre,tm,S,S',I,true,v,none⟩::es):=by rw[xgo,d,Ra,e,Ra,hk];grind
def A3 {α d:Type}{m:M α}{k:α->M d}{s:SS}{Q:d×SS->Prop}:(b9 m k s).vc U Q↔(m s).vc U fun r=>(k r.1 r.2).vc U Q:=by exact TT _ _ _ _
def Dl {α:Type}{m:M α}{s:SS}{Q:α×SS->Prop}(h:(quiet m s).vc U Q):(m s).vc U fun r=>Q r/\r.2.h.length=s.h.length/\r.2.nx=s.nx:=by
 unfold quiet at h;rw[TT]at h;refine Tr.vc_mono _ _ (fun r hr=>?_) h;cases hb:Nat.beq r.2.h.length s.h.length&&Nat.beq r.2.nx s.nx with
 |false=>rw[hb]at hr;exact hr.elim|true=>rw[hb]at hr;rw[QJ]at hb;exact⟨hr,QN hb.1,QN hb.2⟩
variable {τ :Tau}{F:Ac}{s:SS}
theorem Ext.quiet {τ':Tau}{F':Ac}{s':SS}(ex:Ext τ F s S τ' F' s' S')(hs:SD P U τ F s S)(e:SD P U τ' F' s' S')(g:S'=S)(hh:s'.h.length=s.h.length)(hn:s'.nx=s.nx):τ'=τ/\F'=F/\s'.h=s.h:=by
 obtain⟨l,a1,_,_,a4,_⟩:=ex.hh;have hl:l=[]:=by simp_all
 subst hl;refine⟨funext fun b=>?_,funext fun j=>?_,by grind⟩;by_cases hb:b<s.nx;exact ex.st b hb;rw[hs.new b (by omega),e.new b (by omega)]
 ·cases hq:F' j with
  |none=>
   cases d:F j with
   |none=>rfl|some y=>rw[ex.f j y d]at hq;cases hq
  |some y=>grind
def Ji {s0:SS}{f:Fm}{o:Op}{t:Ax}{b:Nat}(h:kV P s0 f o= .mlk t b)(ht:TD P U τ F f tm)(hs:SD P U τ F s S)(hb:s.get b=s0.get b)(hx:xop P call tm S o=some (v,S')):∃x j q,s0.get b=some x/\τ b=some (some (j,q))/\MS P t j S S':=by unfold kV at h;cases h
variable (P U ov nt) in
def JN (all:An)(τ0:Tau)(F0:Ac)(s0:SS)(hp0:Hp)(rest:List (Oper×Nat))(i:Nat)(tm:Ao)(S:Hp)(I:Nat)(esX:List Ent)(f:Fm)(Q:(Fm×List Pd)×SS->Prop):Prop:=
 ∃f' pd' s',Q ((f',pd'),s')/\ ∃τ' F' out es',(EV fun m=>xgo P (D2 P ov m) nt all hp0.nx rest i tm S I esX=some out)/\
  DA P U τ0 F0 s0 hp0 all.length all.length τ' F' s' out.S f' out.tm pd' out.es out.I/\DB P ⟨hp0.m,hp0.nx+all.length⟩ all.length τ' F' s' out.S es' out.es/\ ∃pr,f'=pr++f
theorem oY {call:I0}(z:E1 P U ov call){all:An}{τ0:Tau}{F0:Ac}{s0:SS}{hp0:Hp}:∀(rest:List (Oper×Nat)) (i:Nat) (τ:Tau) (F:Ac) (s:SS) (S:Hp) (f:Fm) (tm:Ao) (pd:List Pd) (es:List En) (esX:List Ent) (I:Nat),DA P U τ0 F0 s0 hp0 all.length i τ F s S f tm pd esX I->DB P ⟨hp0.m,hp0.nx+all.length⟩ i τ F s S es esX->i+rest.length=all.length-> ∀Q,(sgo P U call nt all rest i f pd es s).vc U Q->JN P U ov nt all τ0 F0 s0 hp0 rest i tm S I esX f Q
 | [],i,τ,F,s,S,f,tm,pd,es,esX,I,d,hb,hi,Q,hq=>by
  have e:i=all.length:=by grind
  subst e;exact⟨f,pd,s,hq,τ,F,⟨tm,S,I,esX⟩,es,Tl fun m=>rfl,d,hb,[],rfl⟩
 | (o,pre)::rest,i,τ,F,s,S,f,tm,pd,es,esX,I,d,hb,hi,Q,hq=>by
  have ba:i<all.length:=by grind
  have M:i+1+rest.length=all.length:=by grind
  unfold sgo at hq;cases V:A9 nt o.dst&&Nat.blt pre (2^i)with
  |false=>rw[V]at hq;exact hq.elim|true=>
   rw[V,Ra,A3]at hq;rw[QJ]at V;have ao:pre<2^i:=QM V.2;obtain⟨t,s1,hq,C,ax,hw⟩:=vC d.td all o (s:=s) _ hq d.sd.fc;have d:=d.fr (Hu d.td hw);obtain⟨p0,X⟩:=Dm all f o t;have W:JN P U ov nt all τ0 F0 s0 hp0 ((o,pre)::rest) i tm S I esX (Y6 all f o t) Q->JN P U ov nt all τ0 F0 s0 hp0 ((o,pre)::rest) i tm S I esX f Q:=
    fun⟨f',al,s',h1,τ',F',ak,Y,h2,h3,h4,pr,h5⟩=>⟨f',al,s',h1,τ',F',ak,Y,h2,h3,h4,pr++p0,by rw[h5,X,QX]⟩
   refine W ?_;clear W X p0;generalize Y6 all f o t=f at hq d⊢;have A:=d.sd.only C ax;have K:∀ {a:SV} {v:Av} {S':Hp} {I':Nat} {eX:Ent},(EV fun m=>xgo P (D2 P ov m) nt all hp0.nx ((o,pre)::rest) i tm S I esX=xgo P (D2 P ov m) nt all hp0.nx rest (i+1) (y9 tm o.dst v) S' I' (eX::esX))->
     JN P U ov nt all τ0 F0 s0 hp0 rest (i+1) (y9 tm o.dst v) S' I' (eX::esX) (fF f o.dst a) Q->JN P U ov nt all τ0 F0 s0 hp0 ((o,pre)::rest) i tm S I esX f Q:=by
    intro a v S' I' eX he ⟨f',al,s',h1,τ',F',ak,Y,h2,h3,h4,pr,h5⟩;obtain⟨p,hp⟩:=Dj f o.dst a;exact⟨f',al,s',h1,τ',F',ak,Y,(he.and h2).mono fun m ⟨k1,k2⟩=>by rw[k1];exact k2,h3,h4,pr++p,by rw[h5,hp,QX]⟩
   have ab:∀b x,s.get b=some x->τ b=τ b:=fun _ _ _=>rfl;cases t with
   |false=>
    rw[Rb]at hq;cases hc:KR o&& !(es.all (eU pre [] .free))with
    |true=>rw[hc]at hq;exact hq.elim|false=>
     rw[hc,Rb]at hq;have hk:∀h:KR o=true,es.all (eU pre [] .free)=true:=fun h=>by grind
     have hg:∀b,s1.get b=s.get b:=C.get;have E:=d.keep hb.xi (eX:=⟨i,o,pre,tm,S,S,I,false,undef,none⟩) A (d.td.put (.tup [] [] rfl (fun i a x h _=>by simp at h)) o.dst) C.h C.nx (Tm d.sd C) rfl rfl;have G:=hb.step (en:=⟨i,pre,KR o,false,.free,[],false⟩) (eX:=⟨i,o,pre,tm,S,S,I,false,undef,none⟩) (τ':=τ) (F':=F) (s':=s1) (S':=S) (TS τ) (Tn F) ab d.sd.frz (fun _ _ _ h=>h)
      (fun b _=>hg b) (fun _ _ _ _ _ _ _=>rfl) rfl rfl rfl rfl rfl (fun _=>⟨rfl,rfl⟩) hk (fun _ _ _ h=>by cases h) (fun h _=>by cases h)
     exact K (Tl fun m=>Qw V.1 hw) (oY z rest (i+1) τ F s1 S _ _ pd _ _ I E G M Q hq)
   |true=>
    rw[Ra]at hq;have bb:i5 o.op=0\/i5 o.op=1\/i5 o.op=2\/i5 o.op=3:=by have:=mQ o.op;omega
    rcases bb with hk|hk|hk|hk<;>rw[hk]at hq
    ·rw[show Nat.beq 0 0=true from rfl,Ra,A3]at hq;obtain⟨a,s2,⟨hq,h1,h2⟩,τ',F',S',ex,B,v,hx,hv⟩:=Bn z (d.td) A o.op _ (Dl hq) A;obtain⟨O,D⟩:=hx;have D:∀m,O<=m->xop P (D2 P ov m) tm S o.op=some (v,S'):=D;obtain⟨r,hr⟩:=vX (P:=P) (call:=D2 P ov O) (tm:=tm) hk;have hS:S'=S:=by have:=D O (Ri _);rw[hr]at this;exact(m9 this).2
     obtain⟨rfl,rfl,h3⟩:=ex.quiet A B hS h1 h2;subst hS;have hh:s2.h=s.h:=by rw[h3,C.h]
     have hn:s2.nx=s.nx:=by rw[h2,C.nx]
     have hg:∀b,s2.get b=s.get b:=fun b=>by unfold SS.get;rw[hh]
     have E:=d.keep hb.xi (eX:=⟨i,o,pre,tm,S',S',I,true,v,none⟩) B (d.td.put hv o.dst) hh hn ((Tm d.sd C).trans ex) rfl rfl;have G:=hb.step (en:=⟨i,pre,false,false,.free,[],false⟩) (eX:=⟨i,o,pre,tm,S',S',I,true,v,none⟩) (τ':=τ') (F':=F') (s':=s2) (S':=S') (TS _) (Tn _) ab d.sd.frz (fun _ _ _ h=>h)
      (fun b _=>hg b) (fun _ _ _ _ _ _ _=>rfl) rfl rfl rfl (by show false=isW _;unfold isW;rw[show i5 o.op=0 from hk];rfl) rfl (fun _=>⟨rfl,rfl⟩) (fun h=>by unfold isW at h;rw[show i5 o.op=0 from hk]at h;cases h) (fun h=>by cases h) (fun _ h=>by rw[show i5 o.op=0 from hk]at h;cases h)
     exact K ⟨O,fun m hm=>xgo_0 V.1 hw hk (D m hm)⟩ (oY z rest (i+1) _ _ s2 S' _ _ pd _ _ I E G M Q hq)
    ·rw[show Nat.beq 1 0=false from rfl,show Nat.beq 1 1=true from rfl,Rb,Ra]at hq;unfold t9 at hq;rw[A3]at hq;obtain⟨a,s2,⟨hq,h1,h2⟩,τ',F',S',ex,B,v,hx,hv⟩:=Bn z (d.td) A o.op _ (Dl hq) A;obtain⟨O,D⟩:=hx;obtain⟨hS,bg⟩:=QF hk (D O (Ri _));obtain⟨rfl,rfl,h3⟩:=ex.quiet A B hS h1 h2;subst hS;have hh:s2.h=s.h:=by rw[h3,C.h]
     have hn:s2.nx=s.nx:=by rw[h2,C.nx]
     have hg:∀b,s2.get b=s.get b:=fun b=>by unfold SS.get;rw[hh]
     have bh:=NN d.td A (D O (Ri _));rw[A3]at hq;have J:(∀b,(qY P (rgB s1) f o.op= .blk b\/ ∃t,qY P (rgB s1) f o.op= .mlk t b)-> ∃x,s.get b=some x)/\Tr.vc U ((bif vok 1000 a&&es.all (dQ pre (qY P (rgB s1) f o.op))then sgo P U call nt all rest (i+1) (fF f o.dst a) pd (⟨i,pre,false,true,qY P (rgB s1) f o.op,[],false⟩::es)
      else a8 "a region: a read") s2) Q:=by
      cases ae:qY P (rgB s1) f o.op with
      |blk b=>
       rw[ae]at hq;simp only[liveR,t9]at hq;cases n:s2.get b with
       |none=>rw[n]at hq;exact hq.elim|some x=>rw[n]at hq;exact⟨fun b' e=>by rcases e with e| ⟨_,e⟩<;>cases e;exact⟨x,by rw[<-hg];exact n⟩,hq⟩
      |mlk tt b=>
       rw[ae]at hq;simp only[liveR,t9]at hq;cases n:s2.get b with
       |none=>rw[n]at hq;exact hq.elim|some x=>rw[n]at hq;exact⟨fun b' e=>by rcases e with e| ⟨_,e⟩<;>cases e;exact⟨x,by rw[<-hg];exact n⟩,hq⟩
      |_=>rw[ae]at hq;exact⟨fun b' e=>(by rcases e with e| ⟨_,e⟩<;>cases e),hq⟩
     obtain⟨J,hq⟩:=J;cases hc:vok 1000 a&&es.all (dQ pre (qY P (rgB s1) f o.op))with
     |false=>rw[hc]at hq;exact hq.elim|true=>
      rw[hc,Ra]at hq;rw[QJ]at hc;have E:=d.keep hb.xi (eX:=⟨i,o,pre,tm,S',S',I,true,v,none⟩) B (d.td.put hv o.dst) hh hn ((Tm d.sd C).trans ex) rfl rfl;have G:=hb.step (en:=⟨i,pre,false,true,qY P (rgB s1) f o.op,[],false⟩) (eX:=⟨i,o,pre,tm,S',S',I,true,v,none⟩) (τ':=τ') (F':=F') (s':=s2) (S':=S') (TS _) (Tn _) ab d.sd.frz (fun _ _ _ h=>h)
       (fun b _=>hg b) (fun _ _ _ _ _ _ _=>rfl) rfl rfl rfl (by show false=isW _;unfold isW;rw[show i5 o.op=1 from hk];rfl) rfl (fun _=>⟨rfl,rfl⟩) (fun h=>by unfold isW at h;rw[show i5 o.op=1 from hk]at h;cases h) (fun h=>by cases h)
       (fun _ _=>⟨DT 1000 a v hc.1 hv,rfl,rfl,bh,J,hc.2⟩)
      refine K ⟨O,fun m hm=>xgo_1 V.1 hw hk bg⟩ (oY z rest (i+1) _ _ s2 S' _ _ pd _ _ I E G M Q hq)
    ·rw[show Nat.beq 2 0=false from rfl,show Nat.beq 2 1=false from rfl,show Nat.beq 2 2=true from rfl,Rb,Rb,Ra]at hq;cases ad:snw P f o.op with
     |none=>rw[ad]at hq;exact hq.elim|some xm=>
      obtain⟨x,mk⟩:=xm;rw[ad]at hq;obtain⟨nw,hx,av,au⟩:=Qh (U:=U) d.td ad;have hq:(sgo P U call nt all rest (i+1) (fF f o.dst (mk s1.nx)) (⟨s1.nx,i,x⟩::pd) (⟨i,pre,false,false,.free,[],false⟩::es) (DL s1)).vc U Q:=hq;have L:DA P U τ0 F0 s0 hp0 all.length i τ F s1 S f tm pd esX I:=
       ⟨A,d.td,d.ext.trans (Tm d.sd C),d.room,d.ib,d.xd,d.pn,fun p hp=>let k:=d.pds p hp;⟨k.lt,k.un,by rw[C.get];exact k.g,k.lo,by rw[C.nx];exact k.hi,k.t,k.f,k.u,k.e⟩,d.cl,d.tk⟩
      have h0:τ s1.nx=none:=A.new _ (Ri _);have ac:=bO (τ:=τ) (some (hp0.nx+i,0)) h0;have E:=L.pend hb.xi ba (eX:=⟨i,o,pre,tm,S,S,I,true,nw.val (hp0.nx+i),some nw⟩) (x:=x) (nw:=nw) ((d.td.mono ac (Tn F)).put (au _ s1.nx (hp0.nx+i) (u5 _ _ _)) o.dst) (av _ ac) rfl rfl;have G:=hb.step (en:=⟨i,pre,false,false,.free,[],false⟩) (eX:=⟨i,o,pre,tm,S,S,I,true,nw.val (hp0.nx+i),some nw⟩) (τ':=put τ s1.nx (some (hp0.nx+i,0))) (F':=F) (s':=DL s1) (S':=S) ac (Tn _)
       (fun b y hb=>B7 τ _ (by have:=d.sd.bound hb;rw[C.nx];omega)) d.sd.frz (fun _ _ _ h=>h)
       (fun b _=>C.get b) (fun _ _ _ _ _ _ _=>rfl) rfl rfl rfl (by show false=isW _;unfold isW;rw[show i5 o.op=2 from hk];rfl) rfl (fun _=>⟨rfl,rfl⟩) (fun h=>by unfold isW at h;rw[show i5 o.op=2 from hk]at h;cases h) (fun h=>by cases h) (fun _ h=>by rw[show i5 o.op=2 from hk]at h;cases h)
      exact K (Tl fun m=>xgo_2 V.1 hw hk hx) (oY z rest (i+1) _ _ _ S _ _ _ _ _ I E G M Q hq)
    ·rw[show Nat.beq 3 0=false from rfl,show Nat.beq 3 1=false from rfl,show Nat.beq 3 2=false from rfl,Rb,Rb,Rb]at hq;cases hc:pd.all (fun p=>pre.testBit p.i)with
     |false=>rw[hc]at hq;exact hq.elim|true=>
      rw[hc,Ra]at hq;rw[Rq]at hc;have L:DA P U τ0 F0 s0 hp0 all.length i τ F s1 S f tm pd esX I:=
       ⟨A,d.td,d.ext.trans (Tm d.sd C),d.room,d.ib,d.xd,d.pn,fun p hp=>let k:=d.pds p hp;⟨k.lt,k.un,by rw[C.get];exact k.g,k.lo,by rw[C.nx];exact k.hi,k.t,k.f,k.u,k.e⟩,d.cl,d.tk⟩
      have aq:∀e∈esX,e.nw≠none->(kQ pre I e.i=true↔ ∃p∈pd,p.i=e.i):=by intro e he be;unfold kQ;rw[QJ,RG];constructor;rintro ⟨_,h2⟩;exact d.tk e he be h2;rintro ⟨p,hp,h2⟩;rw[<-h2];exact⟨hc p hp,(d.pds p hp).un⟩
      obtain⟨t1,t2,t3,t4⟩:=L.take (kQ pre I) aq;simp only[t9]at hq;rw[A3]at hq;generalize ah:kV P s1 f o.op=so at hq;have hq:(b9 (KS s1.h.length (sop P U call f o.op)) (fun r=>b9 (liveR so) fun _=>bif es.all (eU pre r.2.1 so)then sgo P U call nt all rest (i+1) (fF f o.dst r.1) [] (⟨i,pre,true,false,so,r.2.1,r.2.2⟩::es)else a8 "a region: a write") (eV s1 pd)).vc U Q:=hq;rw[A3]at hq;unfold KS at hq;rw[TT]at hq;obtain⟨a,s2,hq,τ',F',S',ex,B,v,hx,hv⟩:=Bn z d.td t1 o.op _ hq t1;obtain⟨l,a1,a2,a3,a4,a5⟩:=ex.hh;have aa:Q7 (s2.h.length-s1.h.length) s2.h=(l++tkl pd).map Prod.fst:=by
       have:s2.h=(l++tkl pd)++s1.h:=by rw[a1,QX];rfl
       rw[this,Rn,Nat.add_sub_cancel,qC]
      have hq:(b9 (liveR so) (fun _=>bif es.all (eU pre (Q7 (s2.h.length-s1.h.length) s2.h) so)then sgo P U call nt all rest (i+1) (fF f o.dst a) [] (⟨i,pre,true,false,so,Q7 (s2.h.length-s1.h.length) s2.h,qB (s2.h.length-s1.h.length) s2.h⟩::es)else a8 "a region: a write") s2).vc U Q:=hq;rw[A3]at hq;have J:(∀t b,so= .mlk t b-> ∃x,s2.get b=some x)/\((bif es.all (eU pre (Q7 (s2.h.length-s1.h.length) s2.h) so)then sgo P U call nt all rest (i+1) (fF f o.dst a) [] (⟨i,pre,true,false,so,Q7 (s2.h.length-s1.h.length) s2.h,qB (s2.h.length-s1.h.length) s2.h⟩::es)else a8 "a region: a write") s2).vc U Q:=by
       cases so with
       |blk b=>
        simp only[liveR,t9]at hq;cases n:s2.get b with
        |none=>rw[n]at hq;exact hq.elim|some x=>rw[n]at hq;exact⟨fun _ _ e=>(by cases e),hq⟩
       |mlk tt b=>
        simp only[liveR,t9]at hq;cases n:s2.get b with
        |none=>rw[n]at hq;exact hq.elim|some x=>rw[n]at hq;exact⟨fun _ _ e=>(by cases e;exact⟨x,n⟩),hq⟩
       |free=>exact⟨fun _ _ e=>(by cases e),hq⟩|frz=>exact⟨fun _ _ e=>(by cases e),hq⟩|bad=>exact⟨fun _ _ e=>(by cases e),hq⟩
      obtain⟨J,hq⟩:=J;rw[aa]at hq;cases R:es.all (eU pre ((l++tkl pd).map Prod.fst) so)with
      |false=>rw[R]at hq;exact hq.elim|true=>
       rw[R,Ra]at hq;have E:=L.write hb.xi ao hc t3 t2 ex B ((d.td.mono ex.t ex.f).put hv o.dst) (eX:=⟨i,o,pre,tm,S,S',I,true,v,none⟩) rfl rfl;have az:∀b,b∉(l++tkl pd).map Prod.fst->s2.get b=s.get b:=by
        intro b hb;have:s2.h=(l++tkl pd)++s.h:=by rw[a1,QX,<-C.h];rfl
        unfold SS.get;rw[this,rF _ _ hb]
       have bi:∀b x j q,s.get b=some x->τ b=some (some (j,q))->b∉(l++tkl pd).map Prod.fst->S'.m.get j=S.m.get j:=by
        intro b x j q n aj bm;have N:∀p∈pd,b≠p.b:=by intro p hp e;rw[e,(d.pds p hp).g]at n;cases n
        have Z:∀p∈pd,j≠hp0.nx+p.i:=by intro p hp e;subst e;exact N p hp ((d.pds p hp).u b q aj)
        have ay:(eV s1 pd).get b=some x:=by rw[bA N,C.get];exact n
        rw[a2 j (by rw[t3];exact d.sd.lt b j q aj) (fun b' y q' e1 e2 e3=>?_),t4 j Z];by_cases eb:b'=b;grind;exact t1.inj b' b y x j q' j q e1 ay eb e2 aj rfl
       have aw:(isW (⟨i,o,pre,tm,S,S',I,true,v,none⟩:Ent)=true->qB (s2.h.length-s1.h.length) s2.h=false)-> ∀j y,F' j=some y->F j=some y:=fun hq=>by
        have hn:=hq (by unfold isW;rw[show i5 o.op=3 from hk];rfl);have e2:s2.h=(l++tkl pd)++s1.h:=by rw[a1,QX];rfl
        rw[e2,Rn,Nat.add_sub_cancel]at hn;exact a5 fun p hp=>IE _ _ hn p (SU _ hp)
       obtain⟨O,D⟩:=hx;have ai:∀tt b,qK so (.mlk tt b)=true-> ∃x x' j q,s.get b=some x/\s2.get b=some x'/\τ b=some (some (j,q))/\MS P tt j S S':=by
        intro tt b ap;have e:so= .mlk tt b:=by
         clear ah hq J R;cases so with
         |mlk t2 b2=>simp only[qK,QJ,Rz]at ap;grind|_=>cases ap
        obtain⟨x',bj⟩:=J tt b e;have bc:∃x,s1.get b=some x:=by
         rw[<-ah]at e;unfold kV at e
         repeat' split at e
         all_goals grind
        obtain⟨x1,bk⟩:=bc;have N:∀p∈pd,b≠p.b:=by intro p hp e;have:=(L.pds p hp).g;rw[<-e,bk]at this;cases this
        obtain⟨x,j,q,g1,g2,g3⟩:=Ji (s0:=s1) (ah.trans e) d.td t1 (by rw[bA N]) (D O (Ri _));have Z:∀p∈pd,j≠hp0.nx+p.i:=by intro p hp e;subst e;exact N p hp ((d.pds p hp).u b q g2)
        exact⟨x,x',j,q,by rw[<-C.get];exact g1,bj,g2,(MS.of (t4 j Z)).trans g3⟩
       have G:=hb.step (en:=⟨i,pre,true,false,so,(l++tkl pd).map Prod.fst,qB (s2.h.length-s1.h.length) s2.h⟩) (eX:=⟨i,o,pre,tm,S,S',I,true,v,none⟩) (τ':=τ') (F':=F') (s':=s2) (S':=S') ex.t ex.f
        (fun b y n=>ex.st b (by have:=d.sd.bound n;show b<s1.nx;rw[C.nx];exact this)) B.frz aw az bi rfl rfl rfl (by show true=isW _;unfold isW;rw[show i5 o.op=3 from hk];rfl) rfl
        (fun h=>by unfold isW at h;rw[show i5 o.op=3 from hk]at h;cases h) (fun _=>R) (fun _=>ai) (fun _ h=>by rw[show i5 o.op=3 from hk]at h;cases h)
       exact K ⟨O,fun m hm=>xgo_3 V.1 hw hk (D m hm)⟩ (oY z rest (i+1) _ _ _ S' _ _ _ _ _ _ E G M Q hq)
theorem Jc {call:I0}(u:E1 P U ov call)(all:An)(f:Fm)(τ:Tau)(F:Ac)(s:SS)(hp:Hp)(tm:Ao)(ht:TD P U τ F f tm)(hs:SD P U τ F s hp):OKh P U (FU P U call nt all f) τ F s hp fun A τ' F' hp'=>∃tm',(EV fun n=>R1 P (D2 P ov n) nt all tm hp=some (tm',hp'))/\TD P U τ' F' A tm'/\ ∃pre,A=pre++f:=by
 intro Q hq _;unfold FU at hq;cases r:stat all (F9 all [])with
 |false=>rw[r]at hq;exact hq.elim|true=>
  rw[r,Ra,A3]at hq;have M:(all.zip (F9 all [])).length=all.length:=by have:=r;simp only[stat,QJ]at this;simp_all
  have K:SD P U τ F s ⟨hp.m,hp.nx+all.length⟩:=⟨hs.live,hs.inj,hs.frz,fun b i o h=>RP (hs.lt b i o h) (Nat.le_add_right _ _),fun i b h=>RP (hs.flt i b h) (Nat.le_add_right _ _),hs.new,hs.fc,hs.fz⟩
  have C:Ext τ F s hp τ F s ⟨hp.m,hp.nx+all.length⟩:=⟨TS τ,Tn F,Nat.le_add_right _ _,Ri _,fun _ _=>rfl,fun b x hb _=>⟨x,hb⟩,
   ⟨[],rfl,fun _ _ _=>rfl,fun b i o hb ht=>(by rw[hs.new b hb]at ht;cases ht),fun _ _ _ h=>.inl h,fun _ _ _ h=>h⟩,⟨[],rfl⟩,⟨[],rfl,fun _ _ _ _ _ _ cs _ _ _ _ hg _=>⟨cs,hg,fun _ _=>rfl⟩⟩⟩
  have R:DA P U τ F s hp all.length 0 τ F s ⟨hp.m,hp.nx+all.length⟩ f tm [] [] 0:=by
   refine⟨K,ht,C,Ri _,fun j _=>Nat.zero_testBit j,.nil,.nil,fun p hp=>by grind,fun j _ _=>⟨fun c o hc=>?_,?_⟩,fun e he=>by grind⟩;have:=hs.lt c _ o hc;omega
   ·cases hF:F (hp.nx+j)with
    |none=>rfl|some y=>have:=hs.flt _ y hF;omega
  have hb:DB P ⟨hp.m,hp.nx+all.length⟩ 0 τ F s ⟨hp.m,hp.nx+all.length⟩ [] []:=by refine⟨fun e he=>by grind,fun e he=>by grind,fun e he=>by grind,fun e he=>by grind,fun k Sk g b x j o _ _ _=>?_,fun k Sk g _ j y hj=>?_,fun e he=>by grind,fun t k Sk g b x j o _ _ _=>?_⟩;rcases g with⟨_,rfl⟩| ⟨x,hx,_⟩;rfl;grind;rcases g with⟨_,rfl⟩| ⟨x,hx,_⟩;exact hs.frz j y hj;grind;rcases g with⟨_,rfl⟩| ⟨x,hx,_⟩;exact MS.of rfl;grind
  obtain⟨A,L,s',J,τ',F',d,O,⟨W,D⟩,q,B,pr,G⟩:=oY u (all.zip (F9 all [])) 0 τ F s _ f tm [] [] [] 0 R hb (by omega) _ hq;obtain⟨t1,t2,_,_⟩:=q.take (gP d.I) (fun e he E=>by unfold gP;rw[RG];constructor;exact q.tk e he E;rintro ⟨p,hp,N⟩;rw[<-N];exact(q.pds p hp).un);have z:dyn P ⟨hp.m,hp.nx+all.length⟩ d.es=true:=by
   unfold dyn;rw[Rq];intro e he;cases hc:e.wt&&Nat.beq (i5 e.o.op) 1 with
   |false=>rfl|true=>
    rw[Ra];rw[QJ]at hc;have look:=B.look e he hc.1 (QN hc.2);rw[QJ];refine⟨(look 0 _ (.inl ⟨rfl,rfl⟩)).look,?_⟩;rw[Rq];intro x hx;cases V:isW x with
    |false=>rfl|true=>exact(look _ _ (.inr ⟨x,hx,V,rfl,rfl⟩)).look
  refine⟨A,eV s' L,J,τ',F',takes hp.nx (gP d.I) d.es d.S,t2,t1,d.tm,⟨W,fun m hm=>?_⟩,q.td,pr,G⟩;have e:=D m hm;show R1 P (D2 P ov m) nt all tm hp=_;unfold R1;rw[r,Ra,e];simp only[z,Ra]
def Dx {call:I0}(d:E1 P U ov call):bY P U ov nt (LZ P U call nt):=by intro all f τ F s hp tm ht hs Q hq e;obtain⟨g,s',h1,τ',F',hp',h2,h3,tm',h4,h⟩:=Jc d all f τ F s hp tm ht hs Q hq e;exact⟨g,s',h1,τ',F',hp',h2,h3,tm',h4.mono fun n k=>by unfold v6;rw[k],h⟩
end
section
variable {P :Aw}{U:Ab}
variable {τ1 τ2:Tau}{F0 F1:Ac}{a:SV}
theorem VD.re {τ0:Tau}{y A:Av}(h0:VD P U τ0 F0 a y)(h1:VD P U τ1 F1 a A)(d:∀b p,τ0 b=some p->τ2 b=τ1 b):VD P U τ2 F1 a A:=by
 induction h1 generalizing y with
 |any v=>exact .any v|int k e=>exact .int k e|bool e=>exact .bool e|str e=>exact .str e|nilp=>exact .nilp|ptr b z row fld i o k h=>
  cases h0 with
  |ptr _ _ _ _ C o' k' _=>exact .ptr b z row fld i o (by rw[d b _ k'];exact k) h
 |pptr t L row fld i o l c k h h'=>exact .pptr t L row fld i o l c k h h'|rp row fld h=>exact .rp row fld h|rpq e v h=>exact .rpq e v h|rv L z xs h=>exact .rv L z xs h|nils=>exact .nils|sl b z off len cap i o c k h h' hc=>
  have hb:∃p,τ0 b=some p:=by cases h0<;>exact⟨_,by assumption⟩
  obtain⟨p,hp⟩:=hb;exact .sl b z off len cap i o c (by rw[d b _ hp];exact k) h h' hc
 |sl0 b z off len cap k h h' hc=>
  have hb:∃p,τ0 b=some p:=by cases h0<;>exact⟨_,by assumption⟩
  obtain⟨p,hp⟩:=hb;exact .sl0 b z off len cap (by rw[d b _ hp];exact k) h h' hc
 |lst t L clip v k hc=>exact .lst t L clip v k hc|agg l xs n _ q=>
  cases h0 with
  |agg _ ys r h2=>refine .agg l xs n fun i a x j hx=>?_;grind
 |tup l xs n _ q=>
  cases h0 with
  |tup _ ys r h2=>refine .tup l xs n fun i a x j hx=>?_;grind
 |fn f l m xs ys n _ r _ D E=>
  cases h0 with
  |fn _ _ _ J K M k3 N O=>refine .fn f l m xs ys n (fun i a x j hx=>?_) r (fun i a x j hx=>?_);grind;grind
 |nilf=>exact .nilf|map b i o k=>
  cases h0 with
  |map _ C o' k'=>exact .map b i o (by rw[d b _ k'];exact k)
 |nilm=>exact .nilm|iface t v x _ q=>
  cases h0 with
  |iface _ _ x' h'=>exact .iface t v x (q h')
 |nili=>exact .nili|yld ks vs g nt ps as bo i tms pr db hF hp _ q=>
  cases h0 with
  |yld _ _ _ _ _ _ _ i0 u G B _ _ k0=>exact .yld ks vs g nt ps as bo i tms pr db hF hp fun k a j=>q k a j (k0 k a j)
def BD.re {τ0:Tau}{x:B6}{o0 k:Nat}{y m:Blk}(h0:BD P U τ0 F0 o0 x y)(h1:BD P U τ1 F1 k x m)(d:∀b p,τ0 b=some p->τ2 b=τ1 b):BD P U τ2 F1 k x m:=by
 cases x with
 |cells l e z=>obtain⟨q,n0,_,_,k0⟩:=h0;obtain⟨cs,n,t,u,k1⟩:=h1;refine⟨cs,n,t,u,fun j a h=>?_⟩;obtain⟨x,hx,hv⟩:=k1 j a h;obtain⟨x0,_,g⟩:=k0 j a h;exact⟨x,hx,g.re hv d⟩
 |rows L e z ph=>exact h1|map L kt vt=>exact h1|iter s p=>exact h1|reg r L z=>obtain⟨_,k0,_⟩:=h0;obtain⟨e0,k1,k2⟩:=h1;exact⟨e0,(d _ _ k0).trans k1,k2⟩
def E3 (P:Aw)(U:Ab)(x:B6):Prop:=∃L e z ph,x= .rows L e z ph/\L.toR U=[]/\z=(kf P e).length/\ph.toI U<=0
theorem SD.rebase {F:Ac}{s1 s2:SS}{hp:Hp}(hs:SD P U τ1 F s1 hp)(g:Nat->Nat)(h:∀b x,s2.get b=some x-> ∃x',s1.get (g b)=some x'/\τ2 b=τ1 (g b)/\(∀i o y,τ1 (g b)=some (some (i,o))->hp.m.get i=some y->BD P U τ1 F o x' y->BD P U τ2 F o x y)/\(E3 P U x'->E3 P U x))(hg:∀b c x y,s2.get b=some x->s2.get c=some y->b≠c->g b≠g c)(hlt:∀b i o,τ2 b=some (some (i,o))->i<hp.nx)(hn:∀b,s2.nx<=b->τ2 b=none)(hf:FT U s2.fc)(hz:∀r∈s2.fz,Ic P U τ2 F r):SD P U τ2 F s2 hp:=by refine⟨fun b x hb=>?_,fun b c x y i o j q hb hc d e k=>?_,hs.frz,hlt,hs.flt,hn,hf,hz⟩;obtain⟨x',h1,h2,h3,h4⟩:=h b x hb;rcases hs.live _ _ h1 with⟨i,o,y,k1,k2,k3,p⟩| ⟨k1,k2⟩;grind;exact .inr ⟨by grind,h4 k2⟩;obtain⟨x',h1,h2,_⟩:=h b x hb;obtain⟨n,k1,k2,_⟩:=h c y hc;rw[h2]at e;rw[k2]at k;exact hs.inj _ _ x' n i o j q h1 k1 (hg b c x y hb hc d) e k
inductive G where
 |keep
 |any
 |int (k:IntKind)
 |bool
 |str
 |lst (t:Ax)
 |acc (e:Ax) (z:Nat)
 |clp (t:Ax)
 |itr (s:E)
 |cel (k:IntKind) (t:Ax)
 |mac (kt vt:Ax)
 |rwk (b:Nat) (e:Ax) (z:Nat) (ph:E)
 |rpt
 |rgk (b z:Nat)
 |rgl (z:Nat)
 |pp (t:Ax)
def G.so :G->Bb So
 | .int _=>some .i| .bool=>some .b| .str=>some .s| .lst _=>some .l| .clp _=>some .l| .acc _ _=>some .l| .itr _=>some .i| .cel _ _=>some .i| .mac _ _=>some .l| .rwk _ _ _ _=>some .l| .rpt=>some .i| .rgk _ _=>some .l| .rgl _=>some .l| .pp _=>some .l|_=>none
def G.na :G->Nat
 | .acc _ _=>1| .itr _=>1| .cel _ _=>1| .mac _ _=>1|_=>0
def wk1 :E->Cp->Cp
 | .int 1,.ex (.int 1)=>.un|_,c=>c
def fQ :SV->Cp
 | .nils=>.ge| .sl _ _ _ n (.ex c)=>wk1 n (.ex c)| .sl _ _ _ _ .ge=>.ge|_=>.un
def phOf (L:E):Cp->E
 | .ex c=>c| .ge=>A6 L| .un=>A6 L
def tv (g:G)(a:SV)(e:E)(b:Nat):SV:=match g with
 | .keep=>a| .any=>.any| .int k=>.int k e| .bool=>.bool e| .str=>.str e| .lst t=>.lst t e false| .clp t=>.lst t e true| .acc _ z=>.sl b z (.int 0) (A6 e) (fQ a)| .itr _=>.ptr b 1 (.int 0) 0| .cel _ _=>.ptr b 1 (.int 0) 0| .mac _ _=>.map b| .rwk _ _ _ _=>.any| .rpt=>.rpq e| .rgk _ _=>.any| .rgl z=>.rv e z| .pp t=>.pptr t e (.int 0) 0
def G.blk (g:G)(a:SV)(d:E):Bb B6:=match g with
 | .acc e z=>some (.rows d e z (phOf d (fQ a)))| .itr s=>some (.iter s d)| .cel k t=>some (.cells [.int k d] t 1)| .mac kt vt=>some (.map d kt vt)|_=>none
def G.fix (g:G)(d:E):Bb (Nat×B6):=match g with
 | .rwk b e z ph=>some (b,.rows d e z ph)| .rgk b z=>some (b,.reg b d z)|_=>none
def hd1 :Au->E
 | []=>.int 0|e::_=>e
def tl1 :Au->Au
 | []=>[]
 |_::l=>l
def pop (g:G)(es:Au):Au:=match g.so with
 |some _=>tl1 es|none=>es
inductive At where
 |tmp (t:Nat)
 |cell (b j:Nat)
 |no
structure Pl where
 at_:At
 g:G
 a:SV
def cE :List Pl->Au->Nat->List (At×SV)
 | [],_,_=>[]
 |p::l,es,b=>(p.at_,tv p.g p.a (hd1 es) b)::cE l (pop p.g es) (b+p.g.na)
def fE :List Pl->Au->Nat->List (Nat×Bb B6)
 | [],_,_=>[]
 |p::l,es,b=>match p.g.blk p.a (hd1 es)with
  |some X=>(b,some X)::fE l (pop p.g es) (b+p.g.na)|none=>match p.g.fix (hd1 es)with
   |some q=>(q.1,some q.2)::fE l (pop p.g es) (b+p.g.na)|none=>fE l (pop p.g es) (b+p.g.na)
def Ko {U:Ab}{len:E}{cap:Cp}{c:Nat}(h:lX U len cap c):lX U len (wk1 len cap) c:=by unfold wk1;split;obtain⟨_,h1,h2,_⟩:=h;exact .inl ⟨h2,h1,by show(1:Int)<=67108864;decide⟩;exact h
def Qs {len e:E}{cap:Cp}(h:wk1 len cap= .ex e):cap= .ex e:=by unfold wk1 at h;split at h;cases h;exact h
def VD.wk1 {P:Aw}{U:Ab}{τ:Tau}{F:Ac}{b z:Nat}{off len:E}{cap:Cp}{x:Av}(h:VD P U τ F (.sl b z off len cap) x):VD P U τ F (.sl b z off len (wk1 len cap)) x:=by
 cases h with
 |sl _ _ _ _ _ i o c k h0 h1 hc=>exact .sl b z off len _ i o c k h0 h1 (Ko hc)|sl0 _ _ _ _ _ k h0 h1 hc=>exact .sl0 b z off len _ k h0 h1 fun e he=>hc e (Qs he)
def qE (P:Aw)(U:Ab)(g:G)(v:SV):M SV:=match g with
 | .lst t=>b9 (wH P U 20 (.sl t) v) fun e=>i4 (.lst t e false)
 | .clp t=>match v with
  | .lst t' L c=>bif c then i4 (.lst t' L c)else a8 "a list with room behind it"| .nils=>i4 (.lst t (.op .nil []) true)| .sl b z off len (.ex c)=>b9 (p8 U (E4 c len)) fun _=>b9 (wH P U 20 (.sl t) (.sl b z off len (.ex c))) fun e=>i4 (.lst t e true)
  |_=>a8 "a slice with room behind it"
 | .acc e z=>match v with
  | .sl b z' off len cap=>b9 (yA P b) fun _=>i4 (.sl b z' off len (wk1 len cap))
  | .nils=>bif Nat.beq z (kf P e).length then b9 (bQ (.rows (.op .nil []) e z (.int 0))) fun b=>i4 (.sl b z (.int 0) (.int 0) .ge)else a8 "loop: cells"
  |_=>a8 "loop: no slice"
 | .pp t=>match v with
  | .ptr b z (.int 0) 0=>t9 fun s=>match s.get b with
   |some (.cells _ _ _)=>b9 (wH P U 20 (.sl t) (.sl b z (.int 0) (.int 1) (.ex (.int 1)))) fun e=>b9 (p8 U (E4 (A6 e) (.int 1))) fun _=>i4 (.pptr t e (.int 0) 0)
   |_=>i4 v
  |_=>i4 v
 |_=>i4 v
def norm (P:Aw)(U:Ab):List Pl->As->M (As)
 |p::l,v::vs=>b9 (qE P U p.g v) fun v'=>b9 (norm P U l vs) fun vs'=>i4 (v'::vs')
 | [],[]=>i4 []|_,_=>a8 "loop: places"
def svp :SV->SV->Bool
 | .ptr b z (.int m) f,.ptr b' z' (.int m') f'=>Nat.beq b b'&&Nat.beq z z'&&decide (m=m')&&Nat.beq f f'| .nilp,.nilp=>true| .nilf,.nilf=>true| .nilm,.nilm=>true| .nili,.nili=>true| .nils,.nils=>true| .map b,.map b'=>Nat.beq b b'| .int k (.int m),.int k' (.int m')=>decide (k=k')&&decide (m=m')|_,_=>false
def Mv :As->As->Bool
 | [],[]=>true|a::l,b::m=>svp a b&&Mv l m|_,_=>false
def svk (a v:SV):Bool:=svp a v||match a,v with
 | .fn f l m,.fn g l' m'=>decide (f=g)&&Mv l l'&&Mv m m'|_,_=>false
def Mu {v:SV}(h:svp a v=true):a=v:=by
 unfold svp at h;split at h<;>first
  |rfl
  |cases h
  | (simp at h
     obtain⟨⟨⟨rfl,rfl⟩,rfl⟩,rfl⟩:=h;rfl)
  | (simp at h
     rfl)
  | (rw[QN h])
def Bx :∀ {l m:As},Mv l m=true->l=m
 | [],[],_=>rfl| [],_::_,h=>by cases h
 |_::_,[],h=>by cases h
 |a::l,b::m,h=>by unfold Mv at h;rw[QJ]at h;rw[Mu h.1,Bx h.2]
def Qo {v:SV}(h:svk a v=true):a=v:=by unfold svk at h;rw[Sv]at h;rcases h with h|h;exact Mu h;split at h;simp at h;rw[h.1.1,Bx h.1.2,Bx h.2];cases h
def mt1 (U:Ab)(g:G)(a v:SV):M (Bb E×Ai):=match g with
 | .keep=>bif svk a v then i4 (none,none)else a8 "loop: a place that has changed"| .any=>i4 (none,none)| .int k=>match v with
  | .int k' e=>bif decide (k=k')then i4 (some e,none)else a8 "loop: kind"|_=>a8 "loop: no int"
 | .bool=>match v with
  | .bool e=>i4 (some e,none)|_=>a8 "loop: no bool"
 | .str=>match v with
  | .str e=>i4 (some e,none)|_=>a8 "loop: no string"
 | .lst t=>match v with
  | .lst t' L _=>bif Nat.beq t t' then i4 (some L,none)else a8 "loop: type"|_=>a8 "loop: no list"
 | .clp t=>match v with
  | .lst t' L c=>bif c&&Nat.beq t t' then i4 (some L,none)else a8 "loop: type"|_=>a8 "loop: no list"
 | .acc e z=>match v with
  | .sl b z' (.int m) len cap=>t9 fun s=>match s.get b with
   | some (.rows L e' z'' ph) => bif Nat.beq e e' && Nat.beq z z' && Nat.beq z z'' && decide (m = 0) then
     b9 (p8 U (y8 (z4 (A6 L) len))) fun _=>b9 (W5 U L (.int 0) len) fun d=>match fQ a,cap with
      | .un,.ge=>i4 (some d,some b)| .un,.un=>i4 (some d,some b)| .ge,.ge=>i4 (some d,some b)| .un,.ex c'=>b9 (p8 U (E4 c' len)) fun _=>b9 (p8 U (z4 len (.int 67108865))) fun _=>i4 (some d,some b)
      | .ex c,.ex c'=>b9 (p8 U (E4 c' c)) fun _=>b9 (p8 U (y8 (z4 ph c))) fun _=>i4 (some d,some b)
      |_,_=>a8 "loop: capacity"
    else a8 "loop: slice"
   |_=>a8 "loop: block"
  |_=>a8 "loop: no slice"
 | .itr s0=>match v with
  | .ptr b z (.int m) f=>t9 fun s=>match s.get b with
   |some (.iter s' pos)=>bif Nat.beq z 1&&decide (m=0)&&Nat.beq f 0 then b9 (p8 U (mO s' s0)) fun _=>i4 (some pos,some b)else a8 "loop: iterator"
   |_=>a8 "loop: block"
  |_=>a8 "loop: no iterator"
 | .cel k t=>match v with
  | .ptr b z (.int m) f=>t9 fun s=>match s.get b with
   |some (.cells [.int k' e] t' z')=>bif Nat.beq z 1&&decide (m=0)&&Nat.beq f 0&&Nat.beq z' 1&&Nat.beq t t'&&decide (k=k')then i4 (some e,some b)else a8 "loop: cell"|_=>a8 "loop: block"
  |_=>a8 "loop: no cell"
 | .mac kt vt=>match v with
  | .map b=>t9 fun s=>match s.get b with
   |some (.map L kt' vt')=>bif Nat.beq kt kt'&&Nat.beq vt vt' then i4 (some L,some b)else a8 "loop: map"|_=>a8 "loop: block"
  |_=>a8 "loop: no map"
 | .rwk b e z ph=>t9 fun s=>match s.get b with
  |some (.rows L e' z' ph')=>bif Nat.beq e e'&&Nat.beq z z' then b9 (p8 U (y8 (z4 ph' ph))) fun _=>i4 (some L,none)else a8 "loop: rows"
  |_=>a8 "loop: no rows"
 | .rpt=>match v with
  | .rpq e=>i4 (some e,none)| .rp e 0=>i4 (some e,none)| .nilp=>i4 (some (.int (-1)),none)|_=>a8 "loop: no pointer to a row"
 | .pp t=>match v with
  | .pptr t' L row 0=>bif Nat.beq t t' then i4 (some (.op .part [L,row,.int 1]),none)else a8 "pointer: type"|_=>a8 "no pointer to a value"
 | .rgl z=>match v with
  | .rv L z'=>bif Nat.beq z z' then i4 (some L,none)else a8 "rows: size"|_=>a8 "rows"
 | .rgk b z=>t9 fun s=>match s.get b with
  |some (.reg r L z')=>bif Nat.beq r b&&Nat.beq z z' then i4 (some L,none)else a8 "loop: rows"|_=>a8 "loop: no rows"
variable (U) in
def mV :So->E->E->Prop
 | .i,e,d=>e.toI U=d.toI U| .b,e,d=>(e.den U).toBool=(d.den U).toBool| .s,e,d=>(e.den U).toStr=(d.den U).toStr| .l,e,d=>e.toR U=d.toR U
variable {τ :Tau}{F:Ac}{s:SS}{hp:Hp}
variable (P U) in
def JM (τ:Tau)(F:Ac)(s:SS)(so:So)(mk:E->Bb B6)(r:Bb E×Ai):Prop:=
 ∃b L x',r.2=some b/\r.1=some L/\s.get b=some x'/\ ∀d,mV U so L d-> ∃X,mk d=some X/\
  (∀(τ2:Tau) o y,BD P U τ F o x' y->BD P U τ2 F o X y)/\(E3 P U x'->E3 P U X)
variable (P U) in
def Po (τ:Tau)(F:Ac)(s:SS)(g:G)(r:Bb E×Ai):Prop:=
 ∀d0 p,g.fix d0=some p->g.so=some .l/\ ∃L x',r.1=some L/\s.get p.1=some x'/\ ∀d,mV U .l L d-> ∃X,g.fix d=some (p.1,X)/\
  (∀(τ2:Tau) o y,τ2 p.1=τ p.1->BD P U τ F o x' y->BD P U τ2 F o X y)/\(E3 P U x'->E3 P U X)
variable (P U) in
def MtOK (τ0:Tau)(τ:Tau)(F:Ac)(s:SS)(g:G)(a v:SV)(r:Bb E×Ai):Prop:=
 (∀so,g.so=some so-> ∃e,r.1=some e)/\(g.so=none->r.1=none)/\(g.na=0->r.2=none)/\
 (∀x,VD P U τ F v x-> ∀(τ2:Tau) (nb:Nat) (d:E),(∀b p,τ0 b=some p->τ2 b=τ b)->(∃F0 x0,VD P U τ0 F0 a x0)->(∀e so,r.1=some e->g.so=some so->mV U so e d)->(∀b,r.2=some b->τ2 nb=τ b)->VD P U τ2 F (tv g a d nb) x)/\
 (g.na≠0-> ∃so,g.so=some so/\JM P U τ F s so (g.blk a) r)/\Po P U τ F s g r
theorem Fs (τ0:Tau)(g:G)(a v:SV):OKp U (mt1 U g a v) s fun r=>∀s',s'.h=s.h->MtOK P U τ0 τ F s' g a v r:=by
 cases g with
 |keep=>
  simp only[mt1];cases h:svk a v with
  |false=>exact Tx|true=>have:=Qo h;subst this;exact TC fun s' _=>⟨fun so h=>(by cases h),fun _=>rfl,fun _=>rfl,fun x hx τ2 nb d hk ⟨F0,x0,h0⟩ _ _=>h0.re hx hk,fun h=>absurd rfl h,fun A p h=>(by cases h)⟩
 |any=>simp only[mt1];exact TC fun s' _=>⟨fun so h=>(by cases h),fun _=>rfl,fun _=>rfl,fun x hx τ2 nb d hk _ _ _=>.any x,fun h=>absurd rfl h,fun A p h=>(by cases h)⟩
 |int k=>
  simp only[mt1];split
  ·rename_i k' e;cases h:decide (k=k')with
   |false=>exact Tx|true=>
    rw[Rg]at h;subst h;refine TC fun s' _=>⟨fun so h=>⟨e,rfl⟩,fun h=>(by cases h),fun _=>rfl,fun x hx τ2 nb d hk _ q _=>?_,fun h=>absurd rfl h,fun A p h=>(by cases h)⟩
    have:=q e .i rfl rfl;cases hx;show VD P U τ2 F (.int k d) _;rw[show e.toI U=d.toI U from this];exact .int k d
  exact Tx
 |bool=>
  simp only[mt1];split
  ·rename_i e;refine TC fun s' _=>⟨fun so h=>⟨e,rfl⟩,fun h=>(by cases h),fun _=>rfl,fun x hx τ2 nb d hk _ q _=>?_,fun h=>absurd rfl h,fun A p h=>(by cases h)⟩
   have:=q e .b rfl rfl;cases hx;show VD P U τ2 F (.bool d) _;rw[show(e.den U).toBool=(d.den U).toBool from this];exact .bool d
  exact Tx
 |str=>
  simp only[mt1];split
  ·rename_i e;refine TC fun s' _=>⟨fun so h=>⟨e,rfl⟩,fun h=>(by cases h),fun _=>rfl,fun x hx τ2 nb d hk _ q _=>?_,fun h=>absurd rfl h,fun A p h=>(by cases h)⟩
   have:=q e .s rfl rfl;cases hx;show VD P U τ2 F (.str d) _;rw[show(e.den U).toStr=(d.den U).toStr from this];exact .str d
  exact Tx
 |lst t=>
  simp only[mt1];split
  ·rename_i t' L clip;cases h:Nat.beq t t' with
   |false=>exact Tx|true=>
    have:=QN h;subst this;refine TC fun s' _=>⟨fun so h=>⟨L,rfl⟩,fun h=>(by cases h),fun _=>rfl,fun x hx τ2 nb d hk _ q _=>?_,fun h=>absurd rfl h,fun A p h=>(by cases h)⟩
    have:=q L .l rfl rfl;cases hx with
    |lst _ _ _ _ hp hc=>exact .lst t d false x (by rw[<-show L.toR U=d.toR U from this];exact hp) (fun h=>by cases h)
  exact Tx
 |clp t=>
  simp only[mt1];split
  ·rename_i t' L clip;cases h:clip&&Nat.beq t t' with
   |false=>exact Tx|true=>
    rw[QJ]at h;obtain⟨rfl,h⟩:=h;have:=QN h;subst this;refine TC fun s' _=>⟨fun so h=>⟨L,rfl⟩,fun h=>(by cases h),fun _=>rfl,fun x hx τ2 nb d hk _ q _=>?_,fun h=>absurd rfl h,fun A p h=>(by cases h)⟩
    have:=q L .l rfl rfl;cases hx with
    |lst _ _ _ _ hp hc=>exact .lst t d true x (by rw[<-show L.toR U=d.toR U from this];exact hp) hc
  exact Tx
 |itr s0=>
  simp only[mt1];split
  ·rename_i b z m f;refine TB ?_;split
   ·rename_i s' pos hb;cases hc:Nat.beq z 1&&decide (m=0)&&Nat.beq f 0 with
    |false=>exact Tx|true=>
     simp only[QJ,Rz,Rg]at hc;obtain⟨⟨rfl,rfl⟩,rfl⟩:=hc;refine OKp.need.bind fun _ s1 o1 _ n1=>TC fun s2 N=>?_;have ae:(s'.den U).toStr=(s0.den U).toStr:=by have:=(Tk U _).1 n1;rw[T5]at this;grind
     refine⟨fun so h=>⟨pos,rfl⟩,fun h=>(by cases h),fun h=>(by cases h),fun x hx τ2 nb d hk _ q B=>?_,fun _=>⟨.i,rfl,b,pos,.iter s' pos,rfl,rfl,by unfold SS.get;rw[N];exact hb,fun d q=>⟨_,rfl,?_,?_⟩⟩,fun A p h=>(by cases h)⟩
     ·cases hx with
      |ptr _ _ _ _ i o h h0=>exact .ptr nb 1 (.int 0) 0 i o (by rw[B b rfl];exact h) h0
     rintro τ2 o y ⟨e0,n,R,W⟩;exact⟨e0,n,by rw[<-ae];exact R,by rw[<-W];exact q.symm⟩;rintro ⟨L,e,z,ph,h,_⟩;cases h
   exact Tx
  exact Tx
 |mac kt vt=>
  simp only[mt1];split
  ·rename_i b;refine TB ?_;split
   ·rename_i L al ap hb;cases hc:Nat.beq kt al&&Nat.beq vt ap with
    |false=>exact Tx|true=>
     simp only[QJ,Rz]at hc;obtain⟨rfl,rfl⟩:=hc;refine TC fun s2 N=>?_;refine⟨fun so h=>⟨L,rfl⟩,fun h=>(by cases h),fun h=>(by cases h),fun x hx τ2 nb d hk _ q B=>?_,fun _=>⟨.l,rfl,b,L,.map L kt vt,rfl,rfl,by unfold SS.get;rw[N];exact hb,fun d q=>⟨_,rfl,?_,?_⟩⟩,fun A p h=>(by cases h)⟩
     ·cases hx with
      |map _ i o h=>exact .map nb i o (by rw[B b rfl];exact h)
     rintro τ2 o y ⟨h0,es,reg,h1,h2⟩;exact⟨h0,es,reg,h1,by rw[<-show L.toR U=d.toR U from q];exact h2⟩;rintro ⟨L,e,z,ph,h,_⟩;cases h
   exact Tx
  exact Tx
 |cel k t=>
  simp only[mt1];split
  ·rename_i b z m f;refine TB ?_;split
   ·rename_i k' e t' K hb;cases hc:Nat.beq z 1&&decide (m=0)&&Nat.beq f 0&&Nat.beq K 1&&Nat.beq t t'&&decide (k=k')with
    |false=>exact Tx|true=>
     simp only[QJ,Rz,Rg]at hc;obtain⟨⟨⟨⟨⟨rfl,rfl⟩,rfl⟩,rfl⟩,rfl⟩,rfl⟩:=hc;refine TC fun s2 N=>?_;refine⟨fun so h=>⟨e,rfl⟩,fun h=>(by cases h),fun h=>(by cases h),fun x hx τ2 nb d hk _ q B=>?_,fun _=>⟨.i,rfl,b,e,.cells [.int k e] t 1,rfl,rfl,by unfold SS.get;rw[N];exact hb,fun d q=>⟨_,rfl,?_,?_⟩⟩,fun A p h=>(by cases h)⟩
     ·cases hx with
      |ptr _ _ _ _ i o h h0=>exact .ptr nb 1 (.int 0) 0 i o (by rw[B b rfl];exact h) h0
     ·rintro τ2 o y ⟨cs,n,e0,R,W⟩;refine⟨cs,n,e0,R,fun j a u=>?_⟩;have hj:j=0:=by grind
      subst hj;obtain⟨x,h1,h2⟩:=W 0 (.int k e) rfl;simp at u;subst u;refine⟨x,h1,?_⟩;cases h2;rw[show e.toI U=d.toI U from q];exact .int k d
     rintro ⟨L,e,z,ph,h,_⟩;cases h
   exact Tx
  exact Tx
 |rpt=>
  simp only[mt1];split
  ·rename_i e;refine TC fun s' _=>⟨fun so h=>⟨e,rfl⟩,fun h=>(by cases h),fun _=>rfl,fun x hx τ2 nb d hk _ q _=>?_,fun h=>absurd rfl h,fun A p h=>(by cases h)⟩
   have:=q e .i rfl rfl;cases hx with
   |rpq _ _ h=>exact .rpq d x (by rw[<-show e.toI U=d.toI U from this];exact h)
  ·rename_i e;refine TC fun s' _=>⟨fun so h=>⟨e,rfl⟩,fun h=>(by cases h),fun _=>rfl,fun x hx τ2 nb d hk _ q _=>?_,fun h=>absurd rfl h,fun A p h=>(by cases h)⟩
   have:=q e .i rfl rfl;cases hx with
   |rp _ _ h0=>exact .rpq d _ (by rw[<-show e.toI U=d.toI U from this,show e.toI U=((e.toN U:Nat):Int) by show e.toI U=((e.toI U).toNat:Int);omega];exact .rp _)
  ·refine TC fun s' _=>⟨fun so h=>⟨_,rfl⟩,fun h=>(by cases h),fun _=>rfl,fun x hx τ2 nb d hk _ q _=>?_,fun h=>absurd rfl h,fun A p h=>(by cases h)⟩
   have:=q _ .i rfl rfl;cases hx with
   |nilp=>exact .rpq d _ (by rw[<-show(-1:Int)=d.toI U from this];exact .rpn)
  exact Tx
 |pp t=>
  simp only[mt1];split
  ·rename_i t' L row;cases h:Nat.beq t t' with
   |false=>exact Tx|true=>
    have:=QN h;subst this;refine TC fun s' _=>⟨fun so h=>⟨_,rfl⟩,fun h=>(by cases h),fun _=>rfl,fun x hx τ2 nb d hk _ q _=>?_,fun h=>absurd rfl h,fun A p h=>(by cases h)⟩
    have q:=q _ .l rfl rfl;have q:pQ (L.toR U) (row.toI U) 1=d.toR U:=q;cases hx with
    |pptr _ _ _ _ i o l c hp h0 h1=>
     generalize ak:L.toR U=rows at hp h1 q;cases hp with
     |sl _ _ _ _ b cs n z rows xx hF hb hc hn hz hr hx aj=>
      have C:wW (1:Int).toNat c/\roC b c _ z:=⟨by rcases hc.1 with⟨q1,q2⟩| ⟨lo,q1,q2,q3⟩;exact .inl ⟨q1,by have:(1:Int).toNat=1:=rfl;omega⟩;exact .inr ⟨lo,q1,q2,by have:(1:Int).toNat=1:=rfl;omega⟩,hc.2⟩
      have:=PV.cut (P:=P) (F:=F) hF hb hn hz hr hx aj h0 (show(0:Int)<=1 by omega) (by omega) C;rw[q]at this;have aa:((d.toR U).length:Int)=1:=by rw[<-q,U9 h0 (by omega) (by omega)];rfl
      exact VD.pptr' (row:= .int 0) this (Sd 0) (by rw[B5];omega) (by rw[<-hz];show _=o+(row.toI U).toNat*z+(0:Int).toNat*z+0;simp)
  exact Tx
 |rgl z=>
  simp only[mt1];split
  ·rename_i L K;cases h:Nat.beq z K with
   |false=>exact Tx|true=>
    have:=QN h;subst this;refine TC fun s' _=>⟨fun so h=>⟨L,rfl⟩,fun h=>(by cases h),fun _=>rfl,fun x hx τ2 nb d hk _ q _=>?_,fun h=>absurd rfl h,fun A p h=>(by cases h)⟩
    have:=q L .l rfl rfl;cases hx with
    |rv _ _ xs hp=>exact .rv d z xs (by rw[<-show L.toR U=d.toR U from this];exact hp)
  exact Tx
 |rgk b z=>
  simp only[mt1];refine TB ?_;split
  ·rename_i r L K hb;cases hc:Nat.beq r b&&Nat.beq z K with
   |false=>exact Tx|true=>simp only[QJ,Rz]at hc;obtain⟨rfl,rfl⟩:=hc;rw[Ra];refine TC fun s' M=>?_;refine⟨fun so h=>⟨L,rfl⟩,fun h=>(by cases h),fun _=>rfl,fun x hx τ2 nb d hk _ _ _=>.any x,fun h=>absurd rfl h,fun A p h=>⟨rfl,L,.reg r L z,rfl,?_,fun d q=>⟨.reg r d z,?_,?_,?_⟩⟩⟩;simp only[G.fix,QI]at h;subst h;unfold SS.get;rw[M];exact hb;simp only[G.fix,QI]at h;subst h;rfl;simp only[G.fix,QI]at h;subst h;rintro τ2 o y ht ⟨e0,R,cs,h1,h2⟩;have J:L.toR U=d.toR U:=q;exact⟨e0,ht.trans R,cs,by rw[<-J];exact h1,by rw[<-J];exact h2⟩;rintro ⟨L',e',K,ao,h1,h2,h3,h4⟩;cases h1
  exact Tx
 |rwk b e z ph=>
  simp only[mt1];refine TB ?_;split
  ·rename_i L e' K V hb;cases hc:Nat.beq e e'&&Nat.beq z K with
   |false=>exact Tx|true=>
    simp only[QJ,Rz]at hc;obtain⟨rfl,rfl⟩:=hc;rw[Ra];refine OKp.need.bind fun _ s1 o1 _ n1=>TC fun s' M=>?_;have T:=A0 n1;refine⟨fun so h=>⟨L,rfl⟩,fun h=>(by cases h),fun _=>rfl,fun x hx τ2 nb d hk _ _ _=>.any x,fun h=>absurd rfl h,fun A p h=>⟨rfl,L,.rows L e z V,rfl,?_,fun d q=>⟨.rows d e z ph,?_,?_,?_⟩⟩⟩;simp only[G.fix,QI]at h;subst h;unfold SS.get;rw[M];exact hb;simp only[G.fix,QI]at h;subst h;rfl
    ·rintro τ2 o y _ ⟨cs,n,h1,h2,h3⟩;have J:L.toR U=d.toR U:=q;refine⟨cs,n,h1,by rw[<-J];exact h2,?_⟩;have:ph.toN U<=V.toN U:=by show(ph.toI U).toNat<=(V.toI U).toNat;omega
     have:=QW z this;omega
    rintro ⟨L',e',K,ao,h1,h2,h3,h4⟩;have J:L.toR U=d.toR U:=q;cases h1;exact⟨d,e,z,ph,rfl,by rw[<-J];exact h2,h3,by omega⟩
  exact Tx
 |acc e z=>
  simp only [mt1];split
  ·rename_i b K m len cap;refine TB ?_;split
   ·rename_i L e' aq ph hb;cases hc:Nat.beq e e'&&Nat.beq z K&&Nat.beq z aq&&decide (m=0)with
    |false=>exact Tx|true=>
     simp only[QJ,Rz,Rg]at hc;obtain⟨⟨⟨rfl,rfl⟩,rfl⟩,rfl⟩:=hc;rw[Ra];refine OKp.need.bind fun _ s1 o1 _ n1=>C2.bind fun D s2 o2 _ hD=>?_;have av:len.toI U<=((L.toR U).length:Int):=by have:=A0 n1;rwa[j8]at this
     have ad:D.toR U=(L.toR U).take (len.toN U):=by show(D.den U).rows=_;rw[hD];show pQ (L.toR U) 0 (len.toI U)=_;unfold pQ;simp
     have O:∀(C:∀(c:Nat) (n:E),n.toI U=len.toI U->lX U len cap c->lX U n (fQ a) c) (Y:∀c,fQ a= .ex c-> ∃c',cap= .ex c'/\c'.toI U=c.toI U)
       (T:∀c,fQ a= .ex c->c.toI U<=ph.toI U) (s':SS),s'.h=s.h->MtOK P U τ0 τ F s' (.acc e z) a (.sl b z (.int 0) len cap) (some D,some b):=by
      intro C Y T s' M;have ab:∀ {d:E},mV U .l D d->d.toR U=(L.toR U).take (len.toN U):=fun h=>by rw[<-ad];exact h.symm
      refine⟨fun so _=>⟨D,rfl⟩,fun h=>(by cases h),fun h=>(by cases h),fun x hx τ2 nb d hk _ q B=>?_,fun _=>⟨.l,rfl,?_⟩,fun A p h=>(by cases h)⟩
      ·have J:=ab (q D .l rfl rfl);have ac:=B b rfl;have au:0<=len.toI U:=by cases hx<;>omega
       have aa:(A6 d).toI U=len.toI U:=by rw[j8,J,Ru];grind
       have ai:(A6 d).toN U=len.toN U:=by grind
       cases hx with
       |sl _ _ _ _ _ i o c k1 k2 k3 k4=>show VD P U τ2 F (.sl nb z (.int 0) (A6 d) (fQ a)) _;rw[<-ai];exact .sl nb z (.int 0) (A6 d) (fQ a) i o c (by rw[ac];exact k1) (Sd 0) (by omega) (C c _ aa k4)|sl0 _ _ _ _ _ k1 k2 k3 k4=>refine .sl0 nb z (.int 0) (A6 d) (fQ a) (by rw[ac];exact k1) rfl (by omega) fun c hc=>?_;grind
      ·refine⟨b,D,.rows L e z ph,rfl,rfl,by unfold SS.get;rw[M];exact hb,fun d q=>⟨_,rfl,?_⟩⟩;have J:=ab q;have Z:(d.toR U).length<=(L.toR U).length:=by grind
       constructor
       ·rintro τ2 o y ⟨cs,n,h1,⟨h2,h3,h4,h5⟩,h6⟩;refine⟨cs,n,h1,⟨?_,h3,fun r hr=>h4 r ?_,fun r k row dd hr ah=>h5 r k row dd ?_ ah⟩,?_⟩;have:=QW z Z;omega;grind;grind
        ·cases X:fQ a with
         |ge=>
          have:(phOf d .ge).toN U=(d.toR U).length:=by show((A6 d).toI U).toNat=_;rw[j8];omega
          rw[this];have:=QW z Z;omega
         |un=>
          have:(phOf d .un).toN U=(d.toR U).length:=by show((A6 d).toI U).toNat=_;rw[j8];omega
          rw[this];have:=QW z Z;omega
         |ex c=>
          have h7:=T c X;have:(phOf d (.ex c)).toN U<=ph.toN U:=by show(c.toI U).toNat<=(ph.toI U).toNat;omega
          have:=QW z this;omega
       ·rintro ⟨L',e',K,V,h1,h2,h3,h4⟩;cases h1;refine⟨d,e,z,_,rfl,by rw[J,h2];simp,h3,?_⟩;cases X:fQ a with
        |ge=>show(A6 d).toI U<=0;rw[j8,J,h2];simp|un=>show(A6 d).toI U<=0;rw[j8,J,h2];simp|ex c=>have h7:=T c X;show c.toI U<=0;omega
     split;rename_i u;refine TC (O (fun c n hn hc=>?_) (fun c hc=>by rw[u]at hc;cases hc) (fun c hc=>by rw[u]at hc;cases hc));rw[u];obtain⟨lo,h1,h2,h3⟩:=hc;exact Or.inr ⟨lo,h1,h2,by omega⟩;rename_i u;refine TC (O (fun c n hn hc=>?_) (fun c hc=>by rw[u]at hc;cases hc) (fun c hc=>by rw[u]at hc;cases hc));rw[u];rcases hc with⟨h1,h2,h3⟩| ⟨lo,h1,h2,h3⟩;exact Or.inl ⟨h1,by rw[h2];show(len.toI U).toNat=(n.toI U).toNat;rw[hn],by omega⟩;exact Or.inr ⟨lo,h1,h2,by omega⟩;rename_i u;refine TC (O (fun c n hn hc=>?_) (fun c hc=>by rw[u]at hc;cases hc) (fun c hc=>by rw[u]at hc;cases hc));rw[u];obtain⟨lo,h1,h2,h3⟩:=hc;exact⟨lo,h1,h2,by omega⟩;rename_i c' u;refine OKp.need.bind fun _ s3 _ _ n2=>OKp.need.bind fun _ s4 _ _ n3=>?_;have R:=aX n2;have W:=C7 n3;simp only[B5]at W;refine TC (O (fun k n hn hc=>?_) (fun c hc=>by rw[u]at hc;cases hc) (fun c hc=>by rw[u]at hc;cases hc));rw[u];obtain⟨h1,h2,h3,h4⟩:=hc;exact Or.inl ⟨h3,by rw[h2];show(c'.toI U).toNat=(n.toI U).toNat;rw[R,hn],by omega⟩;rename_i c c' u;refine OKp.need.bind fun _ s3 _ _ n2=>OKp.need.bind fun _ s4 _ _ n3=>?_;have R:=aX n2;have W:=A0 n3;refine TC (O (fun k n hn hc=>?_) (fun c2 hc=>?_) (fun c2 hc=>?_));rw[u];obtain⟨h1,h2,h3,h4⟩:=hc;exact⟨by omega,by rw[h2];show(c'.toI U).toNat=(c.toI U).toNat;rw[R],h3,by omega⟩;rw[u]at hc;cases hc;exact⟨c',rfl,R⟩;rw[u]at hc;cases hc;exact W;exact Tx
   exact Tx
  exact Tx
end
section
variable {P :Aw}{U:Ab}
variable {F:Ac}
def PV.lst_eq {e:Ax}{v:Av}{d:Dat}(h:PV P F (.sl e) v d):d= .lst d.rows:=by cases h<;>rfl
theorem tV {τ:Tau}{s:SS}{hp:Hp}(g:G){v:SV}{x:Av}(hv:VD P U τ F v x)(hs:SD P U τ F s hp):OKh P U (qE P U g v) τ F s hp fun v' τ' F' hp'=>hp'=hp/\VD P U τ' F' v' x:=by
 cases g with
 |lst t=>simp only[qE];refine(aY 20 (.sl t) v x τ F s hp hv hs).bind fun e τ1 F1 s1 hp1 _ hs1 ⟨h1,h2,h3⟩=>Tw ⟨h2,?_⟩;have:=h3.lst_eq;rw[this]at h3;exact .lst t e false x h3 (fun h=>by cases h)
 |clp t=>
  simp only[qE];split
  ·rename_i t' L c;cases c with
   |false=>exact Tu|true=>exact Tw ⟨rfl,hv⟩
  cases hv;exact Tw ⟨rfl,.lst t _ true _ (.nils t) (fun _=>⟨_,_,rfl⟩)⟩
  ·rename_i b z off len c;refine Ts Ty fun _ s1 r hs1 p1=>?_;have p1:=aX p1;refine(aY 20 (.sl t) _ x τ F s1 hp hv hs1).bind fun e τ1 F1 s2 hp1 _ d ⟨h1,h2,h3⟩=>Tw ⟨h2,?_⟩;have:=h3.lst_eq;rw[this]at h3;refine .lst t e true x h3 (fun _=>?_);cases hv with
   |sl _ _ _ _ _ i o c' k1 k2 k3 n=>obtain⟨y,A,B,C⟩:=n;grind
   |sl0=>grind
  exact Tu
 |acc e z=>
  simp only[qE];split;rename_i b q off len cap;refine(gF hs).bind fun _ τ1 F1 s1 hp1 _ hs1 ⟨h1,h2,h3⟩=>Tw ⟨h3,?_⟩;rw[h1,h2];exact hv.wk1
  ·cases hz:Nat.beq z (kf P e).length with
   |false=>exact Tu|true=>rw[Ra];have m:=QN hz;refine OKh.bind (R:=fun b τ' F' hp'=>hp'=hp/\τ' b=some none) ?_ fun b τ1 F1 s1 hp1 _ hs1 ⟨h1,h2⟩=>Tw ⟨h1,?_⟩;intro Q hq _;obtain⟨h1,h2⟩:=hs.alloc (x:= .rows (.op .nil []) e z (.int 0)) (p:=none) (hp':=hp) (Ri _) (fun _ _=>rfl) (.inr ⟨rfl,_,_,_,_,rfl,rfl,m,Sd 0⟩);exact⟨s.nx,_,hq,_,F,hp,h1,h2,rfl,u5 _ _ _⟩;cases hv;exact .sl0 b z (.int 0) (.int 0) .ge h2 rfl rfl (fun e h=>by cases h)
  exact Tu
 |keep=>exact Tw ⟨rfl,hv⟩|any=>exact Tw ⟨rfl,hv⟩|int k=>exact Tw ⟨rfl,hv⟩|bool=>exact Tw ⟨rfl,hv⟩|str=>exact Tw ⟨rfl,hv⟩|itr s=>exact Tw ⟨rfl,hv⟩|cel k t=>exact Tw ⟨rfl,hv⟩|mac kt vt=>exact Tw ⟨rfl,hv⟩|rwk b e z ph=>exact Tw ⟨rfl,hv⟩|pp t=>
  simp only[qE];split
  ·rename_i b z;refine Tv ?_;split
   ·rename_i l e q hb;cases hv with
    |ptr _ _ _ _ i o h h0=>
     have j:VD P U τ F (.sl b z (.int 0) (.int 1) (.ex (.int 1))) (.slice (some ⟨i,o+(E.int 0).toN U*z,none⟩) ((E.int 1).toN U) 1):=
      .sl b z (.int 0) (.int 1) (.ex (.int 1)) i o 1 h (Sd 0) (by rw[B5];omega) ⟨by rw[B5];omega,rfl,by unfold unk;omega,Sd _⟩
     refine(aY 20 (.sl t) _ _ τ F s hp j hs).bind fun e τ1 F1 s1 hp1 _ hs1 ⟨h1,h2,h3⟩=>Ts Ty fun _ s2 u d p1=>Tw ⟨h2,?_⟩;have p1:=aX p1;rw[j8,B5]at p1;have:=h3.lst_eq;rw[this]at h3;exact VD.pptr' (row:= .int 0) h3 (Sd 0) (by rw[B5];show(0:Int)<(e.toR U).length;omega) (by show o+(0:Int).toNat*z+0=o+(0:Int).toNat*z+(0:Int).toNat*_+0;simp)
   exact Tw ⟨rfl,hv⟩
  exact Tw ⟨rfl,hv⟩
 |rpt=>exact Tw ⟨rfl,hv⟩|rgl z=>exact Tw ⟨rfl,hv⟩|rgk b z=>exact Tw ⟨rfl,hv⟩
theorem AO :∀(ps:List Pl) (vs:As) (xs:Af) (τ:Tau) (F:Ac) (s:SS) (hp:Hp),VDL P U τ F vs xs->SD P U τ F s hp->OKh P U (norm P U ps vs) τ F s hp fun e τ' F' hp'=>hp'=hp/\VDL P U τ' F' e xs
 | [],[],xs,τ,F,s,hp,hv,hs=>Tw ⟨rfl,hv⟩| [],v::vs,xs,τ,F,s,hp,hv,hs=>Tu|p::ps,[],xs,τ,F,s,hp,hv,hs=>Tu|p::ps,v::vs,xs,τ,F,s,hp,hv,hs=>by obtain⟨y,ys,rfl,h1,h2⟩:=hv.uncons;refine(tV p.g h1 hs).bind fun v' τ1 F1 s1 hp1 ex hs1 ⟨m,h⟩=>(AO ps vs ys τ1 F1 s1 hp1 (h2.mono ex.t ex.f) hs1).bind fun e τ2 k s2 hp2 d j ⟨k1,k2⟩=>Tw ⟨by grind,.cons (h.mono d.t d.f) k2⟩
def W6 {α:Type}:Bb α->List α->List α
 |some a,l=>a::l|none,l=>l
def mtP (U:Ab):List Pl->As->M (Au×Ah)
 |p::l,v::vs=>b9 (mt1 U p.g p.a v) fun r=>b9 (mtP U l vs) fun t=>i4 (W6 r.1 t.1,W6 r.2 t.2)
 | [],[]=>i4 ([],[])|_,_=>a8 "loop: places"
def sos :List Pl->List So
 | []=>[]
 |p::l=>W6 p.g.so (sos l)
def rbs :List Pl->Ah
 | []=>[]
 |p::l=>match p.g.fix (.int 0)with
  |some q=>q.1::rbs l|none=>rbs l
def G.fix_num {g:G}{d:E}{q:Nat×B6}(h:g.fix d=some q)(j:E):∃X,g.fix j=some (q.1,X):=by
 cases g with
 |rwk b e z ph=>simp only[G.fix,QI]at h;subst h;exact⟨_,rfl⟩|rgk b z=>simp only[G.fix,QI]at h;subst h;exact⟨_,rfl⟩|_=>cases h
variable (U) in
def cT :List So->Au->Au->Prop
 |k::ks,e::es,d::ds=>mV U k e d/\cT ks es ds| [],[],[]=>True|_,_,_=>False
variable (P U) in
def eR (τ0 τ:Tau)(F:Ac)(s:SS):List Pl->As->Au->Ah->Prop
 | [],[],es,bs=>es=[]/\bs=[]
 |p::l,v::vs,es,bs=>∃r es' bs',es=W6 r.1 es'/\bs=W6 r.2 bs'/\MtOK P U τ0 τ F s p.g p.a v r/\eR τ0 τ F s l vs es' bs'|_,_,_,_=>False
def Ft {τ:Tau}{F:Ac}(τ0:Tau):∀(ps:List Pl) (vs:As) (s:SS),OKp U (mtP U ps vs) s fun r=>∀s',s'.h=s.h->eR P U τ0 τ F s' ps vs r.1 r.2
 | [],[],s=>TC fun _ _=>⟨rfl,rfl⟩
 | [],_::_,s=>Tx|_::_,[],s=>Tx|p::ps,v::vs,s=>by exact(Fs (P:=P) (τ:=τ) (F:=F) τ0 p.g p.a v).bind fun r s1 e _ h1=>(Ft (τ:=τ) (F:=F) τ0 ps vs s1).bind fun t s2 j _ h2=>TC fun s' d=>⟨r,t.1,t.2,rfl,rfl,h1 s' d,h2 s' (by rw[d,e.h])⟩
section
variable {τ0 τ:Tau}{F:Ac}{s:SS}
def G.blk_none {g:G}(h:g.na=0)(a:SV)(d:E):g.blk a d=none:=by
 cases g with
 |acc e z=>cases h
 |itr s=>cases h
 |cel k t=>cases h
 |mac kt vt=>cases h
 |_=>rfl
def G.na_le (g:G):g.na=0\/g.na=1:=by cases g<;>simp[G.na]
theorem CV {p:Pl}{ps:List Pl}{v:SV}{r:Bb E×Ai}{m:Au}{ds:Au}(h:MtOK P U τ0 τ F s p.g p.a v r)(k:cT U (sos (p::ps)) (W6 r.1 m) ds):(∀e so,r.1=some e->p.g.so=some so->mV U so e (hd1 ds))/\cT U (sos ps) m (pop p.g ds)/\(∀b,r.2=some b->p.g.na=1)/\(p.g.na=0\/p.g.na=1):=by
 obtain⟨q,t,u,x,y⟩:=h;have n:=p.g.na_le;refine⟨?_,?_,fun b hb=>?_,n⟩
 ·intro e so he j;unfold sos at k;rw[j,he]at k;cases ds with
  |nil=>exact k.elim|cons d ds=>exact k.1
 ·unfold sos at k;cases j:p.g.so with
  |none=>rw[j,t j]at k;unfold pop;rw[j];exact k|some so=>
   obtain⟨e,he⟩:=q so j;rw[j,he]at k;cases ds with
   |nil=>exact k.elim|cons d ds=>unfold pop;rw[j];exact k.2
 grind
theorem eR.vals :∀ {ps:List Pl} {vs:As} {es:Au} {bs:Ah} {ds:Au} {xs:Af} {τ2:Tau} {nb:Nat},eR P U τ0 τ F s ps vs es bs->cT U (sos ps) es ds->(∀b p,τ0 b=some p->τ2 b=τ b)->(∀k b,bs[k]? =some b->τ2 (nb+k)=τ b)->(∀p∈ps,∃F0 x0,VD P U τ0 F0 p.a x0)->VDL P U τ F vs xs-> ∀(i:Nat) q x,(cE ps ds nb)[i]? =some q->xs[i]? =some x->VD P U τ2 F q.2 x
 | [],vs,es,bs,ds,xs,τ2,nb,h,j,hk,hb,g,hx=>fun i q x hq _=>by simp[cE]at hq
 |p::ps,[],es,bs,ds,xs,τ2,nb,h,j,hk,hb,g,hx=>h.elim|p::ps,v::vs,es,bs,ds,xs,τ2,nb,h,j,hk,hb,g,hx=>by
  obtain⟨r,t,n,rfl,rfl,hm,m⟩:=h;obtain⟨y,ys,rfl,h1,h2⟩:=hx.uncons;obtain⟨s1,s2,z,u⟩:=CV hm j;intro i q x hq d;cases i with
  |zero=>simp only[cE,QZ,QI]at hq d;subst hq;subst d;refine hm.2.2.2.1 y h1 τ2 nb (hd1 ds) hk (g p (by simp)) s1 fun b hr=>?_;have:=hb 0 b (by rw[hr];rfl);grind
  |succ i=>refine eR.vals m s2 hk (fun k b e=>?_) (fun p hp=>g p (by grind)) h2 i q x hq d;rcases u with h0|h0;rw[h0,Sf];have hr:=hm.2.2.1 h0;rw[hr]at hb;exact hb k b e;obtain⟨so,_,b',L,x',hr,_⟩:=hm.2.2.2.2.1 (by omega);rw[hr]at hb;have:=hb (k+1) b e;grind
theorem eR.blks :∀ {ps:List Pl} {vs:As} {es:Au} {bs:Ah} {ds:Au} {nb:Nat},eR P U τ0 τ F s ps vs es bs->cT U (sos ps) es ds-> ∀b' y,lk (fE ps ds nb) b'=some y->(∃k b X x',b'=nb+k/\bs[k]? =some b/\y=some X/\s.get b=some x'/\(∀(τ2:Tau) o z,BD P U τ F o x' z->BD P U τ2 F o X z)/\(E3 P U x'->E3 P U X))\/(∃X x',b'∈rbs ps/\y=some X/\s.get b'=some x'/\(∀(τ2:Tau) o z,τ2 b'=τ b'->BD P U τ F o x' z->BD P U τ2 F o X z)/\(E3 P U x'->E3 P U X))
 | [],vs,es,bs,ds,nb,h,x=>fun b' y hy=>by simp[fE,lk]at hy
 |p::ps,[],es,bs,ds,nb,h,x=>h.elim|p::ps,v::vs,es,bs,ds,nb,h,x=>by
  obtain⟨r,N,M,rfl,rfl,hm,A⟩:=h;obtain⟨s1,s2,Z,W⟩:=CV hm x;intro b' y hy;have D:=eR.blks (nb:=nb+p.g.na) A s2;have sub:∀b,b∈rbs ps->b∈rbs (p::ps):=fun b hb=>by unfold rbs;grind
  by_cases d:p.g.na=0
  ·have hr:r.2=none:=hm.2.2.1 d;cases e:p.g.fix (hd1 ds)with
   |none=>unfold fE at hy;rw[G.blk_none d]at hy;simp only[e]at hy;rcases D b' y hy with⟨k,b,X,x',h1,h2⟩| ⟨X,x',h1,h2⟩;exact Or.inl ⟨k,b,X,x',by rw[h1,d,Sf],by rw[hr];exact h2⟩;grind
   |some q=>
    unfold fE at hy;rw[G.blk_none d]at hy;simp only[e]at hy;rw[z8]at hy;split at hy
    ·rename_i t;obtain⟨m,L,x',k1,k2,k3⟩:=hm.2.2.2.2.2 _ _ e;obtain⟨X,J,R,T⟩:=k3 (hd1 ds) (s1 L .l k1 m);rw[e]at J;simp only[QI]at J;simp only[QI]at hy;have V:q.2=X:=by rw[J]
     rw[V]at hy;subst t;refine .inr ⟨X,x',?_,hy.symm,k2,R,T⟩;obtain⟨K,O⟩:=G.fix_num e (.int 0);unfold rbs;grind
    rcases D b' y hy with⟨k,b,X,x',h1,h2⟩| ⟨X,x',h1,h2⟩;exact Or.inl ⟨k,b,X,x',by rw[h1,d,Sf],by rw[hr];exact h2⟩;grind
  ·have B:p.g.na=1:=W.resolve_left d;obtain⟨so,m,b0,L,x',hr,C,hx,u⟩:=hm.2.2.2.2.1 d;obtain⟨K,Y,k1,k2⟩:=u (hd1 ds) (s1 L so C m);have j:lk ((nb,some K)::fE ps (pop p.g ds) (nb+p.g.na)) b'=some y:=by unfold fE at hy;grind
   rw[z8]at j;split at j;rename_i t;simp only[QI]at j;exact .inl ⟨0,b0,_,x',t.symm,by rw[hr];rfl,j.symm,hx,k1,k2⟩;rcases D b' y j with⟨k,b,X,n,h1,h2,h3⟩| ⟨X,n,h1,h2⟩;exact .inl ⟨k+1,b,X,n,by rw[h1,B];omega,by rw[hr];exact h2,h3⟩;grind
theorem lT {b:Nat}:∀ {ps:List Pl} {ds:Au} {nb:Nat},b∈rbs ps->b∈(fE ps ds nb).map Prod.fst
 | [],ds,nb,h=>by simp[rbs]at h|p::ps,ds,nb,h=>by
  unfold rbs at h;cases d:p.g.fix (.int 0)with
  |none=>rw[d]at h;have k:=lT (ds:=pop p.g ds) (nb:=nb+p.g.na) h;unfold fE;grind|some q=>
   rw[d]at h;have hb:p.g.blk p.a (hd1 ds)=none:=by
    cases hg:p.g with
    |rwk b e z ph=>rfl|rgk b z=>rfl|_=>rw[hg]at d;cases d
   obtain⟨X,j⟩:=G.fix_num d (hd1 ds);unfold fE;rw[hb,j];simp only[RM,Rx]at h⊢;rcases h with h|h;grind;exact .inr (lT (ds:=pop p.g ds) (nb:=nb+p.g.na) h)
end
end
def vE :List (At×SV)->Fm
 | []=>[]
 | (p,v)::l=>match p with
  | .tmp t=>(t,v)::vE l| .cell _ _=>vE l| .no=>vE l
def EW (b j:Nat):At->Bool
 | .tmp _=>false| .cell b' j'=>Nat.beq b b'&&Nat.beq j j'| .no=>false
def oD :List (At×SV)->Nat->Nat->SV
 | [],_,_=>.any| (p,v)::l,b,j=>bif EW b j p then v else oD l b j
def O5 (pv:List (At×SV))(b:Nat):Nat->Nat->As
 |_,0=>[]
 |j,n+1=>oD pv b j::O5 pv b (j+1) n
def ovB (s1:SS)(pv:List (At×SV)):Ah->List (Nat×Bb B6)
 | []=>[]
 |b::l=>match s1.get b with
  |some (.cells c e z)=>(b,some (.cells (O5 pv b 0 c.length) e z))::ovB s1 pv l|_=>ovB s1 pv l
def W4 :Ah->List (Nat×Bb B6)
 | []=>[]
 |b::l=>(b,none)::W4 l
def CW :List Pl->Nat
 | []=>0|p::l=>p.g.na+CW l
def fJ (ps:List Pl)(ds:Au)(s1:SS)(bs0 kill:Ah):List (Nat×Bb B6):=fE ps ds s1.nx++(ovB s1 (cE ps ds s1.nx) bs0++W4 (kill++(bs0++(rbs ps++ [s1.nx]))))
def sT (ps:List Pl)(ds:Au)(s1:SS)(bs0 kill:Ah):SS:= {s1 with h:=fJ ps ds s1 bs0 kill++s1.h,nx:=s1.nx+CW ps}
def fT (ps:List Pl)(ds:Au)(s1:SS)(f0:Fm):Fm:=vE (cE ps ds s1.nx)++f0
theorem J5 {α:Type}(l m:List (Nat×α))(b:Nat):lk (l++m) b=match lk l b with|some x=>some x|none=>lk m b:=by
 induction l with
 |nil=>rfl|cons p l d=>rw[RZ,z8,z8];grind
def AE {α:Type}{b:Nat}:∀ {l:List (Nat×α)},lk l b=none->b∉l.map Prod.fst
 | [],_=>by simp| (k,y)::l,h=>by rw[z8]at h;split at h;cases h;rename_i e;simp only[RM,Rx,not_or];exact⟨fun h=>e h.symm,AE h⟩
theorem Q6 {b:Nat}:∀ {l:Ah},lk (W4 l) b=if b∈l then some none else none
 | []=>rfl|k::l=>by rw[W4,z8,Q6];grind
def jJ (pv:List (At×SV))(b:Nat):∀(n j:Nat),(O5 pv b j n).length=n
 |0,_=>rfl|n+1,j=>by simp[O5,jJ pv b n]
theorem sC (pv:List (At×SV))(b:Nat):∀(n j i:Nat) (a:SV),(O5 pv b j n)[i]? =some a->i<n/\a=oD pv b (j+i)
 |0,j,i,a,h=>by simp[O5]at h|n+1,j,0,a,h=>by simp only[O5,QZ,QI]at h;exact⟨by omega,h.symm⟩|n+1,j,i+1,a,h=>by obtain⟨h1,h2⟩:=sC pv b n (j+1) i a h;grind
theorem pT {b j:Nat}:∀(pv:List (At×SV)),oD pv b j= .any\/ ∃(i:Nat) (q:At×SV),pv[i]? =some q/\q.1= .cell b j/\oD pv b j=q.2
 | []=>.inl rfl| (p,v)::l=>by
  unfold oD;cases hc:EW b j p with
  |true=>
   refine .inr ⟨0,(p,v),rfl,?_,rfl⟩;cases p with
   |tmp t=>cases hc
   |no=>cases hc
   |cell b' j'=>simp only[EW,QJ,Rz]at hc;grind
  |false=>rcases pT l with h| ⟨i,q,h1,h2,h3⟩;exact .inl h;exact .inr ⟨i+1,q,h1,h2,h3⟩
def nC {k:Nat}{a:SV}:∀(pv:List (At×SV)),lk (vE pv) k=some a-> ∃(i:Nat) (q:At×SV),pv[i]? =some q/\q.1= .tmp k/\q.2=a
 | [],h=>by cases h
 | (p,v)::l,h=>by unfold vE at h;split at h;rename_i t;rw[z8]at h;split at h;rename_i e;simp at h;exact⟨0,(.tmp t,v),rfl,by rw[e],h⟩;obtain⟨i,q,h1,h2⟩:=nC l h;exact⟨i+1,q,h1,h2⟩;obtain⟨i,q,h1,h2⟩:=nC l h;exact⟨i+1,q,h1,h2⟩;obtain⟨i,q,h1,h2⟩:=nC l h;exact⟨i+1,q,h1,h2⟩
theorem iQ {k:Nat}:∀(pv:List (At×SV)),lk (vE pv) k=none-> ∀q∈pv,q.1≠ .tmp k
 | [],_=>fun q hq=>by grind
 | (p,v)::l,h=>by unfold vE at h;intro q hq d;split at h;rename_i t;rw[z8]at h;split at h;cases h;rename_i e;rcases Rx.1 hq with rfl|hq;grind;exact iQ l h q hq d;rcases Rx.1 hq with rfl|hq;grind;exact iQ l h q hq d;rcases Rx.1 hq with rfl|hq;grind;exact iQ l h q hq d
theorem zQ :∀(ps:List Pl) (ds:Au) (nb i:Nat) (q:At×SV),(cE ps ds nb)[i]? =some q-> ∃p,ps[i]? =some p/\q.1=p.at_
 | [],ds,nb,i,q,h=>by simp[cE]at h|p::ps,ds,nb,0,q,h=>by simp only[cE,QZ,QI]at h;exact⟨p,rfl,by grind⟩|p::ps,ds,nb,i+1,q,h=>by exact zQ ps _ _ i q h
theorem Cq :∀(ps:List Pl) (ds:Au) (nb:Nat) (p:Pl),p∈ps-> ∃q∈cE ps ds nb,q.1=p.at_
 | [],_,_,p,h=>by grind|p'::ps,ds,nb,p,h=>by rcases Rx.1 h with rfl|h;exact⟨_,by simp[cE];exact .inl rfl,rfl⟩;obtain⟨q,h1,h2⟩:=Cq ps (pop p'.g ds) (nb+p'.g.na) p h;exact⟨q,by simp[cE,h1],h2⟩
theorem FD {s1:SS}{pv:List (At×SV)}{b:Nat}:∀ {l:Ah},(∀b∈l,∃c e z,s1.get b=some (.cells c e z))-> ∀y,lk (ovB s1 pv l) b=y->(b∈l/\ ∃c e z,s1.get b=some (.cells c e z)/\y=some (some (.cells (O5 pv b 0 c.length) e z)))\/(b∉l/\y=none)
 | [],_,y,h=>.inr ⟨by simp,h.symm⟩|b'::l,hl,y,h=>by obtain⟨c,e,z,hb⟩:=hl b' (by simp);unfold ovB at h;rw[hb,z8]at h;by_cases d:b'=b;grind;rw[Re d]at h;rcases FD (fun b hb=>hl b (by grind)) y h with⟨h1,h2⟩| ⟨h1,h2⟩;grind;grind
section
variable {P :Aw}{U:Ab}
def PX (τ:Tau)(tm:Ao)(hp:Hp):At->Av->Prop
 | .tmp t,x=>x=(tm.get t).getD undef| .cell b j,x=>∃i o cs n e z,τ b=some (some (i,o))/\hp.m.get i=some (.cells cs n e z)/\cs.get (o+j)=some x| .no,_=>True
theorem eR.live {τ0 τ:Tau}{F:Ac}{s:SS}:∀ {ps:List Pl} {vs:As} {es:Au} {bs:Ah},eR P U τ0 τ F s ps vs es bs-> ∀ {k b:Nat},bs[k]? =some b-> ∃x,s.get b=some x
 | [],[],es,bs,h,k,b,hb=>by rw[h.2]at hb;simp at hb| [],_::_,es,bs,h,k,b,hb=>h.elim|p::ps,[],es,bs,h,k,b,hb=>h.elim|p::ps,v::vs,es,bs,h,k,b,hb=>by
  obtain⟨r,m,j,rfl,rfl,hm,d⟩:=h;cases hr:r.2 with
  |none=>rw[hr]at hb;exact d.live hb|some b0=>
   rw[hr]at hb;cases k with
   |succ k=>exact d.live hb|zero=>
    have e:p.g.na≠0:=fun h0=>by rw[hm.2.2.1 h0]at hr;cases hr
    obtain⟨so,_,n,L,x',h1,_,hx,_⟩:=hm.2.2.2.2.1 e;rw[hr]at h1;have e0:b0=b:=by simpa [W6]using hb
    grind
variable (P U) in
structure zL (τ1:Tau)(F1:Ac)(s1:SS)(hp1:Hp)(f0:Fm)(tm1:Ao)(ps:List Pl)(bs0 kill:Ah)(τ:Tau)(F:Ac)(s:SS)(hp:Hp)(f:Fm)(tm:Ao)(vs:As)(es:Au)(bs:Ah)(xs:Af):Prop where
 hs1:SD P U τ1 F1 s1 hp1
 ht1:TD P U τ1 F1 f0 tm1
 hs:SD P U τ F s hp
 ht:TD P U τ F f tm
 ex:Ext τ1 F1 s1 hp1 τ F s hp
 mt:eR P U τ1 τ F s ps vs es bs
 vx:VDL P U τ F vs xs
 px:∀(i:Nat) p x,ps[i]? =some p->xs[i]? =some x->PX τ tm hp p.at_ x
 lx:xs.length=ps.length
 pa:∀p∈ps,∃F0 x0,VD P U τ1 F0 p.a x0
 fr:∀t,(∀p∈ps,p.at_≠ .tmp t)->lk f t=lk f0 t
 ky:∀l,s.h=l++s1.h-> ∀b∈l.map Prod.fst,b<s1.nx->b∈bs0\/b∈kill\/b∈rbs ps
 rb:∀b∈rbs ps,b∉bs0/\b∉kill/\b<s1.nx
 c0:∀b∈bs0,b∉kill/\ ∃l l' e z,s1.get b=some (.cells l e z)/\s.get b=some (.cells l' e z)/\l'.length=l.length
 bd:∀(k k':Nat) b,bs[k]? =some b->bs[k']? =some b->k=k'
 bf:∀b∈bs,b∉bs0/\(s1.nx<=b\/b∈kill)
 lb:bs.length=CW ps
variable {τ1 :Tau}{F1:Ac}{s1:SS}{hp1:Hp}{f0:Fm}{tm1:Ao}{ps:List Pl}{bs0 kill:Ah}{τ:Tau}{F:Ac}{s:SS}{hp:Hp}{f:Fm}{tm:Ao}{vs:As}{es:Au}{bs:Ah}{xs:Af}
def J2 (τ1 τ:Tau)(n:Nat)(bs:Ah):Tau:=fun b=>if b<n then τ1 b else match bs[b-n]? with|some b'=>τ b'|none=>none
def eA {n b:Nat}(h:b<n):J2 τ1 τ n bs b=τ1 b:=by unfold J2;rw[Rh h]
def iO {n k b:Nat}(h:bs[k]? =some b):J2 τ1 τ n bs (n+k)=τ b:=by unfold J2;rw[Re (by omega),Sr,h]
theorem zL.head (h:zL P U τ1 F1 s1 hp1 f0 tm1 ps bs0 kill τ F s hp f tm vs es bs xs){ds:Au}(hd:cT U (sos ps) es ds):SD P U (J2 τ1 τ s1.nx bs) F (sT ps ds s1 bs0 kill) hp/\TD P U (J2 τ1 τ s1.nx bs) F (fT ps ds s1 f0) tm/\Ext τ1 F1 s1 hp1 (J2 τ1 τ s1.nx bs) F (sT ps ds s1 bs0 kill) hp:=by
 obtain⟨l0,a1,a2,a3,a4,_⟩:=h.ex.hh;have ac:=h.ky l0 a1;have G:∀b p,τ1 b=some p->b<s1.nx:=fun b p hb=>Nat.lt_of_not_le fun ad=>by rw[h.hs1.new b ad]at hb;cases hb
 have hk:∀b p,τ1 b=some p->J2 τ1 τ s1.nx bs b=τ b:=fun b p hb=>by rw[eA (G b p hb),h.ex.st b (G b p hb)]
 have lo:∀b,b<s1.nx->J2 τ1 τ s1.nx bs b=τ b:=fun b hb=>by rw[eA hb,h.ex.st b hb]
 have Y:=h.mt.vals hd hk (fun k b hb=>iO (n:=s1.nx) hb) h.pa h.vx;have V:=h.mt.blks (nb:=s1.nx) hd;have O:Tle τ1 (J2 τ1 τ s1.nx bs):=fun b p hb=>by rw[eA (G b p hb)];exact hb
 have ai:∀(i:Nat) q,(cE ps ds s1.nx)[i]? =some q-> ∃x,PX τ tm hp q.1 x/\VD P U (J2 τ1 τ s1.nx bs) F q.2 x:=by
  intro i q hq;obtain⟨p,h1,h2⟩:=zQ _ _ _ _ _ hq;have hi:i<xs.length:=by rw[h.lx];exact(QL.1 h1).1
  have hx:=QV hi;exact⟨_,by rw[h2];exact h.px i p _ h1 hx,Y i q _ hq hx⟩
 have keep:∀b,b<s1.nx->b∉bs0->b∉kill->b∉rbs ps->s.get b=s1.get b:=fun b hb h1 h2 R=>by unfold SS.get;rw[a1,rF _ _ fun hm=>?_];grind
 have ab:∀b∈bs0,∃c e z,s1.get b=some (.cells c e z):=fun b hb=>by obtain⟨_,l,_,e,z,h1,_⟩:=h.c0 b hb;grind
 have B:∀b x,(sT ps ds s1 bs0 kill).get b=some x->
   (∃k b0 x',b=s1.nx+k/\bs[k]? =some b0/\s.get b0=some x'/\(∀(τ2:Tau) o z,BD P U τ F o x' z->BD P U τ2 F o x z)/\(E3 P U x'->E3 P U x))\/
   (b<s1.nx/\b∉kill/\b∈bs0/\ ∃c e z,s1.get b=some (.cells c e z)/\x= .cells (O5 (cE ps ds s1.nx) b 0 c.length) e z)\/
   (b<s1.nx/\b∉kill/\b∉bs0/\b∉rbs ps/\s1.get b=some x)\/
   (b<s1.nx/\b∉kill/\b∈rbs ps/\ ∃x',s.get b=some x'/\(∀(τ2:Tau) o z,τ2 b=τ b->BD P U τ F o x' z->BD P U τ2 F o x z)/\(E3 P U x'->E3 P U x)):=by
  intro b x hb;have d:(match lk (fJ ps ds s1 bs0 kill++s1.h) b with|some x=>x|none=>none)=some x:=hb;rw[J5,fJ,J5,J5]at d;cases N:lk (fE ps ds s1.nx) b with
  |some y=>rw[N]at d;simp only at d;rcases V b y N with⟨k,b0,X,x',h1,h2,h3,h4,T,h6⟩| ⟨X,x',h1,h3,h4,T,h6⟩;grind;rw[h3]at d;simp only[QI]at d;subst d;obtain⟨_,g2,g3⟩:=h.rb b h1;grind
  |none=>
   rw[N]at d;simp only at d;rcases FD (s1:=s1) (pv:=cE ps ds s1.nx) (b:=b) ab _ rfl with⟨h1,c,e,z,h2,h3⟩| ⟨h1,h3⟩;rw[h3]at d;simp only[QI]at d;exact .inr (.inl ⟨h.hs1.bound h2,(h.c0 b h1).1,h1,c,e,z,h2,d.symm⟩)
   ·rw[h3,Q6]at d;by_cases W:b∈kill++(bs0++(rbs ps++ [s1.nx]))
    rw[Rh W]at d;cases d;rw[Re W]at d;have Z:s1.get b=some x:=d;exact .inr (.inr (.inl ⟨h.hs1.bound Z,fun h=>W (SU _ h),h1,fun h=>AE N (lT h),Z⟩))
 have keyB:∀b∈bs0,b∈(fJ ps ds s1 bs0 kill).map Prod.fst:=fun b hb=>by rcases FD (s1:=s1) (pv:=cE ps ds s1.nx) (b:=b) ab _ rfl with⟨_,c,e,z,_,h3⟩| ⟨h1,_⟩;unfold fJ;simp only[RH,Rw];exact .inr (.inl (SE.2 ⟨_,Z8 h3,rfl⟩));grind
 have ah:∀b∈kill,b∈(fJ ps ds s1 bs0 kill).map Prod.fst:=fun b hb=>by unfold fJ;simp only[RH,Rw];refine .inr (.inr (SE.2 ⟨(b,none),Z8 ?_,rfl⟩));rw[Q6,Rh (SU _ hb)]
 have mark:(s1.nx,none)∈fJ ps ds s1 bs0 kill:=by unfold fJ;refine SG _ (SG _ (Z8 ?_));rw[Q6,Rh (SG _ (by simp))]
 have A:∀b∈l0.map Prod.fst,b<s1.nx->b∈(fJ ps ds s1 bs0 kill).map Prod.fst:=fun b hb hlt=>by rcases ac b hb hlt with h1|h1|h1;grind;grind;unfold fJ;simp only[RH,Rw];exact .inl (lT h1)
 have J:∀k b0,bs[k]? =some b0->(if s1.nx+k<s1.nx then s1.nx+k else bs.getD (s1.nx+k-s1.nx) 0)=b0:=fun k b0 hb=>by rw[Re (by omega),Sr,List.getD,hb];rfl
 refine⟨h.hs.rebase (fun b=>if b<s1.nx then b else bs.getD (b-s1.nx) 0) (fun b x hb=>?_) (fun b c x y hb hc ae=>?_) (fun b i o hb=>?_) (fun b hb=>?_) h.hs1.fc (fun r hr=>(h.hs1.fz r hr).mono O h.ex.f),fun k a u=>?_,?_⟩
 ·rcases B b x hb with⟨k,b0,x',rfl,h2,h3,h4,T⟩| ⟨hlt,t,C,c,e,z,h2,rfl⟩| ⟨hlt,t,C,ao,h2⟩| ⟨hlt,t,_,x',h3,h4,T⟩;simp only[J k b0 h2];exact⟨x',h3,iO h2,fun i o y _ _ K=>h4 _ o y K,T⟩
  ·simp only[Rh hlt];obtain⟨_,l,l',e',z',k1,k2,k3⟩:=h.c0 b C;rw[h2]at k1;simp only[QI,B6.cells.injEq]at k1;obtain⟨rfl,rfl,rfl⟩:=k1;refine⟨_,k2,lo b hlt,fun i o y g hy ⟨cs,n,e1,e2,e3⟩=>?_,fun⟨L,e,z,ph,h,_⟩=>by cases h⟩;refine⟨cs,n,e1,by rw[jJ,<-k3];exact e2,fun j a ha=>?_⟩;obtain⟨hj,rfl⟩:=sC _ _ _ _ _ _ ha;rw[Rr];have ak:j<l'.length:=by omega
   obtain⟨x,hx,_⟩:=e3 j _ (QV ak);rcases pT (b:=b) (j:=j) (cE ps ds s1.nx)with h1| ⟨i',q,q1,q2,q3⟩;exact⟨x,hx,by rw[h1];exact .any x⟩;obtain⟨x2,px,hv⟩:=ai i' q q1;rw[q2]at px;obtain⟨i2,o2,ap,n2,aq,z2,p1,p2,p3⟩:=px;rw[g]at p1;cases p1;rw[hy,e1]at p2;simp only[QI,Blk.cells.injEq]at p2;obtain⟨rfl,_⟩:=p2;exact⟨x2,p3,by rw[q3];exact hv⟩
  simp only[Rh hlt];refine⟨x,by rw[keep b hlt C t ao];exact h2,lo b hlt,fun i o y g hy K=>?_,id⟩;rcases h.hs1.live b x h2 with⟨i1,o1,y1,g1,_,_,g4⟩| ⟨g1,_⟩;exact g4.re K hk;rw[h.ex.st b hlt,g1]at g;cases g;simp only[Rh hlt];exact⟨x',h3,lo b hlt,fun i o y _ _ K=>h4 _ o y (lo b hlt) K,T⟩
 ·have hi:∀(b:Nat) (x:B6) (k b0:Nat),(sT ps ds s1 bs0 kill).get b=some x->b<s1.nx->bs[k]? =some b0->b≠b0:=by intro b x k b0 hb hlt al e;subst e;obtain⟨f1,f2⟩:=h.bf b (QT al);rcases B b x hb with⟨k',b0,x',rfl,_⟩| ⟨_,t,_⟩| ⟨_,t,_⟩| ⟨_,t,_⟩;omega;rcases f2 with h1|h1;omega;exact t h1;rcases f2 with h1|h1;omega;exact t h1;rcases f2 with h1|h1;omega;exact t h1
  by_cases D:b<s1.nx;by_cases m:c<s1.nx;simp only[Rh D,Rh m];exact ae;rcases B c y hc with⟨k,b0,x',rfl,h2,_⟩| ⟨hlt,_⟩| ⟨hlt,_⟩| ⟨hlt,_⟩;simp only[J k b0 h2,Rh D];exact hi b x k b0 hb D h2;omega;exact absurd hlt m;exact absurd hlt m;rcases B b x hb with⟨k,b0,x',rfl,h2,_⟩| ⟨hlt,_⟩| ⟨hlt,_⟩| ⟨hlt,_⟩;by_cases m:c<s1.nx;simp only[J k b0 h2,Rh m];exact(hi c y k b0 hc m h2).symm;rcases B c y hc with⟨k',aj,x',rfl,R,_⟩| ⟨hlt,_⟩| ⟨hlt,_⟩| ⟨hlt,_⟩;simp only[J k b0 h2,J k' aj R];intro e;subst e;exact ae (by rw[h.bd k k' b0 h2 R]);exact absurd hlt m;exact absurd hlt m;exact absurd hlt m;exact absurd hlt D;exact absurd hlt D;exact absurd hlt D
 by_cases hlt:b<s1.nx;rw[lo b hlt]at hb;exact h.hs.lt b i o hb;unfold J2 at hb;rw[Re hlt]at hb;split at hb;exact h.hs.lt _ i o hb;cases hb;have ad : s1.nx + CW ps ≤ b := hb;unfold J2;rw[Re (by omega),Td (by rw[h.lb];omega)]
 ·unfold fT at u;rw[J5]at u;cases N:lk (vE (cE ps ds s1.nx)) k with
  |some y=>rw[N]at u;simp only[QI]at u;subst u;obtain⟨i,q,h1,h2,h3⟩:=nC _ N;obtain⟨x,px,hv⟩:=ai i q h1;rw[h2]at px;rw[<-h3,<-show x=(tm.get k).getD undef from px];exact hv
  |none=>
   rw[N]at u;have M:=iQ _ N;have:lk f k=lk f0 k:=h.fr k fun p hp e=>by obtain⟨q,q1,q2⟩:=Cq ps ds s1.nx p hp;exact M q q1 (by rw[q2,e])
   exact(h.ht1 k a u).re (h.ht k a (by rw[this];exact u)) hk
 ·refine⟨O,h.ex.f,h.ex.nx,Nat.le_add_right _ _,fun b hb=>eA hb,fun b x hb hlt=>?_,⟨fJ ps ds s1 bs0 kill,rfl,fun i hi M=>?_,fun b i o hb g=>?_,fun i y hi hy=>?_,fun hp=>absurd rfl (hp (s1.nx,none) mark)⟩,⟨[],rfl⟩,⟨fJ ps ds s1 bs0 kill,rfl,fun b c e z i o cs n hb ht hi hg hl=>⟨cs,?_,fun _ _=>rfl⟩⟩⟩
  rotate_right
  ·rw[a2 i hi fun b' x o' h1 h2 h3=>?_];exact hg
   ·by_cases aa:b'=b
    ·subst aa;have M:(b',none)∈fJ ps ds s1 bs0 kill:=by unfold fJ;refine SG _ (SG _ (Z8 ?_));rw[Q6,Rh ?_];simp only[Rw];rcases ac b' h3 (h.hs1.bound h1)with q|q|q;exact .inr (.inl q);exact .inl q;exact .inr (.inr (.inl q))
     obtain⟨_,q,_⟩:=hl none M;cases q
    exact h.hs1.inj b' b x _ i o' i o h1 hb aa h2 ht rfl
  rcases B b x hb with⟨k,b0,x',rfl,_⟩| ⟨_,_,_,c,e,z,h2,_⟩| ⟨_,_,_,_,h2⟩| ⟨_,_,_,x',h2,_⟩;omega;exact⟨_,h2⟩;exact⟨_,h2⟩;exact h.ex.low b x' h2 hlt;exact a2 i hi fun b x o hb g hm=>M b x o hb g (A b hm (h.hs1.bound hb))
  ·unfold J2 at g;rw[Re (by omega)]at g;split at g
   ·rename_i b' d;rcases(h.bf b' (QT d)).2 with h1|h1;rcases a3 b' i o h1 g with h2| ⟨b0,x,o0,h2,h3,h4⟩;exact .inl h2;exact .inr ⟨b0,x,o0,h2,h3,A b0 h4 (h.hs1.bound h2)⟩
    ·by_cases hlt:b'<s1.nx
     ·have hg:∃x,s.get b'=some x:=by exact h.mt.live d
      obtain⟨x,hx⟩:=hg;obtain⟨y,hy⟩:=h.ex.low b' x hx hlt;rw[h.ex.st b' hlt]at g;exact .inr ⟨b',y,o,hy,g,ah b' h1⟩
     rcases a3 b' i o (Sw hlt) g with h2| ⟨b0,x,o0,h2,h3,h4⟩;exact .inl h2;exact .inr ⟨b0,x,o0,h2,h3,A b0 h4 (h.hs1.bound h2)⟩
   cases g
  rcases a4 i y hi hy with h1| ⟨b,o,h1,h2⟩;exact .inl h1;by_cases hlt:b<s1.nx;exact .inr ⟨b,o,by rw[lo b hlt];exact h1,A b h2 hlt⟩;rcases a3 b i o (Sw hlt) h1 with h3| ⟨b0,x,o0,h3,h4,T⟩;omega;have C:=h.hs1.bound h3;exact .inr ⟨b0,o0,by rw[eA C];exact h4,A b0 T C⟩
end
structure K0 where
 name:String
 places:Code->Fm->SS->Bb (List (At×G)×Ah)
 inv:Ar->Prop
 mu:Ar->Nat
 gh:List (So×E):=[]
def GT (U:Ab)(k:So)(e:E):Dat:=match k with
 | .i=>.int (e.toI U)| .b=>.bool (e.den U).toBool| .s=>.str (e.den U).toStr| .l=>.lst (e.toR U)
def t6 (U:Ab):List So->Au->Ar
 |k::ks,e::es=>GT U k e::t6 U ks es|_,_=>[]
def Ce {α:Type}:List So->Nat->(Au->Tr α)->Tr α
 | [],_,k=>k []|so::l,n,k=>.all so n fun e=>Ce l (n+1) fun es=>k (e::es)
def D4 (U:Ab):List So->Nat->Au->Au
 |k::ks,n,e::es=>.dat n (GT U k e)::D4 U ks (n+1) es|_,_,_=>[]
def atv (f:Fm)(s:SS):At->Bb SV
 | .tmp t=>match lk f t with
  |some v=>some v|none=>some .any
 | .cell b j=>match s.get b with
  |some (.cells l _ _)=>l[j]?|_=>none
 | .no=>some .any
def aT (f:Fm)(s:SS):List (At×G)->Bb (As)
 | []=>some []|p::l=>match atv f s p.1 with
  |some v=>match aT f s l with
   |some vs=>some (v::vs)|none=>none
  |none=>none
def pls :List (At×G)->As->List Pl
 |p::l,v::vs=>⟨p.1,p.2,v⟩::pls l vs|_,_=>[]
def OX (t:Nat):At->Bool
 | .tmp t'=>Nat.beq t t'| .cell _ _=>false| .no=>false
def cH :Ah->Bool
 | []=>true|b::l=> !R4 b l&&cH l
def Z3 (s1 s:SS)(b:Nat):Bool:=match s1.get b with
 |some (.cells l e z)=>match s.get b with
  |some (.cells l' e' z')=>Nat.beq e e'&&Nat.beq z z'&&Nat.beq l.length l'.length|_=>false
 |_=>false
def CA (n:Nat)(f:Fm):Ah:=match n,f with
 |n+1,(k,_)::f=>k::CA n f|_,_=>[]
section
variable (P :Aw)(U:Ab)
def mdone {α:Type}(l1 l2:Lab)(p q:Prop):M α:=fun _=>.need l1 p (.need l2 q .done)
def Md (an:K0)(pg:List (At×G))(ps:List Pl)(bs0 kill:Ah)(s1:SS)(f0:Fm)(ds:Au)(r:Exit×Fm):M (Exit×Fm):=match r.1 with
 | .normal=>
  bif (CA (r.2.length-(fT ps ds s1 f0).length) r.2).all (fun t=>pg.any (fun p=>OX t p.1))then
   t9 fun s=>match aT r.2 s pg with
   |none=>a8 "loop: a place is gone"|some vs0=>b9 (norm P U ps vs0) fun vs=>b9 (mtP U ps vs) fun t=>t9 fun s2=>
    bif (Q7 (s2.h.length-(sT ps ds s1 bs0 kill).h.length) s2.h).all (fun b=>Nat.ble s1.nx b||R4 b bs0||R4 b kill||R4 b (rbs ps))&&bs0.all (Z3 s1 s2)&&cH t.2&&
      t.2.all (fun b=> !R4 b bs0&&(Nat.ble s1.nx b||R4 b kill))&&Nat.beq t.2.length (CW ps)then
     mdone (.pt (an.name++ "Inv") [an.gh,(sos ps).zip t.1]) (.mu (an.name++ "Mu") an.gh ((sos ps).zip t.1) ((sos ps).zip ds)) (an.inv (t6 U (sos ps) t.1)) (an.mu (t6 U (sos ps) t.1)<an.mu (t6 U (sos ps) ds))
    else a8 "loop: the head"
  else a8 "loop: a temporary"
 |e=>i4 (e,r.2)
def fvb (s:SS)(n:Nat):SS:= {s with fv:=s.fv+n}
def shead (an:K0)(pg:List (At×G))(ps:List Pl)(bs0:Ah)(es:Au)(kill:Ah)(body:Fm->M (Exit×Fm))(f0:Fm):M (Exit×Fm):=fun s=>
 .need (.pt (an.name++ "Inv") [an.gh,(sos ps).zip es]) (an.inv (t6 U (sos ps) es)) (Ce (sos ps) s.fv fun ds=>.asm (.pt (an.name++ "Inv") [an.gh,(sos ps).zip ds]) (an.inv (t6 U (sos ps) ds))
  (b9 (body (fT ps ds (fvb s (sos ps).length) f0)) (Md P U an pg ps bs0 kill (fvb s (sos ps).length) f0 ds) (sT ps ds (fvb s (sos ps).length) bs0 kill)))
def Mf (an:K0)(b:Code)(body:Fm->M (Exit×Fm))(f0:Fm):M (Exit×Fm):=t9 fun s0=>match an.places b f0 s0 with
 |none=>a8 "loop: places"|some (pg,bs0)=>match aT f0 s0 pg with
  |none=>a8 "loop: no such place"|some vs0=>b9 (norm P U (pls pg vs0) vs0) fun vs=>b9 (mtP U (pls pg vs0) vs) fun t=>t9 fun s1=>
   bif bs0.all (Z3 s1 s1)&&cH t.2&&t.2.all (fun b=> !R4 b bs0)&&Nat.beq t.2.length (CW (pls pg vs0))&&(rbs (pls pg vs0)).all (fun b=> !R4 b bs0&& !R4 b t.2&&Nat.ble (b+1) s1.nx)then
    shead P U an pg (pls pg vs0) bs0 t.1 t.2 body f0
   else a8 "loop: the start"
end
section
variable {P :Aw}{U:Ab}{ov:Aa}{nt:Nat}
theorem hK {α:Type}{Q:α->Prop}:∀(l:List So) (n:Nat) (k:Au->Tr α),(Ce l n k).vc U Q-> ∀es:Au,es.length=l.length->(k (D4 U l n es)).vc U Q
 | [],n,k,h,es,hl=>by
  cases es with
  |nil=>exact h|cons e es=>grind
 |so::l,n,k,h,es,hl=>by
  cases es with
  |nil=>grind|cons e es=>
   have d:es.length=l.length:=by grind
   have g:(Ce l (n+1) fun es=>k (.dat n (GT U so e)::es)).vc U Q:=by cases so;exact h (e.toI U);exact h (e.den U).toBool;exact h (e.den U).toStr;exact h (e.toR U)
   exact hK l (n+1) _ g es d
theorem I1 :∀(l:List So) (n:Nat) (es:Au),es.length=l.length->cT U l es (D4 U l n es)
 | [],n,[],h=>trivial| [],n,e::es,h=>by grind|k::l,n,[],h=>by grind|k::l,n,e::es,h=>⟨by cases k<;>rfl,I1 l (n+1) es (by grind)⟩
theorem I3 :∀(l:List So) (n:Nat) (es:Au),es.length=l.length->t6 U l (D4 U l n es)=t6 U l es
 | [],n,[],h=>rfl| [],n,e::es,h=>rfl|k::l,n,[],h=>rfl|k::l,n,e::es,h=>by unfold D4 t6;rw[I3 l (n+1) es (by grind)];cases k<;>rfl
def AN {τ0 τ:Tau}{F:Ac}{s:SS}:∀ {ps:List Pl} {vs:As} {es:Au} {bs:Ah},eR P U τ0 τ F s ps vs es bs->es.length=(sos ps).length
 | [],[],es,bs,h=>by rw[h.1];rfl| [],_::_,es,bs,h=>h.elim|p::ps,[],es,bs,h=>h.elim|p::ps,v::vs,es,bs,h=>by
  obtain⟨r,n,m,rfl,rfl,hm,j⟩:=h;have k:=AN j;unfold sos;cases d:p.g.so with
  |none=>rw[hm.2.1 d];exact k|some so=>obtain⟨e,he⟩:=hm.1 so d;rw[he];simp only[W6,RC,k]
theorem cP {b:Nat}:∀ {l:Ah},R4 b l=true->b∈l
 | [],h=>by cases h
 |k::l,h=>by unfold R4 at h;by_cases e:b=k;grind;rw[z6 e,Rb]at h;exact RV _ (cP h)
theorem cJ :∀ {l:Ah},cH l=true-> ∀(k k':Nat) b,l[k]? =some b->l[k']? =some b->k=k'
 | [],_,k,k',b,h,_=>by grind|c::l,d,k,k',b,h,h'=>by
  unfold cH at d;rw[QJ,RG]at d;have hn:=M7 d.1;cases k with
  |zero=>grind|succ k=>
   cases k' with
   |zero=>grind|succ k'=>rw[cJ d.2 k k' b h h']
theorem mU {s1 s:SS}{b:Nat}(h:Z3 s1 s b=true):∃l l' e z,s1.get b=some (.cells l e z)/\s.get b=some (.cells l' e z)/\l'.length=l.length:=by unfold Z3 at h;split at h;rename_i l e z h1;split at h;rename_i l' e' d h2;simp at h;grind;cases h;cases h
theorem wV {b:Nat}:∀(ps:List Pl) (ds:Au) (nb:Nat),b∈(fE ps ds nb).map Prod.fst->nb<=b\/b∈rbs ps
 | [],ds,nb,h=>by simp[fE]at h|p::ps,ds,nb,h=>by
  have sub:∀b,b∈rbs ps->b∈rbs (p::ps):=fun b hb=>by unfold rbs;grind
  have e:b∈(fE ps (pop p.g ds) (nb+p.g.na)).map Prod.fst->nb<=b\/b∈rbs (p::ps):=fun h=>by rcases wV ps _ _ h with h|h;grind;grind
  unfold fE at h;split at h;grind;split at h;rename_i q hq;simp at h;rcases h with rfl|h;obtain⟨X,d⟩:=G.fix_num hq (.int 0);unfold rbs;grind;grind;grind
def uC {s1:SS}{pv:List (At×SV)}{b:Nat}:∀(l:Ah),b∈(ovB s1 pv l).map Prod.fst->b∈l
 | [],h=>by simp[ovB]at h|c::l,h=>by unfold ovB at h;split at h;simp only[RM,Rx]at h;rcases h with rfl|h;simp;exact RV _ (uC l h);exact RV _ (uC l h)
def sZ {b:Nat}:∀(l:Ah),b∈(W4 l).map Prod.fst->b∈l
 | [],h=>by simp[W4]at h|c::l,h=>by simp only[W4,RM,Rx]at h;rcases h with rfl|h;simp;exact RV _ (sZ l h)
theorem Hq :∀ {pg:List (At×G)} {vs:As} {i:Nat} {p:Pl},(pls pg vs)[i]? =some p-> ∃q v,pg[i]? =some q/\vs[i]? =some v/\p.at_=q.1/\p.a=v
 | [],vs,i,p,h=>by simp[pls]at h|q::l,[],i,p,h=>by simp[pls]at h|q::l,v::vs,0,p,h=>by simp only[pls,QZ,QI]at h;exact(by grind)|q::l,v::vs,i+1,p,h=>by obtain⟨q',v',h1,h2,h3⟩:=Hq (i:=i) h;grind
theorem LF :∀ {pg:List (At×G)} {vs:As},pg.length=vs.length->(pls pg vs).map Pl.at_=pg.map Prod.fst
 | [],[],_=>rfl| [],_::_,h=>rfl|_::_,[],h=>by grind|q::l,v::vs,h=>by simp only[pls,RM];rw[LF (by grind)]
variable {hp:Hp}{tm:Ao}
theorem Pv {τ:Tau}{F:Ac}{s:SS}{f:Fm}(ht:TD P U τ F f tm)(hs:SD P U τ F s hp){p:At}{v:SV}(h:atv f s p=some v):∃x,VD P U τ F v x/\PX τ tm hp p x:=by
 cases p with
 |tmp t=>simp only[atv]at h;split at h;rename_i v' hv;simp at h;subst h;exact⟨_,ht t v' hv,rfl⟩;simp at h;subst h;exact⟨_,.any _,rfl⟩|cell b j=>simp only[atv]at h;split at h;rename_i l e z hb;rcases hs.live b _ hb with⟨i,o,y,h1,h2,h3,cs,n,rfl,h4,d⟩| ⟨_,L,e',g,ph,h2,_⟩;obtain⟨x,hx,hv⟩:=d j v h;exact⟨x,hv,i,o,cs,n,e,z,h1,h2,hx⟩;grind;cases h
 |no=>simp only[atv,QI]at h;subst h;exact⟨undef,.any _,trivial⟩
theorem jW {τ:Tau}{F:Ac}{s:SS}{hp:Hp}{f:Fm}{tm:Ao}(ht:TD P U τ F f tm)(hs:SD P U τ F s hp):∀ {pg:List (At×G)} {vs:As},aT f s pg=some vs->pg.length=vs.length/\ ∃xs,VDL P U τ F vs xs/\ ∀(i:Nat) q x,pg[i]? =some q->xs[i]? =some x->PX τ tm hp q.1 x
 | [],vs,h=>by simp only[aT,QI]at h;subst h;exact⟨rfl,[],.nil,fun i q x h=>by grind⟩|p::l,vs,h=>by unfold aT at h;split at h;rename_i v hv;split at h;rename_i e d;cases h;obtain⟨x,h1,h2⟩:=Pv ht hs hv;obtain⟨h3,xs,h4,g⟩:=jW ht hs d;refine⟨by grind,x::xs,.cons h1 h4,fun i q y hq hy=>?_⟩;grind;cases h;cases h
def PX.mono {τ τ':Tau}{p:At}{x:Av}(ht:Tle τ τ')(h:PX τ tm hp p x):PX τ' tm hp p x:=by
 cases p with
 |tmp t=>exact h|cell b j=>obtain⟨i,o,cs,n,e,z,h1,h2⟩:=h;exact⟨i,o,cs,n,e,z,ht _ _ h1,h2⟩
 |no=>trivial
def Il (l f:Fm):CA l.length (l++f)=l.map Prod.fst:=by
 induction l with
 |nil=>cases f<;>rfl
 |cons a l d=>simp only[RC,RZ,CA,RM,d]
variable {ar :Ai}
variable {tm':Ao}
theorem XC.loop_next {b:Code}{tm1:Ao}{hp1 hp':Hp}{e:Exit}(h1:XC P ov ar nt b tm hp .normal tm1 hp1)(h2:XC P ov ar nt (.loop b) tm1 hp1 e tm' hp')(d:hp.nx<=hp1.nx)(g:hp1.nx<=hp'.nx)(hk:∀r,r<hp1.nx->hp1.m.get r=some .dfr->hp'.m.get r=some .dfr):XC P ov ar nt (.loop b) tm hp e tm' hp':=
 h1.comp h2 d g hk fun n m ds h j k p=>by simp only[n8,k];grind
theorem XC.loop_end {b:Code}{hp':Hp}{e:Exit}(h1:XC P ov ar nt b tm hp e tm' hp')(g:e≠ .normal):XC P ov ar nt (.loop b) tm hp e tm' hp':=
 h1.map fun n m ds d hk=>by simp only[n8,hk];grind
end
section
variable {P :Aw}{U:Ab}{ov:Aa}{nt:Nat}{ar:Ai}
variable {b :Code}{body:Fm->M (Exit×Fm)}{an:K0}{pg:List (At×G)}{ps:List Pl}{bs0 kill:Ah}{s1:SS}{f0:Fm}{tm1:Ao}{τ1:Tau}{F1:Ac}{hp1:Hp}{n0:Nat}{Q:(Exit×Fm)×SS->Prop}
variable (P U ov) in
def JQ (ar:Ai)(nt:Nat)(b:Code)(τ1:Tau)(F1:Ac)(s1:SS)(hp1:Hp)(f0:Fm)(Q:(Exit×Fm)×SS->Prop)(tm:Ao)(hp:Hp):Prop:=
 ∃ex f' s',Q ((ex,f'),s')/\ ∃τ' F' hp',Ext τ1 F1 s1 hp1 τ' F' s' hp'/\SD P U τ' F' s' hp'/\ ∃tm',XC P ov ar nt (.loop b) tm hp ex tm' hp'/\TD P U τ' F' f' tm'/\(∃pre,f'=pre++f0)/\hp.nx<=hp'.nx/\ ∀r,r<hp.nx->hp.m.get r=some .dfr->hp'.m.get r=some .dfr
theorem CF (m:∀z,fK P U ov ar nt (body z) b z)(hs1:SD P U τ1 F1 s1 hp1)(ht1:TD P U τ1 F1 f0 tm1)(J:ps.map Pl.at_=pg.map Prod.fst)(pa:∀p∈ps,∃F0 x0,VD P U τ1 F0 p.a x0)(W:∀c∈bs0,c∉kill)(ad:∀c∈rbs ps,c∉bs0/\c∉kill/\c<s1.nx)(hB:∀es:Au,es.length=(sos ps).length->an.inv (t6 U (sos ps) es)->(b9 (body (fT ps (D4 U (sos ps) n0 es) s1 f0)) (Md P U an pg ps bs0 kill s1 f0 (D4 U (sos ps) n0 es)) (sT ps (D4 U (sos ps) n0 es) s1 bs0 kill)).vc U Q):∀(N:Nat) (es:Au),an.mu (t6 U (sos ps) es)<N->es.length=(sos ps).length->an.inv (t6 U (sos ps) es)-> ∀(τ:Tau) (F:Ac) (hp:Hp) (tm:Ao),SD P U τ F (sT ps (D4 U (sos ps) n0 es) s1 bs0 kill) hp->TD P U τ F (fT ps (D4 U (sos ps) n0 es) s1 f0) tm->Ext τ1 F1 s1 hp1 τ F (sT ps (D4 U (sos ps) n0 es) s1 bs0 kill) hp->JQ P U ov ar nt b τ1 F1 s1 hp1 f0 Q tm hp
 |0,es,h,_,_=>absurd h (Nat.not_lt_zero _)|N+1,es,bg,D,Y=>by
  intro τ F hp tm y ae K;have hq:=hB es D Y;rw[A3]at hq;generalize hds:D4 U (sos ps) n0 es=ds at hq y ae K;obtain⟨⟨e,z⟩,s',hq,τ',F',hp',d,B,tm',hx,V,pre,ac⟩:=m (fT ps ds s1 f0) τ F _ hp tm ae y _ hq y;have M:z=pre++fT ps ds s1 f0:=ac;have n:e≠ .normal->Q ((e,z),s')->JQ P U ov ar nt b τ1 F1 s1 hp1 f0 Q tm hp:=fun au hQ=>
   ⟨e,z,s',hQ,τ',F',hp',K.trans d,B,tm',hx.loop_end au,V,⟨pre++vE (cE ps ds s1.nx),by rw[M,fT,QX]⟩,d.nx,fun r hr hg=>d.dfr y hr hg (.inl rfl)⟩
  cases e with
  |exit j=>exact n (by simp) hq|ret=>exact n (by simp) hq|normal=>
   simp only[Md]at hq;cases c1:(CA (z.length-(fT ps ds s1 f0).length) z).all (fun t=>pg.any (fun p=>OX t p.1))with
   |false=>rw[c1]at hq;exact hq.elim|true=>
    rw[c1,Ra]at hq;simp only[t9]at hq;cases c2:aT z s' pg with
    |none=>rw[c2]at hq;exact hq.elim|some bc=>
     rw[c2]at hq;obtain⟨al,xs,ah,ax⟩:=jW V B c2;rw[A3]at hq;obtain⟨vs,s2,hq,τ2,F2,hp2,k,C,rfl,ai⟩:=AO ps bc xs τ' F' s' hp' ah B _ hq B;rw[A3]at hq;obtain⟨⟨A,bs⟩,s3,hq,o3,ak,aq⟩:=Ft τ1 ps vs s2 _ hq C.fc;have ay:=C.only o3 ak;have X:=((K.trans d).trans k).trans (Tm C o3);simp only[t9]at hq;cases c3:(Q7 (s3.h.length-(sT ps ds s1 bs0 kill).h.length) s3.h).all (fun b=>Nat.ble s1.nx b||R4 b bs0||R4 b kill||R4 b (rbs ps))&&bs0.all (Z3 s1 s3)&&cH bs&&
      bs.all (fun b=> !R4 b bs0&&(Nat.ble s1.nx b||R4 b kill))&&Nat.beq bs.length (CW ps)with
     |false=>rw[c3]at hq;exact hq.elim|true=>
      rw [c3,Ra] at hq;simp only [QJ] at c3;obtain ⟨⟨⟨⟨k1,k2⟩,k3⟩,k4⟩,k5⟩:=c3;rw [Rq] at k1 k2 k4;have L:=hq.1;have aa:=(hq.2 hq.1).1;have G:=aq s3 o3.h;have u:=AN G;have head : zL P U τ1 F1 s1 hp1 f0 tm1 ps bs0 kill τ2 F2 s3 hp2  z tm' vs   A bs xs:=by
       refine⟨hs1,ht1,ay,V.mono k.t k.f,X,G,ai,fun i p x hp ba=>?_,?_,pa,fun t ht=>?_,fun l hl c hc hlt=>?_,ad,fun c hc=>⟨W c hc,mU (k2 c hc)⟩,cJ k3,fun c hc=>?_,QN k5⟩
       ·have h1:=congrArg (fun l=>l[i]?) J;simp only[RL,hp,RE]at h1;cases O:pg[i]? with
        |none=>rw[O]at h1;cases h1
        |some q=>rw[O]at h1;simp only[RE,QI]at h1;rw[h1];exact(ax i q x O ba).mono k.t
       have h1:=congrArg List.length J;simp only[Rc]at h1;rw[h1,al];exact ah.1.symm
       ·have av:t∉pre.map Prod.fst:=by
         intro hm;rw[Rq,M,Rn,Nat.add_sub_cancel,Il]at c1;have:=c1 t hm;rw[List.any_eq_true]at this;obtain⟨q,bh,g⟩:=this;have Z:q.1∈ps.map Pl.at_:=by grind
         obtain⟨p,hp1,hp2⟩:=SE.1 Z;refine ht p hp1 ?_;rw[hp2];cases R:q.1 with
         |tmp t'=>rw[R]at g;rw[QN g]|cell b j=>rw[R]at g;cases g
         |no=>rw[R]at g;cases g
        rw[M,rF _ _ av,fT,J5];cases ao:lk (vE (cE ps ds s1.nx)) t with
        |none=>rfl|some a=>obtain⟨i,q,q1,q2,_⟩:=nC _ ao;obtain⟨p,p1,p2⟩:=zQ _ _ _ _ _ q1;exact absurd (by grind) (by omega)
       ·obtain⟨l2,e2,_⟩:=(d.trans (k.trans (Tm C o3))).hh;have az:(sT ps ds s1 bs0 kill).h=fJ ps ds s1 bs0 kill++s1.h:=rfl;have ap:l=l2++fJ ps ds s1 bs0 kill:=by rw[e2,az,<-QX]at hl;exact(List.append_cancel_right hl).symm
        rw[ap,RH,Rw]at hc;rcases hc with hc|hc;rw[e2,Rn,Nat.add_sub_cancel,qC]at k1;have:=k1 c hc;simp only[Sv,RQ]at this;rcases this with((h1|h1)|h1)|h1;omega;exact .inl (cP h1);exact .inr (.inl (cP h1));exact .inr (.inr (cP h1));simp only[fJ,RH,Rw]at hc;rcases hc with h1|h1|h1;rcases wV _ _ _ h1 with h2|h2;omega;exact .inr (.inr h2);exact .inl (uC _ h1);have:=sZ _ h1;simp only[Rw]at this;rcases this with h2|h2|h2|h2;exact .inr (.inl h2);exact .inl h2;exact .inr (.inr h2);simp at h2;omega
       have:=k4 c hc;simp only[QJ,RG,Sv,RQ]at this;refine⟨M7 this.1,?_⟩;rcases this.2 with h1|h1;exact .inl h1;exact .inr (cP h1)
      obtain⟨g1,g2,g3⟩:=head.head (I1 (sos ps) n0 A u);have ab:an.mu (t6 U (sos ps) A)<N:=by
       have:t6 U (sos ps) ds=t6 U (sos ps) es:=by rw[<-hds];exact I3 _ _ _ D
       rw[this]at aa;omega
      obtain⟨aj,f4,s4,w1,be,F4,aw,w2,w3,bb,w4,w5,w6,w7,w8⟩:=CF m hs1 ht1 J pa W ad hB N A ab u L _ _ _ _ g1 g2 g3;exact⟨aj,f4,s4,w1,be,F4,aw,w2,w3,bb,hx.loop_next w4 d.nx w7 w8,w5,w6,RU d.nx w7,fun r hr hg=>w8 r (RP hr d.nx) (d.dfr y hr hg (.inl rfl))⟩
  |_=>exact n (by simp) hq
end
def annOf (l:List (Nat×(Fm->SS->K0)))(id:Nat):Bb (Fm->SS->K0):=lk l id
def slp (P:Aw)(U:Ab)(l:List (Nat×(Fm->SS->K0))):lN:=fun id b body f=>match annOf l id with
 |some an=>some (t9 fun s=>Mf P U (an f s) b body f)|none=>none
def ES (U:Ab):List (So×E)->Ar
 | []=>[]
 | (k,e)::l=>GT U k e::ES U l
def P8 (U:Ab)(name:String)(places:Code->Fm->SS->Bb (List (At×G)×Ah))(gh:Fm->SS->List (So×E))(inv:Ar->Ar->Prop)(mu:Ar->Ar->Nat):Fm->SS->K0:=
 fun f s=>⟨name,places,inv (ES U (gh f s)),mu (ES U (gh f s)),gh f s⟩
section
variable {P :Aw}{U:Ab}{ov:Aa}{nt:Nat}{ar:Ai}
def SD.fvb {τ:Tau}{F:Ac}{s:SS}{hp:Hp}(h:SD P U τ F s hp)(n:Nat):SD P U τ F (fvb s n) hp:=⟨h.live,h.inj,h.frz,h.lt,h.flt,h.new,h.fc,h.fz⟩
def Ext.fvb {τ τ':Tau}{F F':Ac}{s s':SS}{hp hp':Hp}(h:Ext τ F s hp τ' F' s' hp')(n:Nat):Ext τ F s hp τ' F' (fvb s' n) hp':=⟨h.t,h.f,h.nx,h.snx,h.st,h.low,h.hh,h.hf,h.win⟩
theorem Mg {b:Code}{body:Fm->M (Exit×Fm)}(r:∀f',fK P U ov ar nt (body f') b f')(an:K0)(f0:Fm):fK P U ov ar nt (Mf P U an b body f0) (.loop b) f0:=by
 intro τ F s hp tm ht hs Q hq _;simp only[Mf,t9]at hq;cases c1:an.places b f0 s with
 |none=>rw[c1]at hq;exact hq.elim|some pp=>
  obtain⟨pg,bs0⟩:=pp;rw[c1]at hq;simp only at hq;cases T:aT f0 s pg with
  |none=>rw[T]at hq;exact hq.elim|some N=>
   rw[T]at hq;simp only at hq;obtain⟨E,xs,z,ac⟩:=jW ht hs T;generalize J:pls pg N=ps at hq;have m:ps.map Pl.at_=pg.map Prod.fst:=by rw[<-J];exact LF E
   rw[A3]at hq;obtain⟨vs,s2,hq,τ2,R,hp2,d,u,rfl,L⟩:=AO ps N xs τ F s hp z hs _ hq hs;rw[A3]at hq;obtain⟨⟨es,bs⟩,k,hq,o3,Y,aa⟩:=Ft τ2 ps vs s2 _ hq u.fc;have ad:=u.only o3 Y;have A:=d.trans (Tm u o3);simp only[t9]at hq;cases O:bs0.all (Z3 k k)&&cH bs&&bs.all (fun b=> !R4 b bs0)&&Nat.beq bs.length (CW ps)&&(rbs ps).all (fun b=> !R4 b bs0&& !R4 b bs&&Nat.ble (b+1) k.nx)with
   |false=>rw[O]at hq;exact hq.elim|true=>
    rw [O,Ra] at hq;simp only [QJ] at O;obtain ⟨⟨⟨⟨k2,k3⟩,k4⟩,k5⟩,k6⟩:=O;rw [Rq] at k2 k4 k6;have K : ∀ c ∈ rbs ps,c ∉ bs0∧c ∉ bs∧c < k.nx:=fun c hc=>by have:=k6 c hc;simp at this;exact⟨M7 this.1.1,M7 this.1.2,this.2⟩
    have e:=ad.fvb (sos ps).length;have B:=A.fvb (sos ps).length;have y:=ht.mono d.t d.f;have j:=aa (fvb k (sos ps).length) o3.h;have g:=AN j;have C:=hq.1;have hB:=hK _ _ _ (hq.2 hq.1);have n:∀c∈bs0,c∉bs:=fun c hc hb=>by have:=k4 c hb;rw[RG]at this;exact M7 this hc
    have pa:∀p∈ps,∃F0 x0,VD P U τ2 F0 p.a x0:=by intro p hp;obtain⟨i,hi⟩:=RR.1 hp;rw[<-J]at hi;obtain⟨q,v,g1,X,g3,g4⟩:=Hq hi;obtain⟨x,ak,ae⟩:=z.get X;exact⟨R,x,by rw[g4];exact ae.mono d.t d.f⟩
    have head:zL P U τ2 R (fvb k (sos ps).length) hp2 f0 tm ps bs0 bs τ2 R (fvb k (sos ps).length) hp2 f0 tm vs es bs xs:=by
     refine⟨e,y,e,y,Ext.refl e,j,L,fun i p x hp ah=>?_,?_,pa,fun t _=>rfl,fun l hl c hc hlt=>?_,K,fun c hc=>⟨n c hc,mU (k2 c hc)⟩,cJ k3,fun c hc=>⟨fun h=>n c h hc,.inr hc⟩,QN k5⟩
     ·have h1:=congrArg (fun l=>l[i]?) m;simp only[RL,hp,RE]at h1;cases G:pg[i]? with
      |none=>grind|some q=>rw[G]at h1;simp at h1;rw[h1];exact(ac i q x G ah).mono d.t
     have h1:=congrArg List.length m;simp at h1;rw[h1,E];exact z.1.symm
     ·have:l=[]:=by have:=congrArg List.length hl;rw[Rn]at this;grind
      grind
    obtain⟨g1,X,g3⟩:=head.head (I1 (sos ps) k.fv es g);obtain⟨W,f4,s4,w1,aj,F4,ab,w2,w3,ai,w4,w5,⟨pre,w6⟩,_⟩:=CF r e y m pa n K (fun V D Z=>hB V D (by rw[I3 _ _ _ D];exact Z))
     (an.mu (t6 U (sos ps) es)+1) es (RY _) g C _ _ _ _ g1 X g3
    exact⟨(W,f4),s4,w1,aj,F4,ab,B.trans w2,w3,ai,w4,w5,pre,w6⟩
theorem Mh (l:List (Nat×(Fm->SS->K0))):bZ P U ov ar nt (slp P U l):=by intro e b body f r d hr;unfold slp at hr;split at hr;rename_i an _;simp at hr;subst hr;exact fun τ F s hp tm ht hs=>Mg d (an f s) f τ F s hp tm ht hs;grind
end
def KB :An->Ah
 | []=>[]
 |o::os=>match o.dst with
  |some d=>d::KB os|none=>KB os
def pV :Code->Ah
 | .region _ ops _=>KB ops.toList| .seq x y=>pV x++pV y| .cond _ x y=>pV x++pV y| .block _ b=>pV b| .loop b=>pV b| .scope b=>pV b|_=>[]
def anys (own:List (Nat×G)):Ah->Ah->List (At×G)
 |_,[]=>[]
 |seen,t::l=>bif R4 t seen then anys own seen l else match lk own t with
  |some _=>anys own (t::seen) l|none=>(.tmp t,.any)::anys own (t::seen) l
def ownT :List (Nat×G)->List (At×G)
 | []=>[]
 | (t,g)::l=>(.tmp t,g)::ownT l
def cellsG (b:Nat):Nat->List G->List (At×G)
 |_,[]=>[]
 |j,g::l=>(.cell b j,g)::cellsG b (j+1) l
def T6 (own:List (Nat×G))(blks:Fm->SS->Bb (List (Nat×List G))):Code->Fm->SS->Bb (List (At×G)×Ah):=fun c f s=>match blks f s with
 |some bl=>some (ownT own++(bl.map fun p=>cellsG p.1 0 p.2).flatten++anys own [] (pV c),bl.map Prod.fst)|none=>none
def mkPr (rs:Fm->SS->List (At×G))(own:List (Nat×G))(blks:Fm->SS->Bb (List (Nat×List G))):Code->Fm->SS->Bb (List (At×G)×Ah):=fun c f s=>match T6 own blks c f s with
 |some r=>some (rs f s++r.1,r.2)|none=>none
def sx (P:Aw)(U:Ab)(anns:Ay->List (Nat×(Fm->SS->K0)))(con:Ay->Bb (As->M SV))(n:Nat):I0:=
 Y7 P U (fun call nt=>LZ P U call nt) (fun _ g _=>slp P U (anns g)) con n
def sxF (P:Aw)(U:Ab)(anns:Ay->List (Nat×(Fm->SS->K0)))(con:Ay->Bb (As->M SV))(n:Nat)(g:Ay):As->M SV:=
 sfun P U (sx P U anns con n) (fun nt=>LZ P U (sx P U anns con n) nt) (fun g _=>slp P U (anns g)) n g
section
variable {P :Aw}{U:Ab}{ov:Aa}
def Ph (d:Ay->List (Nat×(Fm->SS->K0))){con:Ay->Bb (As->M SV)}(h:∀g k,con g=some k->A5 P U ov k g)(j:∀g,isT (ov g)=true->con g≠none)(n:Nat):E1 P U ov (sx P U d con n):=
 uP (fun _ e _=>Dx e) (fun _ _ _ g _=>Mh (d g)) h j n
def Gp (d:Ay->List (Nat×(Fm->SS->K0))){con:Ay->Bb (As->M SV)}(e:∀g k,con g=some k->A5 P U ov k g)(h:∀g,isT (ov g)=true->con g≠none)(n:Nat)(g:Ay)(hg:isT (ov g)=false):A5 P U ov (sxF P U d con n g) g:=
 HI (Ph d e h n) (fun _=>Dx (Ph d e h n)) (fun _ g _=>Mh (d g)) n g hg
end
open Go.Xe Go.RowKit
def zO (w:Bc)(v:Av):Ag:=match v with
 | .bool _| .int _ _| .string _=>some v
 | .slice none _ _=>some v| .slice (some ⟨i,o,none⟩) (l+1) c=>match w.heap[i]? with
  |some (.cells _ _ _)=>if l+1<=c/\c<unk then some (.slice (some ⟨i+1,o,none⟩) (l+1) c)else none
  |_=>none
 | .slice (some _) 0 _=>some (.slice (some ⟨0,0,some 0⟩) 0 unk)|_=>none
def roT (w:Bc):Nat->Af->Ao
 |_,[]=>.e|k,v::vs=>(roT w (k+1) vs).set k (zO w v)
def Bf (w:Bc):∀(vs:Af) (k j:Nat),(roT w k vs).get j=if k<=j then(vs[j-k]?).bind (zO w)else none
 | [],k,j=>by simp[roT,TP]|v::vs,k,j=>by have g:=Bf w vs (k+1) j;unfold roT;rw[TQ];by_cases d:j=k;subst d;rw[Rh rfl,Rh (Ri _)];simp;rw[Re d,g];by_cases e:k+1<=j;rw[Rh e,Rh (by omega),show j-k=(j-(k+1))+1 by omega,QU];rw[Re e,Re (by omega)]
def roB (w:Bc):Obj->Bb Blk
 | .cells C e _=>some (.ro (roT w 0 C.toList) C.size e 0)|_=>none
def roM (w:Bc):Nat->List Obj->T Blk
 |_,[]=>.e|k,o::os=>(roM w (k+1) os).set k (roB w o)
theorem Hy (w:Bc):∀(os:List Obj) (k j:Nat),(roM w k os).get j=if k<=j then(os[j-k]?).bind (roB w)else none
 | [],k,j=>by simp[roM,TP]|o::os,k,j=>by have d:=Hy w os (k+1) j;unfold roM;rw[TQ];grind
def Dr (P:Aw)(w:Bc):Hp:=⟨(roM w 1 w.heap.toList).set 0 (some (.reg .e 0 rgT (kf P rgT).length)),w.heap.size+1⟩
def Ds (w:Bc):Nat->Bb Xe.Pl
 |0=>some ⟨0,0,0,0⟩|i+1=>match w.heap[i]? with
  |some (.cells C _ _)=>some ⟨i,0,C.size,0⟩|_=>none
def Be (w:Bc):Sg:=⟨fun i r=>if r=0 then Ds w i else none⟩
def Qe (w:Bc)(i:Nat):Be w i=Ds w i:=rfl
def Bd (w:Bc)(i:Nat):Ds w (i+1)=match w.heap[i]? with
  |some (.cells C _ _)=>some ⟨i,0,C.size,0⟩|_=>none:=rfl
def BS.ro (w:Bc):BS:=⟨(· <w.heap.size),(· <w.heap.size),fun _ h=>h⟩
def uI (P:Aw)(w:Bc)(i:Nat):(Dr P w).m.get (i+1)=(w.heap[i]?).bind (roB w):=by show((roM w 1 w.heap.toList).set 0 _).get (i+1)=_;rw[TQ,Re (by omega),Hy,Rh (by omega)];simp
def uJ (P:Aw)(w:Bc):(Dr P w).m.get 0=some (.reg .e 0 rgT (kf P rgT).length):=by show((roM w 1 w.heap.toList).set 0 _).get 0=_;rw[TQ,Rh rfl]
variable {w:Bc}
def W9 {v a:Av}(h:zO w v=some a):VR (Be w) a v:=by
 unfold zO at h;split at h;cases h;exact .bool _;cases h;exact .int _ _;cases h;exact .string _;cases h;exact .nils _ _
 ·rename_i i o l c;split at h
  ·rename_i C e f hh;split at h
   ·rename_i hc;cases h;have hs:Be w (i+1)=some ⟨i,0,C.size,0⟩:=by rw[Qe,Bd,hh]
    have:=VR.slice (σ:=Be w) (i+1) o _ (l+1) c c hs (.inl ⟨rfl,hc.2⟩) hc.1;simpa using this
   cases h
  cases h
 cases h;exact .vague _ _;cases h
def yO {i:Nat}{p:Xe.Pl}(h:Ds w (i+1)=some p):p.blk=i:=by rw[Bd]at h;split at h;simp only[QI]at h;rw[<-h];cases h
def HR.ro (P:Aw)(w:Bc):HR (BS.ro w) w (Be w) (Dr P w) w:=by
 have nr:∀i b r,(Dr P w).m.get i=some b->Ix b r-> ∃j C e f,i=j+1/\r=0/\w.heap[j]? =some (.cells C e f)/\b= .ro (roT w 0 C.toList) C.size e 0:=by
  intro i b r hg hx;cases i with
  |zero=>rw[uJ,QI]at hg;subst hg;have hx:1<=r/\r<=0:=hx;omega|succ j=>
   rw[uI,Option.bind_eq_some_iff]at hg;obtain⟨o,g,hb⟩:=hg;cases o with
   |cells C e f=>simp only[roB,QI]at hb;subst hb;exact⟨j,C,e,f,rfl,hx,g,rfl⟩|_=>cases hb
 refine⟨rfl,rfl,rfl,Ri _,fun _ h=>h,fun _ _=>rfl,fun i r hi=>?_,fun i b r hg hx=>?_,fun i j b b' r s p q hi hj hx hy n hp hq=>?_,fun i b hg hb=>?_⟩
 ·have hi:w.heap.size+1<=i:=hi;show(if r=0 then Ds w i else none)=none;split
  ·obtain⟨j,rfl⟩:∃j,i=j+1:=⟨i-1,by omega⟩
   rw[Bd,Array.getElem?_eq_none (by omega)]
  rfl
 obtain⟨j,C,e,f,rfl,rfl,g,rfl⟩:=nr i b r hg hx;refine⟨⟨j,0,C.size,0⟩,_,by show Ds w (j+1)=_;rw[Bd,g],(QY.1 g).1,g,C,f,rfl,rfl,rfl,by simp,fun k v hj hv=>?_⟩;rw[Bf,Rh (SQ _),SA,Option.bind_eq_some_iff]at hv;obtain⟨u,h1,h2⟩:=hv;exact⟨u,by simpa using h1,W9 h2⟩;obtain⟨t,_,_,_,rfl,rfl,_⟩:=nr i b r hi hx;obtain⟨j',_,_,_,rfl,rfl,_⟩:=nr j b' s hj hy;have x:=yO (w:=w) (show Ds w (t+1)=some p from hp);have y:=yO (w:=w) (show Ds w (j'+1)=some q from hq);omega
 ·cases i with
  |zero=>rw[uJ,QI]at hg;subst hg;exact⟨⟨_,rfl⟩,fun r h0 _=>Re h0⟩|succ j=>
   rw[uI,Option.bind_eq_some_iff]at hg;obtain⟨o,_,d⟩:=hg;cases o with
   |cells C e f=>simp only[roB,QI]at d;subst d;cases hb
   |_=>cases d
def roF (w:Bc):Ac
 |0=>none|i+1=>(w.heap[i]?).bind (roB w)
def LQ (P:Aw)(w:Bc):∀i b,roF w i=some b->(Dr P w).m.get i=some b/\i<(Dr P w).nx:=by
 intro i b h;cases i with
 |zero=>cases h
 |succ j=>refine⟨by rw[uI];exact h,?_⟩;have h:(w.heap[j]?).bind (roB w)=some b:=h;rw[Option.bind_eq_some_iff]at h;obtain⟨o,d,_⟩:=h;have:=(QY.1 d).1;show j+1<w.heap.size+1;omega
def IY {i:Nat}{C:Al}{e:Ax}{f:Nat×Nat}(h:w.heap[i]? =some (.cells C e f)):roF w (i+1)=some (.ro (roT w 0 C.toList) C.size e 0):=by show(w.heap[i]?).bind (roB w)=_;rw[h];rfl
def CL (f:Ax->Nat->List (Nat×Ax))(o:Nat):List Field->List (Nat×Ax)
 | []=>[]
 |x::xs=>f x.type (o+x.offset)++CL f o xs
def cK (P:Aw):Nat->Ax->Nat->List (Nat×Ax)
 |0,_,_=>[]
 |d+1,t,o=>match P.underlying t with
  |some (.struct fs)=>CL (cK P d) o fs.toList|some (.array n e)=>((List.range n).map fun i=>cK P d e (o+i*P.cellsOf e)).flatten|_=>[(o,t)]
def isAgg (P:Aw)(t:Ax):Bool:=match P.underlying t with
 |some (.struct _)=>true|some (.array _ _)=>true|_=>false
section
variable {H :Type}{enc:Ax×Av->H}{P:Aw}{w:Bc}{spare:Nat->Bool}{held:Bool}
def xN {f:Ax->Nat->List (Nat×Ax)}{o:Nat}{p:Nat×Ax}:∀ {l:List Field},p∈CL f o l-> ∃x∈l,p∈f x.type (o+x.offset)
 | [],h=>by simp[CL]at h|x::xs,h=>by unfold CL at h;rcases Rw.1 h with h|h;exact⟨x,by simp,h⟩;obtain⟨y,h1,h2⟩:=xN h;exact⟨y,by simp[h1],h2⟩
theorem iR :∀(d:Nat) {p:Nat} {t:Ax} {cs:Af} {x:DataW H×List MemPlace},DataW.trod enc P w 0 spare held p t cs=some x-> ∀(a o:Nat) (u:Ax),(o,u)∈cK P d t a-> ∃(j:Nat) (cs':Af) (g:Nat) (x':DataW H×List MemPlace),o=a+j/\g<=p/\isAgg P u=false/\DataW.trod enc P w 0 spare held g u cs'=some x'/\ ∀(k:Nat) v,cs'[k]? =some v->cs[j+k]? =some v
 |0,p,t,cs,x,h,a,o,u,hm=>by simp[cK]at hm|d+1,p,t,cs,x,h,a,o,u,hm=>by
  unfold cK at hm;split at hm
  ·rename_i q ht;obtain⟨xs,n,rfl,_,_,_,hf⟩:=DataW.trod_struct ht h;obtain⟨f,r,y⟩:=xN hm;obtain⟨i,hi⟩:=RR.1 r;have z:q[i]? =some f:=by grind
   have:=hf i f z;have hlt:i<xs.length:=by grind
   rw[QV hlt]at this;obtain⟨j,cs',g,x',h1,h2,h3,h4,B⟩:=iR d this (a+f.offset) o u y;exact⟨f.offset+j,cs',g,x',by omega,by omega,h3,h4,fun k v hv=>by grind⟩
  ·rename_i n e ht;obtain⟨i,hi,hm⟩:∃i,i<n/\(o,u)∈cK P d e (a+i*P.cellsOf e):=by grind
   obtain⟨m,x',h1,h2⟩:∃m x',p=m+1/\DataW.trod enc P w 0 spare held m e ((cs.drop (i*P.cellsOf e)).take (P.cellsOf e))=some x':=by
    cases p with
    |zero=>simp[DataW.trod]at h|succ m=>
     unfold DataW.trod at h;rw[ht]at h;simp only at h;split at h
     ·rw[SF]at h;obtain⟨xs,hx,_⟩:=h;have:=mapM_some_get hx i i (by grind);have hl:=mapM_some_length hx;have hlt:i<xs.length:=by grind
      rw[QV hlt]at this;exact⟨m,_,rfl,this⟩
     cases h
   obtain⟨j,cs',g,A,h1,h2,h3,h4,B⟩:=iR d h2 _ o u hm;exact⟨i*P.cellsOf e+j,cs',g,A,by omega,by omega,h3,h4,fun k v hv=>by grind⟩
  rename_i h1 h2;simp only[Se,QK]at hm;obtain⟨rfl,rfl⟩:=hm;refine⟨0,cs,p,x,by omega,Ri _,?_,h,fun k v hv=>by grind⟩;unfold isAgg;split;rename_i q hh;exact absurd hh (h1 q);rename_i n e hh;exact absurd hh (h2 n e);rfl
end
end Go.Sx
namespace Go.Sx
open Go.Xe Go.RowKit
inductive DW (P:Aw):Kd->Dat->Prop
 |int (k:IntKind) (n:Int) (h:k.min<=n/\n<=k.max):DW P (.int k) (.int n)
 |bool (b:Bool):DW P .bool (.bool b)
 |str (s:Ae) (h:s.length<=maxLen):DW P .str (.str s)
 | sl (e : Ax) (rows : Rows) (hl : rows.length ≤ maxLen) (hz : ∀ r ∈ rows, r.length = (kf P e).length)
   (h:∀(r k:Nat) (row:Ar) (kd:Kd) (d:Dat),rows[r]? =some row->row[k]? =some d->(kf P e)[k]? =some kd->DW P kd d):DW P (.sl e) (.lst rows)
def Fb (P:Aw)(e:Ax):Bool:=
 Nat.beq (cK P 20 e 0).length (kf P e).length&&Nat.beq (P.cellsOf e) (kf P e).length&&Nat.ble 1 (kf P e).length&&
  ((cK P 20 e 0).zipIdx.all fun p=>Nat.beq p.1.1 p.2)&&((cK P 20 e 0).zip (kf P e)).all fun p=>decide (kd1 P p.1.2=p.2)
def GH (P:Aw)(S:Kd->Prop):Prop:=∀kd,S kd->match kd with
 | .int _=>True| .bool=>True| .str=>True| .sl e=>Fb P e=true/\ ∀k∈kf P e,S k|_=>False
def inL (es:List Ax):Kd->Bool
 | .int _=>true| .bool=>true| .str=>true| .sl e=>R4 e es|_=>false
theorem No {P:Aw}{es:List Ax}(h:(es.all fun e=>Fb P e&&(kf P e).all (inL es))=true):GH P fun kd=>inL es kd=true:=by
 intro kd hk;cases kd with
 |sl e=>have:=Rq.1 h e (cP hk);grind|_=>first|trivial|cases hk
section
variable {H :Type}{enc:Ax×Av->H}{P:Aw}{w:Bc}{spare:Nat->Bool}{held:Bool}
theorem mJ {e:Ax}(h:Fb P e=true):P.cellsOf e=(kf P e).length/\1<=(kf P e).length/\ ∀k kd,(kf P e)[k]? =some kd-> ∃u,(k,u)∈cK P 20 e 0/\kd1 P u=kd:=by
 simp only[Fb,QJ,Rz,RQ]at h;obtain⟨⟨⟨⟨h1,h2⟩,h3⟩,h4⟩,d⟩:=h;refine⟨h2,h3,fun k kd hk=>?_⟩;have hlt:=(QL.1 hk).1;have hl:k<(cK P 20 e 0).length:=by omega
 have hg:=QV hl;rw[Rq]at h4 d;have a1:=h4 ((cK P 20 e 0)[k],k) (by grind);have a2:=d ((cK P 20 e 0)[k],kd) (QT (by rw[List.getElem?_zip_eq_some];exact⟨hg,hk⟩));simp at a1 a2;grind
theorem JT (a:Addr)(i j:Nat):(a.add i).add j=a.add (i+j):=by unfold Addr.add;grind
variable (P w) in
def wQ (kd:Kd)(v:Av)(d:Dat):Prop:=∃a,zO w v=some a/\PV P (roF w) kd a d/\DW P kd d
theorem Ck {S:Kd->Prop}(hS:GH P S):∀(N t:Nat),t<N-> ∀(u:Ax) (cs:Af) (x:DataW H×List MemPlace),DataW.trod enc P w 0 spare held t u cs=some x->S (kd1 P u)-> ∃v d,cs=[v]/\wQ P w (kd1 P u) v d
 |0,_,h,_,_,_,_,_=>absurd h (Nat.not_lt_zero _)|N+1,t,hN,u,cs,x,ht,hg=>by
  unfold kd1 at hg⊢;split at hg;rename_i k G;clear hg;obtain⟨n,rfl,_,hw⟩:=DataW.trod_int G ht;refine⟨.int k n,.int n,rfl,.int k n,rfl,.int k n,.int k n ?_⟩;unfold Lit.wf at hw;grind;rename_i G;obtain⟨b,rfl,_⟩:=DataW.trod_bool G ht;exact⟨.bool b,.bool b,rfl,.bool b,rfl,.bool b,.bool b⟩;rename_i G;obtain⟨s,rfl,_,hs⟩:=DataW.trod_string G ht;refine⟨.string s,.str s.data.toList,rfl,.string s,rfl,?_,.str _ ?_⟩;exact .str s.data.toList;simp_all
  ·rename_i e G;obtain⟨ac,ap⟩:=hS _ hg;obtain⟨l1,l2,l3⟩:=mJ ac;rcases DataW.trod_slice G ht with⟨rfl,_⟩| ⟨a,len,cap,L,rest,n,rfl,rfl,_,_,aq,al,ba,ao,_,_⟩;exact⟨.slice none 0 0,.lst [],rfl,.slice none 0 0,rfl,.nils e,.sl e [] (SQ _) (fun r h=>by simp at h) (fun r k row kd d h=>by simp at h)⟩
   ·cases len with
    |zero=>refine⟨.slice (some a) 0 cap,.lst [],rfl,.slice (some ⟨0,0,some 0⟩) 0 unk,?_,.vague e,.sl e [] (SQ _) (fun r h=>by simp at h) (fun r k row kd d h=>by simp at h)⟩;obtain⟨i,o,sp⟩:=a;cases sp<;>rfl
    |succ len=>
    have cell:∀r k,r<len+1->k<(kf P e).length-> ∀kd,(kf P e)[k]? =some kd-> ∃v d,w.cell? (a.add (r*P.cellsOf e+k))=some v/\wQ P w kd v d:=by
     intro r k hr hk kd g;have h1:=ao r hr;have hlt:r<L.length:=by omega
     rw[QV hlt,Option.bind_eq_some_iff]at h1;obtain⟨cs,ah,ai⟩:=h1;obtain⟨_,ax,aj⟩:=World.cells?_some ah;obtain⟨u',av,ad⟩:=l3 k kd g;obtain⟨j,cs',M,x',q1,q2,q3,q4,q5⟩:=iR 20 ai 0 k u' av;obtain⟨v,d,rfl,hv⟩:=Ck hS N M (by omega) u' cs' x' q4 (by rw[ad];exact ap kd (QT g));refine⟨v,d,?_,by rw[ad]at hv;exact hv⟩;have:=q5 0 v rfl;have hj:j=k:=by omega
     subst hj;rw[Sf]at this;rw[<-this,<-aj j (by omega)];congr 1;exact(JT a _ _).symm
    have first:∃kd,(kf P e)[0]? =some kd:=⟨_,QV (by omega)⟩
    obtain⟨aw,ab⟩:=first
    obtain⟨v0,_,m,_⟩:=cell 0 0 (by omega) (by omega) aw ab;obtain⟨i,o,sp⟩:=a;have au:sp=none:=by
     cases sp with
     |none=>rfl|some q=>
      have hb:((⟨i,o,some q⟩:Addr).add (0*P.cellsOf e+0)).block=i:=by unfold Addr.add;split<;>rfl
      unfold World.cell? at m;rw[hb]at m;split at m
      ·rename_i hh;have:((⟨i,o,some q⟩:Addr).add (0*P.cellsOf e+0)).spot.isSome=true:=by unfold Addr.add;simp
       grind
      cases m
    subst au;have E:∀j,(⟨i,o,none⟩:Addr).add j=⟨i,o+j,none⟩:=fun j=>SO _ _ _;obtain⟨C,e',f,hh⟩:∃C e' f,w.heap[i]? =some (.cells C e' f):=by rw[E]at m;unfold World.cell? at m;grind
    have J:∀r k,r<len+1->k<(kf P e).length-> ∀kd,(kf P e)[k]? =some kd-> ∃v d,C[o+r*(kf P e).length+k]? =some v/\wQ P w kd v d:=by intro r k hr hk kd g;obtain⟨v,d,h1,h2⟩:=cell r k hr hk kd g;refine⟨v,d,?_,h2⟩;rw[E,cell_of_row w i _ C e' f hh,l1]at h1;grind
    clear cell;have K:∀p:Nat×Nat,∃q:Av×Dat,p.1<len+1-> ∀kd,(kf P e)[p.2]? =some kd->C[o+p.1*(kf P e).length+p.2]? =some q.1/\wQ P w kd q.1 q.2:=by
     intro⟨r,k⟩;simp only;by_cases hr:r<len+1
     ·cases hk:(kf P e)[k]? with
      |none=>exact⟨(undef,.int 0),fun _ kd h=>by cases h⟩|some kd=>obtain⟨v,d,h1,h2⟩:=J r k hr (QL.1 hk).1 kd hk;exact⟨(v,d),fun _ bc h=>by cases h;exact⟨h1,h2⟩⟩
     exact⟨(undef,.int 0),fun h=>absurd h hr⟩
    obtain⟨ch,ay⟩:=Classical.axiomOfChoice K;obtain⟨vv,bb⟩:∃vv:Nat->Nat->Av,∀r k,vv r k=(ch (r,k)).1:=⟨fun r k=>(ch (r,k)).1,fun _ _=>rfl⟩
    obtain⟨T,az⟩:∃T:Nat->Nat->Dat,∀r k,T r k=(ch (r,k)).2:=⟨fun r k=>(ch (r,k)).2,fun _ _=>rfl⟩
    have y:∀r k,r<len+1-> ∀kd,(kf P e)[k]? =some kd->C[o+r*(kf P e).length+k]? =some (vv r k)/\wQ P w kd (vv r k) (T r k):=by simp_all
    have z1:=l2;generalize hz:(kf P e).length=z at*;have Z:o+(len+1)*z<=C.size:=by have hk:(kf P e)[z-1]? =some ((kf P e)[z-1]'(by omega)):=QV (by omega);have:=(y len (z-1) (by omega) _ hk).1;grind
    let rows:Rows:=(List.range (len+1)).map fun r=>(List.range z).map fun k=>T r k
    have B:∀(r k:Nat) (row:Ar) (d:Dat),rows[r]? =some row->row[k]? =some d->r<len+1/\k<z/\d=T r k:=by grind
    have D:rows.length=len+1:=by simp[rows]
    have rz:∀r∈rows,r.length=z:=by intro r hr;simp only[rows,SE]at hr;obtain⟨i,_,rfl⟩:=hr;simp
    have R:cap<unk:=by have:=al;unfold maxLen at this;unfold unk;omega
    have Y:zO w (.slice (some ⟨i,o,none⟩) (len+1) cap)=some (.slice (some ⟨i+1,o,none⟩) (len+1) cap):=by unfold zO;simp only[hh];rw[Rh ⟨aq,R⟩]
    have A:∀k,k<z-> ∃kd,(kf P e)[k]? =some kd:=fun k hk=>⟨_,QV (by omega)⟩
    have ae:∀p:Nat×Nat,∃a,p.1<len+1->p.2<z->zO w (vv p.1 p.2)=some a:=by intro⟨r,k⟩;simp only;by_cases h:r<len+1/\k<z;obtain⟨kd,g⟩:=A k h.2;obtain⟨_,a,ha,_⟩:=y r k h.1 kd g;exact⟨a,fun _ _=>ha⟩;exact⟨undef,fun h1 h2=>absurd ⟨h1,h2⟩ h⟩
    obtain⟨ca,ak⟩:=Classical.axiomOfChoice ae;obtain⟨aa,X⟩:∃aa:Nat->Nat->Av,∀r k,aa r k=ca (r,k):=⟨fun r k=>ca (r,k),fun _ _=>rfl⟩
    have W:∀r k,r<len+1->k<z->zO w (vv r k)=some (aa r k):=by intro r k h1 h2;rw[X];exact ak (r,k) h1 h2
    refine⟨_,.lst rows,rfl,_,Y,?_,?_⟩
    ·rw[<-D];refine .sl e (i+1) o cap (.ro (roT w 0 C.toList) C.size e' 0) (roT w 0 C.toList) C.size z (zb:=0) rows aa (IY hh) rfl ⟨.inl ⟨R,by omega⟩,fun _=>R,fun h=>by cases h⟩ (by rw[D];exact Z) hz.symm rz ?_ ?_
     ·intro r k row d h1 h2;obtain⟨O,V,rfl⟩:=B r k row d h1 h2;obtain⟨kd,g⟩:=A k V;have:=(y r k O kd g).1;rw[Bf,Rh (SQ _),SA];have e1:C.toList[o+r*z+k]? =some (vv r k):=by rw[<-this];simp
      rw[e1];exact W r k O V
     intro r k row kd d h1 h2 g;obtain⟨O,V,rfl⟩:=B r k row d h1 h2;obtain⟨_,a,ha,hp,_⟩:=y r k O kd g;have:=W r k O V;rw[ha]at this;cases this;exact hp
    refine .sl e rows (by rw[D];omega) (fun r hr=>by rw[hz];exact rz r hr) ?_;intro r k row kd d h1 h2 g;obtain⟨O,V,rfl⟩:=B r k row d h1 h2;exact(y r k O kd g).2.choose_spec.2.2
  rename_i e G;cases hb:Nat.beq e rgT<;>rw[hb]at hg<;>exact(hS _ hg).elim;exact(hS _ hg).elim
theorem Cj {S:Kd->Prop}(q:GH P S){u:Ax}{xs:Al}{d:DataW H}{ps:List MemPlace}(h:DataW.Trod enc P w 0 spare held u (.agg xs) d ps)(hl:Fb P u=true)(hg:∀kd∈kf P u,S kd):∀(k:Nat) (kd:Kd),(kf P u)[k]? =some kd-> ∃(v:Av) (d:Dat),xs[k]? =some v/\wQ P w kd v d:=by
 intro k kd g;obtain⟨n,h⟩:=h;obtain⟨z,A,t⟩:=mJ hl;obtain⟨p,m,r⟩:=t k kd g;obtain⟨j,cs',e,x',B,C,D,x,y⟩:=iR 20 h 0 k p m;obtain⟨v,d,rfl,hv⟩:=Ck q (e+1) e (RY _) p cs' x' x (by grind);have:=y 0 v rfl;have hj:j=k:=by omega
 subst hj;refine⟨v,d,by simpa [Value.cells]using this,by grind⟩
end
section
variable {P :Aw}{U:Ab}{ov:Aa}
def HR.roBelow {σ:Sg}{hp:Hp}{w w':Bc}(h:HR (BS.ro w) w σ hp w'):Below w.heap.size w w':=
 ⟨h.os,h.tape,h.output,h.size,h.kept⟩
end
open Go.Xe
inductive Lf where
 |g (k:G)
 |ptr (i z:Nat)
 |nilp
 |clo (g:Ay) (is:List (Nat×Nat))
 |cst (k:G) (e:E)
def Lf.so :Lf->Bb So
 | .g k=>k.so|_=>none
def Lf.na :Lf->Nat
 | .g k=>k.na|_=>0
def Lf.blk (x:Lf)(d:E):Bb B6:=match x with
 | .g k=>k.blk .any d|_=>none
def lvv (num:Nat->Nat)(x:Lf)(e:E)(nb:Nat):SV:=match x with
 | .g k=>tv k .any e nb| .ptr i z=>.ptr (num i) z (.int 0) 0| .nilp=>.nilp| .clo g is=>.fn (.func g) [] (is.map fun p=>.ptr (num p.1) p.2 (.int 0) 0)| .cst k e=>tv k .any e nb
def De (x:Lf)(es:Au):Au:=match x.so with
 |some _=>tl1 es|none=>es
def Ih (num:Nat->Nat):List Lf->Au->Nat->As
 | [],_,_=>[]
 |x::l,es,nb=>lvv num x (hd1 es) nb::Ih num l (De x es) (nb+x.na)
def Q0 :List Lf->Au->Nat->List (Nat×Bb B6)
 | [],_,_=>[]
 |x::l,es,nb=>match x.blk (hd1 es)with
  |some X=>(nb,some X)::Q0 l (De x es) (nb+x.na)|none=>Q0 l (De x es) (nb+x.na)
def m8 :List Lf->List So
 | []=>[]
 |x::l=>W6 x.so (m8 l)
def E5 :List Lf->Nat
 | []=>0|x::l=>x.na+E5 l
section
variable (P :Aw)(U:Ab)
def Lw (x:Lf)(v:SV):M SV:=match x with
 | .g k=>qE P U k v| .cst k _=>qE P U k v|_=>i4 v
def eqS (so:So)(d e:E):Bb E:=match so with
 | .i=>some (E4 d e)| .s=>some (mO d e)| .b=>some (Hi d e)| .l=>match e with
  | .op .nil []=>some (E4 (A6 d) (.int 0))|_=>none
def yC :List Lf->As->M (As)
 |x::l,v::vs=>b9 (Lw P U x v) fun v'=>b9 (yC l vs) fun vs'=>i4 (v'::vs')
 | [],[]=>i4 []|_,_=>a8 "contract: places"
def KQ (bl:Ah)(i b:Nat):Bool:=match bl[i]? with
 |some b'=>Nat.beq b b'|none=>false
def mtC (bl:Ah):List (Nat×Nat)->As->Bool
 | [],[]=>true|p::is,.ptr b z (.int m) f::l=>KQ bl p.1 b&&Nat.beq p.2 z&&decide (m=0)&&Nat.beq f 0&&mtC bl is l|_,_=>false
def ID (bl:Ah)(x:Lf)(v:SV):M (Bb E×Ai):=match x with
 | .g k=>mt1 U k .any v| .ptr i z=>match v with
  | .ptr b z' (.int m) f=>bif KQ bl i b&&Nat.beq z z'&&decide (m=0)&&Nat.beq f 0 then i4 (none,none)else a8 "contract: another pointer"|_=>a8 "contract: no pointer"
 | .nilp=>match v with
  | .nilp=>i4 (none,none)|_=>a8 "contract: not nil"
 | .clo g is=>match v with
  | .fn (.func g') [] l=>bif Nat.beq g g'&&mtC bl is l then i4 (none,none)else a8 "contract: another function"|_=>a8 "contract: no function"
 | .cst k e => bif Nat.beq k.na 0 then b9 (mt1 U k .any v) fun r => match r.1, k.so with
   |some d,some so=>match eqS so d e with
    |some c=>b9 (p8 U c) fun _=>i4 (none,none)
    |none=>a8 "contract: known"
   |_,_=>a8 "contract: known"
  else a8 "contract: known"
def mtL (bl:Ah):List Lf->As->M (Au×Ah)
 |x::l,v::vs=>b9 (ID U bl x v) fun r=>b9 (mtL bl l vs) fun t=>i4 (W6 r.1 t.1,W6 r.2 t.2)
 | [],[]=>i4 ([],[])|_,_=>a8 "contract: places"
end
section
variable {P :Aw}{U:Ab}
variable {τ:Tau}{F:Ac}{hp:Hp}
def IF {s:SS}(x:Lf){v:SV}{u:Av}(hv:VD P U τ F v u)(hs:SD P U τ F s hp):OKh P U (Lw P U x v) τ F s hp fun v' τ' F' hp'=>hp'=hp/\VD P U τ' F' v' u:=by
 cases x with
 |g k=>exact tV k hv hs|cst k e=>exact tV k hv hs|_=>exact Tw ⟨rfl,hv⟩
theorem gI :∀(ps:List Lf) (vs:As) (xs:Af) (τ:Tau) (F:Ac) (s:SS) (hp:Hp),VDL P U τ F vs xs->SD P U τ F s hp->OKh P U (yC P U ps vs) τ F s hp fun e τ' F' hp'=>hp'=hp/\VDL P U τ' F' e xs
 | [],[],xs,τ,F,s,hp,hv,hs=>Tw ⟨rfl,hv⟩| [],v::vs,xs,τ,F,s,hp,hv,hs=>Tu|p::ps,[],xs,τ,F,s,hp,hv,hs=>Tu|p::ps,v::vs,xs,τ,F,s,hp,hv,hs=>by obtain⟨y,ys,rfl,h1,h2⟩:=hv.uncons;refine(IF p h1 hs).bind fun v' τ1 F1 s1 hp1 ex hs1 ⟨k,g⟩=>(gI ps vs ys τ1 F1 s1 hp1 (h2.mono ex.t ex.f) hs1).bind fun e τ2 j s2 hp2 d h ⟨k1,k2⟩=>Tw ⟨by grind,.cons (g.mono d.t d.f) k2⟩
theorem Pw {so:So}{d e c:E}(h:eqS so d e=some c)(hp:c.pr U):mV U so d e:=by unfold eqS at h;split at h;cases h;exact aX hp;cases h;rw[Tk,T5]at hp;show(d.den U).toStr=(e.den U).toStr;grind;cases h;rw[Tk,xV]at hp;show(d.den U).toBool=(e.den U).toBool;grind;split at h;cases h;have:=aX hp;rw[j8,B5]at this;show d.toR U=_;have h0:d.toR U=[]:=List.length_eq_zero_iff.1 (by omega);rw[h0];rfl;cases h
variable (P U) in
def LOK (bl:Ah)(τ:Tau)(F:Ac)(s:SS)(x:Lf)(v:SV)(r:Bb E×Ai):Prop:=
 (∀so,x.so=some so-> ∃e,r.1=some e)/\(x.so=none->r.1=none)/\(x.na=0->r.2=none)/\
 (∀u,VD P U τ F v u-> ∀(τ2:Tau) (num:Nat->Nat) (nb:Nat) (d:E),(∀i b,bl[i]? =some b->τ2 (num i)=τ b)->(∀e so,r.1=some e->x.so=some so->mV U so e d)->(∀b,r.2=some b->τ2 nb=τ b)->VD P U τ2 F (lvv num x d nb) u)/\
 (x.na≠0-> ∃so,x.so=some so/\JM P U τ F s so x.blk r)
theorem Hm {bl:Ah}:∀ {is:List (Nat×Nat)} {l:As} {num:Nat->Nat},mtC bl is l=true->(is.map fun p=>SV.ptr (num p.1) p.2 (.int 0) 0).length=l.length
 | [],[],num,_=>rfl| [],_::_,num,h=>by simp[mtC]at h|p::is,[],num,h=>by simp[mtC]at h|p::is,a::l,num,h=>by unfold mtC at h;split at h;grind;rename_i e d;cases d;simp at h;have:=Hm (num:=num) h.2;grind;cases h
theorem Hl {bl:Ah}{τ τ2:Tau}{F:Ac}{num:Nat->Nat}:∀ {is:List (Nat×Nat)} {l:As} {ys:Af},mtC bl is l=true->(∀i b,bl[i]? =some b->τ2 (num i)=τ b)->VDL P U τ F l ys-> ∀ {i:Nat} {a:SV} {x:Av},(is.map fun p=>SV.ptr (num p.1) p.2 (.int 0) 0)[i]? =some a->ys[i]? =some x->VD P U τ2 F a x
 | [],l,ys,h,hb,hv,i,a,x,d,hx=>by grind|p::is,[],ys,h,hb,hv,i,a,x,d,hx=>by simp[mtC]at h|p::is,b0::l,ys,h,hb,hv,i,a,x,d,hx=>by
  unfold mtC at h;split at h;grind
  ·rename_i e g;cases e;cases g;simp at h;obtain⟨⟨⟨⟨h1,h2⟩,h3⟩,h4⟩,j⟩:=h;subst h3;subst h4;obtain⟨y,n,rfl,k1,k2⟩:=hv.uncons;cases i with
   |zero=>
    simp at d hx;subst d;subst hx;unfold KQ at h1;split at h1
    ·rename_i b' k;have:=QN h1;subst this;cases k1 with
     |ptr _ _ _ _ m o' h h0=>rw[h2];exact .ptr _ _ (.int 0) 0 m o' (by grind) h0
    grind
   |succ i=>exact Hl j hb k2 d hx
  cases h
theorem NC {s:SS}(bl:Ah)(x:Lf)(v:SV):OKp U (ID U bl x v) s fun r=>∀s',s'.h=s.h->LOK P U bl τ F s' x v r:=by
 cases x with
 |g k=>refine(Fs (P:=P) (τ:=τ) (F:=F) (fun _=>none) k .any v).mono fun r h s' q=>?_;obtain⟨h1,h2,h3,h4,B⟩:=h s' q;refine⟨h1,h2,h3,fun u j τ2 num nb d _ t hb=>h4 u j τ2 nb d (fun b p e=>by grind) ⟨fun _=>none,undef,.any _⟩ t hb,fun y=>B.1 y⟩
 |ptr i z=>
  simp only[ID];split
  ·rename_i b K m f;cases hc:KQ bl i b&&Nat.beq z K&&decide (m=0)&&Nat.beq f 0 with
   |false=>exact Tx|true=>
    simp at hc;obtain⟨⟨⟨hi,rfl⟩,rfl⟩,rfl⟩:=hc;refine TC fun s' _=>⟨fun so h=>(by cases h),fun _=>rfl,fun _=>rfl,fun u j τ2 num nb d hb _ _=>?_,fun h=>absurd rfl h⟩
    unfold KQ at hi;split at hi
    ·rename_i b' D;have:=QN hi;subst this;cases j with
     |ptr _ _ _ _ G o' h h0=>exact .ptr (num i) z (.int 0) 0 G o' (by grind) h0
    grind
  exact Tx
 |clo g is=>
  simp only[ID];split
  ·rename_i g' l;cases hc:Nat.beq g g'&&mtC bl is l with
   |false=>exact Tx|true=>
    rw[QJ]at hc;have:=QN hc.1;subst this;refine TC fun s' _=>⟨fun so h=>(by cases h),fun _=>rfl,fun _=>rfl,fun u j τ2 num nb d hb _ _=>?_,fun h=>absurd rfl h⟩
    cases j with
    |fn _ _ _ xs ys h1 h2 h3 h4=>exact .fn _ _ _ xs ys h1 (by grind) (by rw[<-h3];exact Hm hc.2) fun i a x C hx=>Hl hc.2 hb ⟨h3,h4⟩ C hx
  exact Tx
 |nilp=>
  simp only[ID];split
  ·refine TC fun s' _=>⟨fun so h=>(by cases h),fun _=>rfl,fun _=>rfl,fun u j τ2 num nb d _ _ _=>?_,fun h=>absurd rfl h⟩
   cases j;exact .nilp
  exact Tx
 |cst k e=>
  simp only[ID];cases hn:Nat.beq k.na 0 with
  |false=>exact Tx|true=>have hn:=QN hn;rw[Ra];refine(Fs (P:=P) (τ:=τ) (F:=F) (fun _=>none) k .any v).bind fun r s1 M _ hr=>?_;split;rename_i d so t A;split;rename_i c hc;refine OKp.need.bind fun _ s2 N E hp=>TC fun s' q=>?_;obtain⟨h1,h2,h3,h4,B⟩:=hr s' q;refine⟨fun so h=>(by cases h),fun _=>rfl,fun _=>rfl,fun u j τ2 num nb L _ _ _=>h4 u j τ2 nb e (fun b p e=>by grind) ⟨fun _=>none,undef,.any _⟩ (fun e' J he n=>?_) fun b hb=>?_,fun h=>absurd rfl h⟩;rw[t]at he;cases he;rw[A]at n;cases n;exact Pw hc hp;grind;exact Tx;exact Tx
variable (P U) in
def fL (bl:Ah)(τ:Tau)(F:Ac)(s:SS):List Lf->As->Au->Ah->Prop
 | [],[],es,bs=>es=[]/\bs=[]
 |x::l,v::vs,es,bs=>∃r es' bs',es=W6 r.1 es'/\bs=W6 r.2 bs'/\LOK P U bl τ F s x v r/\fL bl τ F s l vs es' bs'|_,_,_,_=>False
def tP {τ:Tau}{F:Ac}(bl:Ah):∀(ps:List Lf) (vs:As) (s:SS),OKp U (mtL U bl ps vs) s fun r=>∀s',s'.h=s.h->fL P U bl τ F s' ps vs r.1 r.2
 | [],[],s=>TC fun _ _=>⟨rfl,rfl⟩
 | [],_::_,s=>Tx|_::_,[],s=>Tx|p::ps,v::vs,s=>by exact(NC (P:=P) (τ:=τ) (F:=F) bl p v).bind fun r s1 e _ h1=>(tP (τ:=τ) (F:=F) bl ps vs s1).bind fun t s2 g _ h2=>TC fun s' d=>⟨r,t.1,t.2,rfl,rfl,h1 s' d,h2 s' (by rw[d,e.h])⟩
section
variable {bl :Ah}{τ:Tau}{F:Ac}{s:SS}
def Lf.blk_none {x:Lf}(h:x.na=0)(d:E):x.blk d=none:=by
 cases x with
 |g k=>exact G.blk_none h .any d|_=>rfl
theorem CM {x:Lf}{ps:List Lf}{v:SV}{r:Bb E×Ai}{n ds:Au}(h:LOK P U bl τ F s x v r)(m:cT U (m8 (x::ps)) (W6 r.1 n) ds):(∀e so,r.1=some e->x.so=some so->mV U so e (hd1 ds))/\cT U (m8 ps) n (De x ds)/\(∀b,r.2=some b->x.na=1)/\(x.na=0\/x.na=1):=by
 obtain⟨q,t,u,y,z⟩:=h;have p:x.na=0\/x.na=1:=by
  cases x with
  |g k=>exact k.na_le|_=>exact .inl rfl
 refine⟨?_,?_,fun b hb=>?_,p⟩
 ·intro e so he j;unfold m8 at m;rw[j,he]at m;cases ds with
  |nil=>exact m.elim|cons d ds=>exact m.1
 ·unfold m8 at m;cases j:x.so with
  |none=>rw[j,t j]at m;unfold De;rw[j];exact m|some so=>
   obtain⟨e,he⟩:=q so j;rw[j,he]at m;cases ds with
   |nil=>exact m.elim|cons d ds=>unfold De;rw[j];exact m.2
 grind
theorem fL.vals :∀ {ps:List Lf} {vs:As} {es:Au} {bs:Ah} {ds:Au} {xs:Af} {τ2:Tau} {num:Nat->Nat} {nb:Nat},fL P U bl τ F s ps vs es bs->cT U (m8 ps) es ds->(∀i b,bl[i]? =some b->τ2 (num i)=τ b)->(∀k b,bs[k]? =some b->τ2 (nb+k)=τ b)->VDL P U τ F vs xs->VDL P U τ2 F (Ih num ps ds nb) xs
 | [], [], es, bs, ds, xs, τ2, num, nb, h,  e, hk, hb, hx => by have:=QP hx.1.symm;subst this;exact TY| [],_::_,es,bs,ds,xs,τ2,num,nb,h,e,hk,hb,hx=>h.elim|x::ps,[],es,bs,ds,xs,τ2,num,nb,h,e,hk,hb,hx=>h.elim|x::ps,v::vs,es,bs,ds,xs,τ2,num,nb,h,e,hk,hb,hx=>by obtain⟨r,m,j,rfl,rfl,hm,g⟩:=h;obtain⟨y,ys,rfl,h1,h2⟩:=hx.uncons;obtain⟨s1,s2,p,n⟩:=CM hm e;refine .cons (hm.2.2.2.1 y h1 τ2 num nb (hd1 ds) hk s1 fun b hr=>?_) (fL.vals g s2 hk (fun k b d=>?_) h2);have:=hb 0 b (by rw[hr];rfl);grind;rcases n with h0|h0;rw[h0,Sf];have hr:=hm.2.2.1 h0;rw[hr]at hb;exact hb k b d;obtain⟨so,_,b',L,x',hr,_⟩:=hm.2.2.2.2 (by omega);rw[hr]at hb;have:=hb (k+1) b d;grind
theorem fL.blks :∀ {ps:List Lf} {vs:As} {es:Au} {bs:Ah} {ds:Au} {nb:Nat},fL P U bl τ F s ps vs es bs->cT U (m8 ps) es ds-> ∀b' y,lk (Q0 ps ds nb) b'=some y-> ∃k b X x',b'=nb+k/\bs[k]? =some b/\y=some X/\s.get b=some x'/\(∀(τ2:Tau) o z,BD P U τ F o x' z->BD P U τ2 F o X z)/\(E3 P U x'->E3 P U X)
 | [],vs,es,bs,ds,nb,h,j=>fun b' y hy=>by simp[Q0,lk]at hy
 |x::ps,[],es,bs,ds,nb,h,j=>h.elim|x::ps,v::vs,es,bs,ds,nb,h,j=>by
  obtain⟨r,C,A,rfl,rfl,hm,m⟩:=h;obtain⟨s1,s2,K,G⟩:=CM hm j;intro b' y hy;have t:=fL.blks (nb:=nb+x.na) m s2;by_cases e:x.na=0
  ·have hr:=hm.2.2.1 e;have d:lk (Q0 ps (De x ds) (nb+x.na)) b'=some y:=by unfold Q0 at hy;rwa[Lf.blk_none e]at hy
   obtain⟨k,b,X,x',h1,h2⟩:=t b' y d;exact⟨k,b,X,x',by omega,by rw[hr];exact h2⟩
  ·have D:=G.resolve_left e;obtain⟨so,p,b0,L,x',hr,n,hx,g⟩:=hm.2.2.2.2 e;obtain⟨u,J,k1,k2⟩:=g (hd1 ds) (s1 L so n p);have d:lk ((nb,some u)::Q0 ps (De x ds) (nb+x.na)) b'=some y:=by unfold Q0 at hy;grind
   rw[z8]at d;split at d;rename_i B;simp at d;exact⟨0,b0,_,x',B.symm,by rw[hr];rfl,d.symm,hx,k1,k2⟩;obtain⟨k,b,X,q,h1,h2,h3⟩:=t b' y d;exact⟨k+1,b,X,q,by omega,by rw[hr];exact h2,h3⟩
theorem fL.live :∀ {ps:List Lf} {vs:As} {es:Au} {bs:Ah},fL P U bl τ F s ps vs es bs-> ∀ {k b:Nat},bs[k]? =some b-> ∃x,s.get b=some x
 | [],[],es,bs,h,k,b,hb=>by rw[h.2]at hb;simp at hb| [],_::_,es,bs,h,k,b,hb=>h.elim|p::ps,[],es,bs,h,k,b,hb=>h.elim|p::ps,v::vs,es,bs,h,k,b,hb=>by
  obtain⟨r,j,g,rfl,rfl,hm,d⟩:=h;cases hr:r.2 with
  |none=>rw[hr]at hb;exact d.live hb|some b0=>
   rw[hr]at hb;cases k with
   |succ k=>exact d.live hb|zero=>
    have e:p.na≠0:=fun h0=>by rw[hm.2.2.1 h0]at hr;cases hr
    obtain⟨so,_,m,L,x',h1,_,hx,_⟩:=hm.2.2.2.2 e;rw[hr]at h1;have e0:b0=b:=by simpa [W6]using hb
    grind
def fL.len :∀ {ps:List Lf} {vs:As} {es:Au} {bs:Ah},fL P U bl τ F s ps vs es bs->es.length=(m8 ps).length
 | [],[],es,bs,h=>by rw[h.1];rfl| [],_::_,es,bs,h=>h.elim|p::ps,[],es,bs,h=>h.elim|p::ps,v::vs,es,bs,h=>by
  obtain⟨r,m,k,rfl,rfl,hm,g⟩:=h;have j:=g.len;unfold m8;cases d:p.so with
  |none=>rw[hm.2.1 d];exact j|some so=>obtain⟨e,he⟩:=hm.1 so d;rw[he];simp only[W6,RC,j]
end
inductive Vs where
 |one (l:Lf)
 |agg (ls:List Lf)
def Vs.lfs :Vs->List Lf
 | .one l=>[l]
 | .agg ls=>ls
def Vs.fl :Vs->SV->Bb (As)
 | .one _,v=>some [v]| .agg ls,.agg l=>bif Nat.beq l.length ls.length then some l else none|_,_=>none
def hdV :As->SV
 | []=>.any|v::_=>v
def Vs.mk :Vs->As->SV
 | .one _,l=>hdV l| .agg _,l=>.agg l
def mD :List Vs->As->Bb (As)
 | [],[]=>some []|a::r,v::vs=>match a.fl v with
  |some l=>match mD r vs with
   |some m=>some (l++m)|none=>none
  |none=>none
 |_,_=>none
def C8 :List Vs->List Lf
 | []=>[]
 |a::r=>a.lfs++C8 r
def AH :List Vs->As->As
 | [],_=>[]
 |a::r,fl=>a.mk (fl.take a.lfs.length)::AH r (fl.drop a.lfs.length)
theorem VDL.split {d:As}{xs ys:Af}(h:VDL P U τ F d (xs++ys)):VDL P U τ F (d.take xs.length) xs/\VDL P U τ F (d.drop xs.length) ys:=by
 induction xs generalizing d with
 |nil=>exact⟨by simpa using TY,by grind⟩|cons x xs g=>
  cases d with
  |nil=>have:=h.1;simp at this|cons a d=>obtain⟨y,j,e,h1,h2⟩:=h.uncons;cases e;obtain⟨k1,k2⟩:=g h2;exact⟨.cons h1 k1,k2⟩
variable {l:As}
theorem Vs.fl_ok {a:Vs}{v:SV}{x:Av}(h:a.fl v=some l)(hv:VD P U τ F v x):∃xs,VDL P U τ F l xs/\xs.length=a.lfs.length/\ ∀(τ2:Tau) g d,VDL P U τ2 g d xs->VD P U τ2 g (a.mk d) x:=by
 cases a with
 |one k=>
  simp only[Vs.fl,QI]at h;subst h;refine⟨[x],.cons hv .nil,rfl,fun τ2 g d hg=>?_⟩;cases d with
  |nil=>have:=hg.1;simp at this|cons b d=>obtain⟨y,ys,e,h1,_⟩:=hg.uncons;cases e;exact h1
 |agg ls=>
  unfold Vs.fl at h;split at h;grind
  ·rename_i j m hh;cases hh;cases hc:Nat.beq m.length ls.length with
   |false=>grind|true=>
    rw[hc,Ra,QI]at h;subst h;cases hv with
    |agg _ xs h1 h2=>exact⟨xs,⟨h1,h2⟩,by rw[<-h1];exact QN hc,fun τ2 g d hg=>.agg d xs hg.1 hg.2⟩
  cases h
def mE {τ:Tau}{F:Ac}:∀ {as:List Vs} {vs fl:As} {args:Af},mD as vs=some fl->VDL P U τ F vs args-> ∃g,VDL P U τ F fl g/\g.length=(C8 as).length/\ ∀(τ2:Tau) e j rest,VDL P U τ2 e j g->VDL P U τ2 e (AH as (j++rest)) args
 | [],[],fl,args,h,hv=>by simp only[mD,QI]at h;subst h;have:=QP hv.1.symm;subst this;exact⟨[],.nil,rfl,fun _ _ _ _ _=>.nil⟩| [],_::_,fl,args,h,hv=>by simp[mD]at h|_::_,[],fl,args,h,hv=>by simp[mD]at h|a::r,v::vs,fl,args,h,hv=>by
  unfold mD at h;split at h
  ·rename_i l hl;split at h
   ·rename_i m hm;cases h;obtain⟨y,ys,rfl,h1,h2⟩:=hv.uncons;obtain⟨xs,k1,k2,k3⟩:=Vs.fl_ok hl h1;obtain⟨g,p,q,t⟩:=mE hm h2;refine⟨xs++g,k1.append p,by simp[C8,k2,q],fun τ2 e j rest hg=>?_⟩;obtain⟨k,n⟩:=hg.split;have d:xs.length<=j.length:=by rw[hg.1];simp
    unfold AH;rw[<-k2,List.take_append_of_le_length d,List.drop_append_of_le_length d];exact .cons (k3 τ2 e _ k) (t τ2 e _ rest n)
   cases h
  cases h
def IV :List Vs->SV->Bb (As)
 | [_],a=>some [a]|_,.tup l=>some l|_,_=>none
def uD :List Vs->As->SV
 | [_],l=>hdV l|_,l=>.tup l
theorem Hw {res:List Vs}{a:SV}{v:Av}(h:IV res a=some l)(hv:VD P U τ F a v):∃xs,VDL P U τ F l xs/\ ∀(τ2:Tau) d j,VDL P U τ2 d j xs->VD P U τ2 d (uD res j) v:=by
 unfold IV at h;split at h
 ·simp at h;subst h;refine⟨[v],.cons hv .nil,fun τ2 d g hg=>?_⟩;cases g with
  |nil=>have:=hg.1;simp at this|cons b g=>obtain⟨y,ys,e,h1,_⟩:=hg.uncons;cases e;exact h1
 ·rename_i r m k;cases h;cases hv with
  |tup _ xs h1 h2=>refine⟨xs,⟨h1,h2⟩,fun τ2 d g hg=>?_⟩;unfold uD;split;grind;exact .tup g xs hg.1 hg.2
 cases h
abbrev bX:=Ax ×Nat×List Lf
def Iq :List bX->List Lf
 | []=>[]
 |a::r=>a.2.2++Iq r
def oF (s:SS):List bX->Ah->Bb (As)
 | [],[]=>some []|a::r,b::bs=>match s.get b with
  | some (.cells l e' z') => bif !(Nat.beq a.1 rgT) && Nat.beq a.1 e' && Nat.beq a.2.1 z' && Nat.beq l.length a.2.2.length then
    match oF s r bs with
    |some m=>some (l++m)|none=>none
   else none
  | some (.reg q L z) => bif Nat.beq q b && Nat.beq a.1 rgT && Nat.beq a.2.1 z && Nat.beq a.2.2.length 1 then
    match oF s r bs with
    |some m=>some (.rv L z::m)|none=>none
   else none
  |_=>none
 |_,_=>none
def mkB1 (n:Nat)(a:bX)(fl:As):Bb B6:=bif Nat.beq a.1 rgT then match fl with
  | .rv L z::_=>bif Nat.beq z a.2.1&&Nat.ble 1 z then some (.reg n L z)else none|_=>none
 else some (.cells (fl.take a.2.2.length) a.1 a.2.1)
def bJ (num:Nat->Nat):Nat->List bX->As->List (Nat×Bb B6)
 |_,[],_=>[]
 |i,a::r,fl=>(num i,mkB1 (num i) a fl)::bJ num (i+1) r (fl.drop a.2.2.length)
def BX (τ:Tau)(hp:Hp):List bX->Ah->Af->Prop
 | [],[],fx=>fx=[]
 | a :: r, b :: bs, fx => ∃ xs ys, fx = xs ++ ys ∧ xs.length = a.2.2.length ∧ (a.1 ≠ rgT ∧ (∃ i o cs n, τ b = some (some (i, o)) ∧ hp.m.get i = some (.cells cs n a.1 a.2.1) ∧ o + xs.length ≤ n ∧ ∀ (j : Nat) x, xs[j]? = some x → cs.get (o + j) = some x) ∨
   a.1=rgT/\τ b=some (some (0,0))/\ ∃(cs:Ao) (n:Nat) (vs:Af),hp.m.get 0=some (.reg cs n rgT a.2.1)/\xs=[.func (.func 0) vs.toArray #[]]/\vs.length=n*a.2.1/\ ∀(j:Nat) x,vs[j]? =some x->cs.get j=some x)/\BX τ hp r bs ys
 |_,_,_=>False
def BX.mono {τ':Tau}(ht:Tle τ τ'):∀ {r:List bX} {bs:Ah} {d:Af},BX τ hp r bs d->BX τ' hp r bs d
 | [],[],d,h=>h| [],_::_,d,h=>h.elim|_::_,[],d,h=>h.elim|a::r,b::bs,d,h=>by obtain⟨xs,ys,h1,h2,⟨h0,i,o,cs,n,h3,h4⟩| ⟨h0,h3,h4⟩,e⟩:=h;exact⟨xs,ys,h1,h2,.inl ⟨h0,i,o,cs,n,ht _ _ h3,h4⟩,e.mono ht⟩;exact⟨xs,ys,h1,h2,.inr ⟨h0,ht _ _ h3,h4⟩,e.mono ht⟩
theorem BX.len :∀ {r:List bX} {bs:Ah} {d:Af},BX τ hp r bs d->bs.length=r.length/\d.length=(Iq r).length
 | [],[],d,h=>by subst h;exact⟨rfl,rfl⟩| [],_::_,d,h=>h.elim|_::_,[],d,h=>h.elim|a::r,b::bs,d,h=>by obtain⟨xs,ys,rfl,h2,_,e⟩:=h;obtain⟨k1,k2⟩:=e.len;exact⟨by grind,by simp[Iq,h2,k2]⟩
theorem lY {τ:Tau}{F:Ac}{s:SS}{hp:Hp}(hs:SD P U τ F s hp):∀ {r:List bX} {bs:Ah} {fl:As},oF s r bs=some fl-> ∃p,VDL P U τ F fl p/\BX τ hp r bs p
 | [],[],fl,h=>by simp only[oF,QI]at h;subst h;exact⟨[],.nil,rfl⟩| [],_::_,fl,h=>by simp[oF]at h|_::_,[],fl,h=>by simp[oF]at h|a::r,b::bs,fl,h=>by
  unfold oF at h;split at h
  ·rename_i l e' V hb;cases hc: !(Nat.beq a.1 rgT)&&Nat.beq a.1 e'&&Nat.beq a.2.1 V&&Nat.beq l.length a.2.2.length with
   |false=>grind|true=>
    rw [hc, Ra] at h;simp only [QJ,Rz,RG] at hc;obtain ⟨⟨⟨g,rfl⟩,rfl⟩,A⟩:=hc;have g : a.1 ≠ rgT:=fun e=>by rw [e,v9 rfl] at g; cases g
    split at h
    ·rename_i m hm;cases h;obtain⟨p,R,T⟩:=lY hs hm;rcases hs.live b _ hb with⟨i,o,y,h1,h2,h3,cs,n,rfl,h4,h5⟩| ⟨_,L,e',V,ph,h2,_⟩
     ·have t:∀j,∃x,∀a',l[j]? =some a'->cs.get (o+j)=some x/\VD P U τ F a' x:=by
       intro j;cases hj:l[j]? with
       |none=>exact⟨undef,fun a' e=>by cases e⟩|some a'=>simp_all
      obtain⟨ch,G⟩:=Classical.axiomOfChoice t;let xs:=(List.range l.length).map ch
      have u:xs.length=l.length:=by simp[xs]
      have M:∀(j:Nat) x,xs[j]? =some x-> ∃a',l[j]? =some a'/\x=ch j:=by
       intro j x hx;have hj:j<l.length:=by grind
       refine⟨l[j],QV hj,?_⟩;grind
      have hv:VDL P U τ F l xs:=⟨u.symm,fun j a' x Y hx=>by obtain⟨_,_,rfl⟩:=M j x hx;exact(G j a' Y).2⟩
      refine⟨xs++p,hv.append R,xs,p,rfl,by rw[u];exact A,.inl ⟨g,i,o,cs,n,h1,h2,by rw[u];exact h4,fun j x hx=>?_⟩,T⟩;grind
     cases h2
    cases h
  ·rename_i q L z hb;cases hc:Nat.beq q b&&Nat.beq a.1 rgT&&Nat.beq a.2.1 z&&Nat.beq a.2.2.length 1 with
   |false=>grind|true=>
    rw[hc,Ra]at h;simp only[QJ,Rz]at hc;obtain⟨⟨⟨rfl,h1⟩,h2⟩,h3⟩:=hc;split at h
    ·rename_i m hm;cases h;obtain⟨p,R,T⟩:=lY hs hm;rcases hs.live q _ hb with⟨i,o,y,k1,k2,k3,k4,W,cs,k6,k7,k8,X,D⟩| ⟨_,L,e',V,ph,h2,_⟩
     ·rw[W]at k1;cases k1;subst k6;let N:=(L.toR U).length*z
      let vs:=(List.range N).map fun j=>(cs.get j).getD undef
      have C:vs.length=N:=by simp[vs]
      have aa:∀(j:Nat),j<N->vs[j]? =some ((cs.get j).getD undef):=fun j hj=>by simp only[vs,RL,List.getElem?_range hj,RE]
      have O:∀j,j<N-> ∃x,cs.get j=some x:=by
       intro j hj;have hz:0<z:=by grind
       have hr:j/z<(L.toR U).length:=(Nat.div_lt_iff_lt_mul hz).2 hj;have B:(L.toR U)[j/z]? =some (L.toR U)[j/z]:=by simp[hr]
       have hl:=X _ (Ta hr);have hk:j % z<z:=Nat.mod_lt _ hz;obtain⟨x,E,_⟩:=D _ _ _ _ B (QV (by rw[hl];exact hk));exact⟨x,by rw[<-E];congr 1;rw[Rr,Nat.mul_comm];exact(Nat.div_add_mod j z).symm⟩
      have J:RowsIn P F z vs (L.toR U):=by
       refine⟨C,k8,X,fun r k row d hr hk=>?_⟩;obtain⟨x,E,e2⟩:=D r k row d hr hk;rw[Rr]at E;have K:=(QL.1 hr).1;have Z:k<z:=by grind
       have:=QW z (show r+1<=(L.toR U).length from K);grind
      refine⟨.func (.func 0) vs.toArray #[]::p,.cons (.rv L z vs J) R,[_],p,rfl,h3.symm,.inr ⟨h1,W,cs,_,vs,by rw[h2];exact k2,rfl,by rw[h2];exact C,fun j x hx=>?_⟩,T⟩;grind
     cases h2
    cases h
  cases h
theorem AG {τ τ2:Tau}{F:Ac}{hp:Hp}{num:Nat->Nat}{rest:As}:∀ {r:List bX} {bs:Ah} {B:Af} {p:As} {i0:Nat},BX τ hp r bs B->VDL P U τ2 F p B->(∀j b,bs[j]? =some b->τ2 (num (i0+j))=τ b)-> ∀ {b:Nat} {X:B6},lk (bJ num i0 r (p++rest)) b=some (some X)-> ∃j D i o Y,b=num (i0+j)/\bs[j]? =some D/\ ¬E3 P U X/\τ D=some (some (i,o))/\hp.m.get i=some Y/\BD P U τ2 F o X Y
 | [],[],B,p,i0,h,hv,hn,b,y,hy=>by simp[bJ,lk]at hy| [],_::_,B,p,i0,h,hv,hn,b,y,hy=>h.elim|_::_,[],B,p,i0,h,hv,hn,b,y,hy=>h.elim|a::r,b0::bs,B,p,i0,h,hv,hn,b,y,hy=>by
  obtain⟨xs,ys,rfl,h2,t,W⟩:=h;obtain⟨G,R⟩:=hv.split;have q:xs.length<=p.length:=by rw[hv.1];simp
  unfold bJ at hy;rw[<-h2,List.drop_append_of_le_length q,z8]at hy;split at hy
  ·rename_i e;simp only[QI]at hy;rcases t with⟨h0,i,o,cs,n,h3,h4,J,V⟩| ⟨h0,h3,cs,n,vs,h4,rfl,J,V⟩;unfold mkB1 at hy;rw[z6 h0,Rb,<-h2,List.take_append_of_le_length q,QI]at hy;subst hy;refine⟨0,b0,i,o,_,e.symm,rfl,?_,h3,h4,?_⟩;rintro ⟨L,e',z',ph,hh,_⟩;cases hh;refine⟨cs,n,rfl,by rw[G.1];exact J,fun j a' Z=>?_⟩;obtain⟨x,hx,aa⟩:=G.get Z;grind
   ·have hh:=G;cases p with
    |nil=>grind|cons g T=>
     obtain⟨_,_,E,hg,_⟩:=hv.uncons;cases E;unfold mkB1 at hy;rw[h0,v9 rfl,Ra]at hy;split at hy
     ·rename_i L z _ K;cases K;cases hc:Nat.beq z a.2.1&&Nat.ble 1 z with
      |false=>grind|true=>
       rw[hc,Ra,QI]at hy;subst hy;simp only[QJ,Rz,RQ]at hc;obtain⟨hz,M⟩:=hc;refine⟨0,b0,0,0,_,e.symm,rfl,?_,h3,h4,rfl,(hn 0 b0 rfl).trans h3,cs,?_,?_⟩;rintro ⟨L',e',z',ph,hh,_⟩;cases hh
       ·generalize u:Value.func (.func 0) vs.toArray #[]=fv at hg;cases hg with
        |rv _ _ xs A=>
         injection u with _ C _;have C:vs=xs:=by grind
         subst C;have:=A.1;rw[J,<-hz]at this;rw[Nat.eq_of_mul_eq_mul_right M this,hz]
       ·generalize u:Value.func (.func 0) vs.toArray #[]=fv at hg;cases hg with
        |rv _ _ xs A=>
         injection u with _ C _;have C:vs=xs:=by grind
         subst C;obtain⟨k1,k2,k3,k4⟩:=A;refine⟨by omega,k2,k3,fun r k row d hr hk=>?_⟩;grind
     cases hy
  obtain⟨j,D,i',o',Y,E,N,O⟩:=AG W R (fun j b hb=>by have:=hn (j+1) b hb;rw[show i0+1+j=i0+(j+1) by omega];exact this) hy;exact⟨j+1,D,i',o',Y,by rw[E];congr 1;omega,N,O⟩
theorem tK {num:Nat->Nat}:∀ {r:List bX} {fl:As} {i0 j:Nat},j<r.length->num (i0+j)∈(bJ num i0 r fl).map Prod.fst
 | [],fl,i0,j,h=>by grind|a::r,fl,i0,0,h=>by simp[bJ]|a::r,fl,i0,j+1,h=>by simp only[bJ,RM,Rx];have:=tK (num:=num) (fl:=fl.drop a.2.2.length) (i0:=i0+1) (by simpa using h);grind
end
structure Con where
 name:String
 args:List Vs
 blks:List bX
 find:As->SS->Bb (Ah)
 pre:Ar->Prop
 res:List Vs
 post:List bX
 find':SV->SS->Bb (Ah)
 rel:Ar->Ar->Prop
def Con.inL (c:Con):List Lf:=C8 c.args++Iq c.blks
def Con.outL (c:Con):List Lf:=C8 c.res++Iq c.post
def U8 :Nat->Nat->Ah
 |_,0=>[]
 |i,n+1=>i::U8 (i+1) n
def D7 :∀(n i:Nat),(U8 i n).length=n
 |0,_=>rfl|n+1,i=>by simp[U8,D7 n]
theorem gJ :∀(n i k:Nat),(U8 i n)[k]? =if k<n then some (i+k)else none
 |0,i,k=>rfl|n+1,i,0=>rfl|n+1,i,k+1=>by simp only[U8,QU,gJ n (i+1) k];grind
def idN :Nat->Nat:=fun i=>i
def mG (c:Con)(es:Au):As:=Ih idN c.inL es c.blks.length
def fZ (c:Con)(es:Au):As:=AH c.args (mG c es)
def gst (c:Con)(es:Au)(fv:Nat):SS:=⟨bJ idN 0 c.blks ((mG c es).drop (C8 c.args).length)++Q0 c.inL es c.blks.length,c.blks.length+E5 c.inL,[],fv,[]⟩
def rA (τ:Tau)(ns:Ah):Tau:=fun b=>match ns[b]? with
 |some b'=>τ b'|none=>none
def V8 (c:Con)(bl:Ah)(n:Nat)(i:Nat):Nat:=bif Nat.ble (i+1) c.blks.length then bl.getD i 0 else n+(i-c.blks.length)
def R6 (c:Con)(es:Au)(s:SS)(bl:Ah):As:=Ih (V8 c bl s.nx) c.outL es (s.nx+(c.post.length-c.blks.length))
def fst_ (c:Con)(es:Au)(s:SS)(bl kill:Ah):SS:=
 ⟨bJ (V8 c bl s.nx) 0 c.post ((R6 c es s bl).drop (C8 c.res).length)++(Q0 c.outL es (s.nx+(c.post.length-c.blks.length))++(W4 (kill++(bl++ [s.nx]))++s.h)),s.nx+(c.post.length-c.blks.length)+E5 c.outL,s.fc,s.fv+(m8 c.outL).length,s.fz⟩
def tA (s:SS)(b:Nat):Bool:=(s.get b).isSome
section
variable (P :Aw)(U:Ab)
def cfin (c:Con)(es:Au)(a:SV):M Unit:=t9 fun s=>match IV c.res a with
 |none=>a8 "contract: result"|some l=>match mD c.res l with
  |none=>a8 "contract: results"|some fl1=>match c.find' a s with
   |none=>a8 "contract: new blocks"|some nw=>match oF s c.post (U8 0 c.blks.length++nw)with
    |none=>a8 "contract: blocks behind"|some fl2=>b9 (yC P U c.outL (fl1++fl2)) fun vs=>b9 (mtL U (U8 0 c.blks.length++nw) c.outL vs) fun t=>t9 fun s2=>
     bif (U8 0 c.blks.length++nw).all (tA s2)&&cH (nw++t.2)&&nw.all (Nat.ble (c.blks.length+E5 c.inL))&&t.2.all (Nat.ble c.blks.length)&&Nat.beq t.2.length (E5 c.outL)&&Nat.beq (nw.length+c.blks.length) c.post.length then
      fun _=>.need (.pt (c.name++ "Rel") [(m8 c.inL).zip es,(m8 c.outL).zip t.1]) (c.rel (t6 U (m8 c.inL) es) (t6 U (m8 c.outL) t.1)) .done
     else a8 "contract: the end"
def cvc (c:Con)(run:As->M SV):Tr (Unit×SS):=
 Ce (m8 c.inL) 0 fun es=>.asm (.pt (c.name++ "Pre") [(m8 c.inL).zip es]) (c.pre (t6 U (m8 c.inL) es)) ((b9 (run (fZ c es)) (cfin P U c es)) (gst c es (m8 c.inL).length))
def EY (c:Con)(args:As):M SV:=t9 fun s0=>match mD c.args args with
 |none=>a8 "contract: arguments"|some fl1=>match c.find args s0 with
  |none=>a8 "contract: no blocks"|some bl=>match oF s0 c.blks bl with
   |none=>a8 "contract: blocks"|some fl2=>b9 (yC P U c.inL (fl1++fl2)) fun vs=>b9 (mtL U bl c.inL vs) fun t=>t9 fun s1=>
    bif bl.all (tA s1)&&cH (bl++t.2)&&Nat.beq t.2.length (E5 c.inL)&&Nat.ble c.blks.length c.post.length then
     fun _=>.need (.pt (c.name++ "Pre") [(m8 c.inL).zip t.1]) (c.pre (t6 U (m8 c.inL) t.1)) (Ce (m8 c.outL) s1.fv fun ds=>.asm (.pt (c.name++ "Rel") [(m8 c.inL).zip t.1,(m8 c.outL).zip ds]) (c.rel (t6 U (m8 c.inL) t.1) (t6 U (m8 c.outL) ds))
      (.ret (uD c.res (AH c.res (R6 c ds s1 bl)),fst_ c ds s1 bl t.2)))
    else a8 "contract: the start"
end
section
variable {P :Aw}{U:Ab}{ov:Aa}
def oN {s:SS}{b:Nat}(h:tA s b=true):∃x,s.get b=some x:=Option.isSome_iff_exists.1 h
def N7 {τ:Tau}{d:Ah}{b b':Nat}(h:d[b]? =some b'):rA τ d b=τ b':=by unfold rA;rw[h]
variable {c:Con}
theorem KI {τ:Tau}{F:Ac}{s:SS}{hp:Hp}{vs:As}{u A:Af}{bl d:Ah}{es ds:Au}{fv:Nat}(hs:SD P U τ F s hp)(hv:VDL P U τ F vs (u++A))(h1:u.length=(C8 c.args).length)(hb:BX τ hp c.blks bl A)(hm:fL P U bl τ F s c.inL vs es d)(hd:cH (bl++d)=true)(p:∀b∈bl,∃x,s.get b=some x)(hn:d.length=E5 c.inL)(J:cT U (m8 c.inL) es ds):SD P U (rA τ (bl++d)) F (gst c ds fv) hp/\VDL P U (rA τ (bl++d)) F (mG c ds) (u++A)/\ ∀b x,(gst c ds fv).get b=some x-> ∃b' x',(bl++d)[b]? =some b'/\s.get b'=some x':=by
 have aa:bl.length=c.blks.length:=hb.len.1;have V:∀i b,bl[i]? =some b->(bl++d)[i]? =some b:=fun i b h=>by rw[QS (QL.1 h).1];exact h
 have W:∀k b,d[k]? =some b->(bl++d)[c.blks.length+k]? =some b:=fun k b h=>by grind
 have r:VDL P U (rA τ (bl++d)) F (mG c ds) (u++A):=hm.vals J (fun i b h=>N7 (V i b h)) (fun k b h=>N7 (W k b h)) hv;obtain⟨_,Z⟩:=r.split;rw[h1]at Z;have X:=hm.blks (nb:=c.blks.length) J;have C:∀b x,(gst c ds fv).get b=some x->
   (∃b' i o Y,bl[b]? =some b'/\ ¬E3 P U x/\τ b'=some (some (i,o))/\hp.m.get i=some Y/\BD P U (rA τ (bl++d)) F o x Y)\/
   (∃k b' x',b=c.blks.length+k/\d[k]? =some b'/\s.get b'=some x'/\(∀(τ2:Tau) o z,BD P U τ F o x' z->BD P U τ2 F o x z)/\(E3 P U x'->E3 P U x)):=by
  intro b x g;have n:(match lk (bJ idN 0 c.blks ((mG c ds).drop (C8 c.args).length)++Q0 c.inL ds c.blks.length) b with|some x=>x|none=>none)=some x:=g;rw[J5]at n;cases N:lk (bJ idN 0 c.blks ((mG c ds).drop (C8 c.args).length)) b with
  |some y=>
   rw[N]at n;simp only at n;subst n;rw[<-SM ((mG c ds).drop (C8 c.args).length)]at N;obtain⟨j,bj,i,o,Y,t,B,L,M,e6,e7⟩:=AG hb Z (fun j b hj=>by rw[Rr];exact N7 (V j b hj)) N;have:b=j:=by rw[t];show 0+j=j;omega
   grind
  |none=>grind
 have src:∀b x,(gst c ds fv).get b=some x-> ∃b' x',(bl++d)[b]? =some b'/\s.get b'=some x':=by intro b x g;rcases C b x g with⟨b',i,o,Y,t,_⟩| ⟨k,b',x',rfl,B,D,_⟩;obtain⟨x',K⟩:=p b' (QT t);grind;grind
 refine⟨⟨fun b x g=>?_,fun b b2 x y i o j q g O R t B=>?_,hs.frz,fun b i o h=>?_,hs.flt,fun b G=>?_,(fun _ _ h=>by cases h),fun _ h=>by cases h⟩,r,src⟩;rcases C b x g with⟨b',i,o,Y,t,B,D,L,M⟩| ⟨k,b',x',rfl,B,D,L,M⟩;obtain⟨x',K⟩:=p b' (QT t);rcases hs.live b' x' K with⟨i',o',y',k1,_,k3,_⟩| ⟨k1,_⟩;rw[D]at k1;cases k1;exact .inl ⟨i,o,Y,by rw[N7 (V b b' t)];exact D,L,k3,M⟩;grind;rcases hs.live b' x' D with⟨i,o,y,k1,k2,k3,T⟩| ⟨k1,k2⟩;exact .inl ⟨i,o,y,by rw[N7 (W k b' B)];exact k1,k2,k3,L _ o y T⟩;exact .inr ⟨by rw[N7 (W k b' B)];exact k1,M k2⟩;obtain⟨b',x',k1,k2⟩:=src b x g;obtain⟨c',y',k3,T⟩:=src b2 y O;rw[N7 k1]at t;rw[N7 k3]at B;refine hs.inj b' c' x' y' i o j q k2 T (fun e=>?_) t B;subst e;exact R (cJ hd b b2 b' k1 k3);unfold rA at h;split at h;exact hs.lt _ i o h;cases h;have G:c.blks.length+E5 c.inL<=b:=G;unfold rA;grind
variable (P U) in
def RX (c:Con)(X:Af->Hp->Av->Hp->Prop)(es:Au)(τ:Tau)(F:Ac)(hp:Hp)(xs:Af):Prop:=
 ∃v τ' F' s' hp' vs fx1 fx2 es' nw accs,X xs hp v hp'/\Ext τ F (gst c (D4 U (m8 c.inL) 0 es) (m8 c.inL).length) hp τ' F' s' hp'/\SD P U τ' F' s' hp'/\VDL P U τ' F' vs (fx1++fx2)/\fx1.length=(C8 c.res).length/\
  (∀(τ2:Tau) F2 gl rest,VDL P U τ2 F2 gl fx1->VD P U τ2 F2 (uD c.res (AH c.res (gl++rest))) v)/\BX τ' hp' c.post (U8 0 c.blks.length++nw) fx2/\fL P U (U8 0 c.blks.length++nw) τ' F' s' c.outL vs es' accs/\
  (∀b∈U8 0 c.blks.length++nw,∃x,s'.get b=some x)/\cH (nw++accs)=true/\(∀b∈nw,c.blks.length+E5 c.inL<=b)/\(∀b∈accs,c.blks.length<=b)/\accs.length=E5 c.outL/\nw.length+c.blks.length=c.post.length/\
  c.rel (t6 U (m8 c.inL) es) (t6 U (m8 c.outL) es')
variable (P U) in
def Pp (c:Con)(Pm:Af->Prop)(X:Af->Hp->Av->Hp->Prop):Prop:=∀(es:Au),es.length=(m8 c.inL).length->c.pre (t6 U (m8 c.inL) es)-> ∀τ F hp xs,SD P U τ F (gst c (D4 U (m8 c.inL) 0 es) (m8 c.inL).length) hp->VDL P U τ F (fZ c (D4 U (m8 c.inL) 0 es)) xs->Pm xs->RX P U c X es τ F hp xs
variable (P U ov) in
def p9 (c:Con)(g:Ay):Prop:=∀(es:Au),es.length=(m8 c.inL).length->c.pre (t6 U (m8 c.inL) es)-> ∀τ F hp xs,SD P U τ F (gst c (D4 U (m8 c.inL) 0 es) (m8 c.inL).length) hp->VDL P U τ F (fZ c (D4 U (m8 c.inL) 0 es)) xs->RX P U c (W8 P ov g) es τ F hp xs
def IW {run:As->M SV}{Pm:Af->Prop}{X:Af->Hp->Av->Hp->Prop}(u:∀es τ F hp xs,VDL P U τ F (fZ c es) xs->Pm xs->SD P U τ F (gst c es (m8 c.inL).length) hp->OKh P U (run (fZ c es)) τ F (gst c es (m8 c.inL).length) hp fun a τ' F' hp'=>∃v,X xs hp v hp'/\VD P U τ' F' a v)(aa:(cvc P U c run).vc U fun _=>True):Pp P U c Pm X:=by
 intro es e r τ F hp xs hs hx W;unfold RX;have hq:=hK _ _ _ aa es e;have hq:=hq (by rw[I3 _ _ _ e];exact r);generalize hds:D4 U (m8 c.inL) 0 es=ds at*;rw[A3]at hq;obtain⟨a,s1,hq,τ1,F1,hp1,D,hs1,v,j,Z⟩:=u _ τ F hp xs hx W hs _ hq hs;simp only[cfin,t9]at hq;cases z:IV c.res a with
 |none=>rw[z]at hq;exact hq.elim|some l=>
 rw[z]at hq;simp only at hq;cases A:mD c.res l with
 |none=>rw[A]at hq;exact hq.elim|some E=>
 rw[A]at hq;cases c3:c.find' a s1 with
 |none=>rw[c3]at hq;exact hq.elim|some nw=>
 rw[c3]at hq;simp only at hq;cases B:oF s1 c.post (U8 0 c.blks.length++nw)with
 |none=>rw[B]at hq;exact hq.elim|some G=>
 rw[B]at hq;obtain⟨us,R,T⟩:=Hw z Z;obtain⟨n,L,N,O⟩:=mE A R;obtain⟨p,J,K⟩:=lY hs1 B;rw[A3]at hq;obtain⟨vs,s2,hq,τ2,F2,hp2,m,k,rfl,ab⟩:=gI c.outL (E++G) (n++p) τ1 F1 s1 hp1 (L.append J) hs1 _ hq hs1;rw[A3]at hq;obtain⟨⟨C,d⟩,s3,hq,o3,q,V⟩:=tP (U8 0 c.blks.length++nw) c.outL vs s2 _ hq k.fc;simp only[t9]at hq;cases y:(U8 0 c.blks.length++nw).all (tA s3)&&cH (nw++d)&&nw.all (Nat.ble (c.blks.length+E5 c.inL))&&d.all (Nat.ble c.blks.length)&&Nat.beq d.length (E5 c.outL)&&Nat.beq (nw.length+c.blks.length) c.post.length with
 |false=>rw[y]at hq;exact hq.elim|true=>
 rw[y]at hq;simp only[QJ,Rq,RQ,Rz]at y;obtain⟨⟨⟨⟨⟨k1,k2⟩,k3⟩,k4⟩,k5⟩,k6⟩:=y;have g:=hq.1;have hd:t6 U (m8 c.inL) ds=t6 U (m8 c.inL) es:=by rw[<-hds];exact I3 _ _ _ e
 rw[hd]at g;have Y:=k.only o3 q;exact⟨v,τ2,F2,s3,hp2,vs,n,p,C,nw,d,j,D.trans (m.trans (Tm k o3)),Y,ab,N,fun x F3 gl rest hg=>T x F3 _ (O x F3 gl rest hg),K.mono m.t,V s3 o3.h,
  fun b hb=>oN (k1 b hb),k2,k3,k4,k5,k6,g⟩
def yM {run:As->M SV}{g:Ay}(h:A5 P U ov run g)(j:(cvc P U c run).vc U fun _=>True):p9 P U ov c g:=
 fun es d e τ F hp xs hs hx=>IW (Pm:=fun _=>True) (fun es τ F hp xs hl _ hs=>h _ xs τ F _ hp hl hs) j es d e τ F hp xs hs hx trivial
end
section
variable {P :Aw}{U:Ab}{ov:Aa}
variable {c:Con}{bl:Ah}
def rJ {n i b:Nat}(hi:i<c.blks.length)(h:bl[i]? =some b):V8 c bl n i=b:=by unfold V8;rw[QQ hi,Ra,List.getD,h];rfl
theorem rI {n k:Nat}:V8 c bl n (c.blks.length+k)=n+k:=by
 unfold V8;have:Nat.ble (c.blks.length+k+1) c.blks.length=false:=by
  cases h:Nat.ble (c.blks.length+k+1) c.blks.length with
  |false=>rfl|true=>simp_all;omega
 grind
theorem Px {τ1:Tau}{F1:Ac}{s1:SS}{hp1:Hp}{kill:Ah}{G:Au}{fv:Nat}{τ':Tau}{F':Ac}{s':SS}{hp':Hp}{vs:As}{V W:Af}{es ds:Au}{nw d:Ah}(hs1:SD P U τ1 F1 s1 hp1)(bn:bl.length=c.blks.length)(bq:kill.length=E5 c.inL)(aq:∀b∈bl++kill,∃x,s1.get b=some x)(_:cH (bl++kill)=true)(bg:∀b x,(gst c G fv).get b=some x-> ∃b' x',(bl++kill)[b]? =some b'/\s1.get b'=some x')(ex:Ext (rA τ1 (bl++kill)) F1 (gst c G fv) hp1 τ' F' s' hp')(hs:SD P U τ' F' s' hp')(hv:VDL P U τ' F' vs (V++W))(bp:V.length=(C8 c.res).length)(hb:BX τ' hp' c.post (U8 0 c.blks.length++nw) W)(hm:fL P U (U8 0 c.blks.length++nw) τ' F' s' c.outL vs es d)(hl:∀b∈U8 0 c.blks.length++nw,∃x,s'.get b=some x)(hd:cH (nw++d)=true)(ce:∀b∈nw,c.blks.length+E5 c.inL<=b)(ca:∀b∈d,c.blks.length<=b)(bu:d.length=E5 c.outL)(cd:nw.length+c.blks.length=c.post.length)(be:cT U (m8 c.outL) es ds):SD P U (J2 τ1 τ' s1.nx (nw++d)) F' (fst_ c ds s1 bl kill) hp'/\Ext τ1 F1 s1 hp1 (J2 τ1 τ' s1.nx (nw++d)) F' (fst_ c ds s1 bl kill) hp'/\VDL P U (J2 τ1 τ' s1.nx (nw++d)) F' (R6 c ds s1 bl) (V++W):=by
 have bc:c.post.length-c.blks.length=nw.length:=by omega
 have ax:(gst c G fv).nx=(bl++kill).length:=by show c.blks.length+E5 c.inL=_;rw[Rn,bn,bq]
 have ao:∀b x,s1.get b=some x->b<s1.nx:=fun b x h=>hs1.bound h;have av:∀b p,τ1 b=some p->b<s1.nx:=fun b p hb=>Nat.lt_of_not_le fun aa=>by rw[hs1.new b aa]at hb;cases hb
 have lo:∀b,b<s1.nx->J2 τ1 τ' s1.nx (nw++d) b=τ1 b:=fun b hb=>eA hb;have bk:∀k b,(bl++kill)[k]? =some b->b<s1.nx/\τ' k=τ1 b:=by intro k b h;obtain⟨x,hx⟩:=aq b (QT h);exact⟨ao b x hx,by rw[ex.st k (by rw[ax];exact(QL.1 h).1),N7 h]⟩
 have N:∀i b,(U8 0 c.blks.length++nw)[i]? =some b->J2 τ1 τ' s1.nx (nw++d) (V8 c bl s1.nx i)=τ' b:=by
  intro i b h;by_cases hi:i<c.blks.length
  ·rw[QS (by rw[D7];exact hi),gJ,Rh hi,Rr]at h;cases h;have Z:bl[i]? =some (bl[i]'(by omega)):=QV (by omega);have bv:(bl++kill)[i]? =some (bl[i]'(by omega)):=by grind
   obtain⟨k1,k2⟩:=bk i _ bv;rw[rJ hi Z,lo _ k1,k2]
  ·rw[QR (by rw[D7];omega),D7]at h;obtain⟨k,rfl⟩:∃k,i=c.blks.length+k:=⟨i-c.blks.length,by omega⟩
   rw[Sr]at h;rw[rI];exact iO (by rw[QS (QL.1 h).1];exact h)
 have ay:∀k b,d[k]? =some b->J2 τ1 τ' s1.nx (nw++d) (s1.nx+(c.post.length-c.blks.length)+k)=τ' b:=by intro k b h;rw[bc,RW];exact iO (by rw[QR (by omega),Sr];exact h)
 have R:VDL P U (J2 τ1 τ' s1.nx (nw++d)) F' (R6 c ds s1 bl) (V++W):=hm.vals be N ay hv;obtain⟨_,v2⟩:=R.split;rw[bp]at v2;have ba:=hm.blks (nb:=s1.nx+(c.post.length-c.blks.length)) be;have O:Tle τ1 (J2 τ1 τ' s1.nx (nw++d)):=fun b p hb=>by rw[lo b (av b p hb)];exact hb
 have B:∀k b,(U8 0 c.blks.length++(nw++d))[k]? =some b->J2 τ1 τ' s1.nx (nw++d) (V8 c bl s1.nx k)=τ' b:=by
  intro k b h;by_cases hi:k<c.blks.length;refine N k b ?_;rw[QS (by rw[D7];exact hi)]at h⊢;exact h
  ·rw[QR (by rw[D7];omega),D7]at h;obtain⟨j,rfl⟩:∃j,k=c.blks.length+j:=⟨k-c.blks.length,by omega⟩
   rw[Sr]at h;rw[rI];exact iO h
 have aw:∀(k k':Nat) b,(U8 0 c.blks.length++(nw++d))[k]? =some b->(U8 0 c.blks.length++(nw++d))[k']? =some b->k=k':=by
  have hge:∀b∈nw++d,c.blks.length<=b:=fun b hb=>by grind
  intro k k' b h h';by_cases hk:k<c.blks.length;rw[QS (by rw[D7];exact hk),gJ,Rh hk,Rr]at h;cases h;by_cases L:k'<c.blks.length;rw[QS (by rw[D7];exact L),gJ,Rh L,Rr]at h';grind;rw[QR (by rw[D7];omega)]at h';have:=hge k (QT h');omega;rw[QR (by rw[D7];omega)]at h;by_cases L:k'<c.blks.length;rw[QS (by rw[D7];exact L),gJ,Rh L,Rr]at h';cases h';have:=hge k' (QT h);omega;rw[QR (by rw[D7];omega)]at h';have:=cJ hd _ _ b h h';rw[D7]at this;omega
 have J:∀b x,(fst_ c ds s1 bl kill).get b=some x->
   (∃k b',b=V8 c bl s1.nx k/\(U8 0 c.blks.length++(nw++d))[k]? =some b'/\(∃x',s'.get b'=some x')/\
    ((∃i o Y,τ' b'=some (some (i,o))/\hp'.m.get i=some Y/\F' i=none/\BD P U (J2 τ1 τ' s1.nx (nw++d)) F' o x Y)\/(τ' b'=some none/\E3 P U x)))\/
   (b<s1.nx/\b∉bl/\b∉kill/\s1.get b=some x):=by
  intro b x D;have g:(match lk (bJ (V8 c bl s1.nx) 0 c.post ((R6 c ds s1 bl).drop (C8 c.res).length)++(Q0 c.outL ds (s1.nx+(c.post.length-c.blks.length))++(W4 (kill++(bl++ [s1.nx]))++s1.h))) b with|some x=>x|none=>none)=some x:=D;rw[J5,J5,J5]at g;cases c1:lk (bJ (V8 c bl s1.nx) 0 c.post ((R6 c ds s1 bl).drop (C8 c.res).length)) b with
  |some y=>
   rw[c1]at g;simp only at g;subst g;rw[<-SM ((R6 c ds s1 bl).drop (C8 c.res).length)]at c1;obtain⟨j,bj,i,o,Y,T,C,_,e5,e6,e7⟩:=AG hb v2 (fun j b hj=>by rw[Rr];exact N j b hj) c1;left;obtain⟨x',ah⟩:=hl bj (QT C);have hF:F' i=none:=by rcases hs.live bj x' ah with⟨i',o',y',k1,_,k3,_⟩| ⟨k1,_⟩;grind;grind
   refine⟨j,bj,by rw[T,Rr],?_,⟨x',ah⟩,.inl ⟨i,o,Y,e5,e6,hF,e7⟩⟩;rw[<-QX,QS (QL.1 C).1];exact C
  | none =>
   rw[c1]at g;simp only at g;cases c2:lk (Q0 c.outL ds (s1.nx+(c.post.length-c.blks.length))) b with
   |some y=>rw[c2]at g;simp only at g;subst g;obtain⟨k,b',X,x',T,C,e3,e4,e5,e6⟩:=ba b _ c2;cases e3;left;refine⟨c.blks.length+(nw.length+k),b',by rw[rI,T,bc,RW],?_,⟨x',e4⟩,?_⟩;rw[QR (by rw[D7];omega),D7,Sr,QR (by omega),Sr];exact C;rcases hs.live b' x' e4 with⟨i,o,y,k1,k2,k3,k4⟩| ⟨k1,k2⟩;exact .inl ⟨i,o,y,k1,k2,k3,e5 _ o y k4⟩;exact .inr ⟨k1,e6 k2⟩
   |none=>
    rw[c2,Q6]at g;simp only at g;by_cases hk:b∈kill++(bl++ [s1.nx])
    rw[Rh hk]at g;cases g
    ·rw[Re hk]at g;have t:s1.get b=some x:=g;refine .inr ⟨ao b x t,fun K=>?_,fun h=>hk (SU _ h),t⟩;obtain⟨i,hi⟩:=RR.1 K;have hlt:i<c.blks.length:=by have:=(QL.1 hi).1;omega
     have:=tK (num:=V8 c bl s1.nx) (r:=c.post) (fl:=(R6 c ds s1 bl).drop (C8 c.res).length) (i0:=0) (j:=i) (by omega);rw[Rr,rJ hlt hi]at this;exact absurd this (AE c1)
 obtain⟨lg,a1,a2,a3,a4,_⟩:=ex.hh;have A:∀b0 x i o,(gst c G fv).get b0=some x->rA τ1 (bl++kill) b0=some (some (i,o))-> ∃b' x',b'∈bl++kill/\s1.get b'=some x'/\τ1 b'=some (some (i,o)):=by intro b0 x i o h0 ht;obtain⟨b',x',k1,k2⟩:=bg b0 x h0;rw[N7 k1]at ht;exact⟨b',x',QT k1,k2,ht⟩
 have bi:∀b i o,b<(gst c G fv).nx->τ' b=some (some (i,o))-> ∃b' x',b'∈bl++kill/\s1.get b'=some x'/\τ1 b'=some (some (i,o)):=by intro b i o hb ht;rw[ax]at hb;have hg:=QV hb;obtain⟨_,k2⟩:=bk b _ hg;obtain⟨x,hx⟩:=aq _ (QT hg);rw[k2]at ht;exact⟨_,x,QT hg,hx,ht⟩
 have ai:∀b i o,τ' b=some (some (i,o))->hp1.nx<=i\/ ∃b' x' o',b'∈bl++kill/\s1.get b'=some x'/\τ1 b'=some (some (i,o')):=by intro b i o ht;by_cases hb:b<(gst c G fv).nx;obtain⟨b',x',h1,h2,h3⟩:=bi b i o hb ht;exact .inr ⟨b',x',o,h1,h2,h3⟩;rcases a3 b i o (Sw hb) ht with h| ⟨b0,x,o0,h1,h2,_⟩;omega;obtain⟨b',x',k1,k2,k3⟩:=A b0 x i o0 h1 h2;exact .inr ⟨b',x',o0,k1,k2,k3⟩
 have apart:∀b x i o c' y o',s1.get b=some x->b∉bl->b∉kill->τ1 b=some (some (i,o))->c'∈bl++kill->s1.get c'=some y->τ1 c'=some (some (i,o'))->False:=by
  intro b x i o c' y o' h1 h2 h3 h4 h5 h6 h7;have ac:b≠c':=fun e=>by subst e;rcases Rw.1 h5 with h|h;exact h2 h;exact h3 h
  exact hs1.inj b c' x y i o i o' h1 h6 ac h4 h7 rfl
 have au:∀b∈bl,b∈(bJ (V8 c bl s1.nx) 0 c.post ((R6 c ds s1 bl).drop (C8 c.res).length)).map Prod.fst:=by
  intro b K;obtain⟨i,hi⟩:=RR.1 K;have hlt:i<c.blks.length:=by have:=(QL.1 hi).1;omega
  have:=tK (num:=V8 c bl s1.nx) (r:=c.post) (fl:=(R6 c ds s1 bl).drop (C8 c.res).length) (i0:=0) (j:=i) (by omega);rw[Rr,rJ hlt hi]at this;exact this
 have keys:∀b∈bl++kill,b∈(bJ (V8 c bl s1.nx) 0 c.post ((R6 c ds s1 bl).drop (C8 c.res).length)++(Q0 c.outL ds (s1.nx+(c.post.length-c.blks.length))++W4 (kill++(bl++ [s1.nx])))).map Prod.fst:=by intro b K;simp only[RH,Rw];rcases Rw.1 K with h|h;exact .inl (au b h);exact .inr (.inr (SE.2 ⟨(b,none),Z8 (by rw[Q6,Rh (SU _ h)]),rfl⟩))
 have u:∀b x i o,s1.get b=some x->b∉bl->b∉kill->τ1 b=some (some (i,o))->hp'.m.get i=hp1.m.get i:=by intro b x i o h1 h2 h3 h4;refine a2 i (hs1.lt b i o h4) fun b0 x0 o0 k1 k2 _=>?_;obtain⟨b',x',q1,q2,q3⟩:=A b0 x0 i o0 k1 k2;exact apart b x i o b' x' o0 h1 h2 h3 h4 q1 q2 q3
 refine⟨⟨fun b x D=>?_,fun b b2 x y i o j q D bb ac T C=>?_,hs.frz,fun b i o h=>?_,hs.flt,fun b aa=>?_,hs1.fc,fun r hr=>(hs1.fz r hr).mono O ex.f⟩,⟨O,ex.f,ex.nx,?_,fun b hb=>lo b hb,fun b x D hlt=>?_,⟨bJ (V8 c bl s1.nx) 0 c.post ((R6 c ds s1 bl).drop (C8 c.res).length)++(Q0 c.outL ds (s1.nx+(c.post.length-c.blks.length))++W4 (kill++(bl++ [s1.nx]))),?_,fun i hi ae=>?_,fun b i o az ht=>?_,fun i y hi hy=>?_,fun hp=>absurd rfl (hp (s1.nx,none) (SG _ (SG _ (Z8 (by rw[Q6,Rh (SG _ (by simp))])))))⟩,⟨[],rfl⟩,⟨bJ (V8 c bl s1.nx) 0 c.post ((R6 c ds s1 bl).drop (C8 c.res).length)++(Q0 c.outL ds (s1.nx+(c.post.length-c.blks.length))++W4 (kill++(bl++ [s1.nx]))),?_,fun b c' e z i o cs n az bw cb hg bt=>⟨cs,?_,fun _ _=>rfl⟩⟩⟩,R⟩
 rotate_right 2
 ·show bJ (V8 c bl s1.nx) 0 c.post ((R6 c ds s1 bl).drop (C8 c.res).length)++(Q0 c.outL ds (s1.nx+(c.post.length-c.blks.length))++(W4 (kill++(bl++ [s1.nx]))++s1.h))=
   (bJ (V8 c bl s1.nx) 0 c.post ((R6 c ds s1 bl).drop (C8 c.res).length)++(Q0 c.outL ds (s1.nx+(c.post.length-c.blks.length))++W4 (kill++(bl++ [s1.nx]))))++s1.h
  rw[QX,QX]
 ·have ae:b∉kill++(bl++ [s1.nx]):=fun q=>by obtain⟨_,q',_⟩:=bt none (SG _ (SG _ (Z8 (by rw[Q6,Rh q]))));cases q'
  rw[u b _ i o az (fun q=>ae (SG _ (SU _ q))) (fun q=>ae (SU _ q)) bw];exact hg
 ·rcases J b x D with⟨k,b',rfl,C,_,h⟩| ⟨hlt,ab,ad,t⟩;rcases h with⟨i,o,Y,h1,h2,h3,h4⟩| ⟨h1,h2⟩;exact .inl ⟨i,o,Y,by rw[B k b' C];exact h1,h2,h3,h4⟩;exact .inr ⟨by rw[B k b' C];exact h1,h2⟩
  ·rcases hs1.live b x t with⟨i,o,y,h1,h2,h3,h4⟩| ⟨h1,h2⟩
   ·refine .inl ⟨i,o,y,by rw[lo b hlt];exact h1,by rw[u b x i o t ab ad h1];exact h2,?_,h4.mono O ex.f⟩;cases hF:F' i with
    |none=>rfl|some y'=>exfalso;rcases a4 i y' (hs1.lt b i o h1) hF with h5| ⟨b0,o0,h5,_⟩;rw[h3]at h5;cases h5;rcases ai b0 i o0 h5 with h6| ⟨b',x',o',h6,h7,h8⟩;have:=hs1.lt b i o h1;omega;exact apart b x i o b' x' o' t ab ad h1 h6 h7 h8
   exact .inr ⟨by rw[lo b hlt];exact h1,h2⟩
 ·have mixed:∀ {b b2 x y i o j q} {k b':Nat},(U8 0 c.blks.length++(nw++d))[k]? =some b'->J2 τ1 τ' s1.nx (nw++d) (V8 c bl s1.nx k)=some (some (i,o))->b=V8 c bl s1.nx k->s1.get b2=some y->b2<s1.nx->b2∉bl->b2∉kill->
    J2 τ1 τ' s1.nx (nw++d) b2=some (some (j,q))->i≠j/\(x:B6)=x:=by
   intro b b2 x y i o j q k b' k1 k2 _ k3 k4 k5 k6 k7;refine⟨fun e=>?_,rfl⟩;subst e;rw[B k b' k1]at k2;rw[lo b2 k4]at k7;rcases ai b' i o k2 with h| ⟨bm,bz,bx,h1,h2,h3⟩;have:=hs1.lt b2 i q k7;omega;exact apart b2 y i q bm bz bx k3 k5 k6 k7 h1 h2 h3
  rcases J b x D with⟨k,b',rfl,k1,⟨x',ah⟩,_⟩| ⟨hlt,ab,ad,t⟩;rcases J b2 y bb with⟨k',al,rfl,k2,⟨y',bh⟩,_⟩| ⟨M,aj,ak,ap⟩;rw[B k b' k1]at T;rw[B k' al k2]at C;refine hs.inj b' al x' y' i o j q ah bh (fun e=>?_) T C;subst e;exact ac (by rw[aw k k' b' k1 k2]);exact(mixed (b:=V8 c bl s1.nx k) (x:=x) k1 T rfl ap M aj ak C).1;rcases J b2 y bb with⟨k',al,rfl,k2,⟨y',bh⟩,_⟩| ⟨M,aj,ak,ap⟩;exact Ne.symm (mixed (b:=V8 c bl s1.nx k') (x:=x) k2 C rfl t hlt ab ad T).1;rw[lo b hlt]at T;rw[lo b2 M]at C;exact hs1.inj b b2 x y i o j q t ap ac T C
 by_cases hlt:b<s1.nx;rw[lo b hlt]at h;exact RP (hs1.lt b i o h) ex.nx;unfold J2 at h;rw[Re hlt]at h;split at h;exact hs.lt _ i o h;cases h;have aa:s1.nx+(c.post.length-c.blks.length)+E5 c.outL<=b:=aa;unfold J2;rw[Re (by omega),Td (by rw[Rn,bu];omega)];show s1.nx<=s1.nx+(c.post.length-c.blks.length)+E5 c.outL;omega
 ·rcases J b x D with⟨k,b',rfl,k1,_⟩| ⟨_,_,_,t⟩
  ·by_cases hk:k<c.blks.length;have Z:bl[k]? =some (bl[k]'(by omega)):=QV (by omega);rw[rJ hk Z]at hlt⊢;exact aq _ (SU _ (QT Z))
   ·obtain⟨j,rfl⟩:∃j,k=c.blks.length+j:=⟨k-c.blks.length,by omega⟩
    rw[rI]at hlt;omega
  exact⟨x,t⟩
 ·show bJ (V8 c bl s1.nx) 0 c.post ((R6 c ds s1 bl).drop (C8 c.res).length)++(Q0 c.outL ds (s1.nx+(c.post.length-c.blks.length))++(W4 (kill++(bl++ [s1.nx]))++s1.h))=
   (bJ (V8 c bl s1.nx) 0 c.post ((R6 c ds s1 bl).drop (C8 c.res).length)++(Q0 c.outL ds (s1.nx+(c.post.length-c.blks.length))++W4 (kill++(bl++ [s1.nx]))))++s1.h
  rw[QX,QX]
 refine a2 i hi fun b0 x0 o0 k1 k2 _=>?_;obtain⟨b',x',q1,q2,q3⟩:=A b0 x0 i o0 k1 k2;exact ae b' x' o0 q2 q3 (keys b' q1);unfold J2 at ht;rw[Re (by omega)]at ht;split at ht;rcases ai _ i o ht with h| ⟨b',x',o',h1,h2,h3⟩;exact .inl h;exact .inr ⟨b',x',o',h2,h3,keys b' h1⟩;cases ht;rcases a4 i y hi hy with h| ⟨b0,o0,h5,_⟩;exact .inl h;rcases ai b0 i o0 h5 with h6| ⟨b',x',o',h6,h7,h8⟩;omega;exact .inr ⟨b',o',by rw[lo b' (ao b' x' h7)];exact h8,keys b' h6⟩
theorem mI {g:Ay}(hg:p9 P U ov c g):A5 P U ov (EY P U c) g:=by
 intro l args τ F s hp hl hs Q hq _;simp only[EY,t9]at hq;cases K:mD c.args l with
 |none=>rw[K]at hq;exact hq.elim|some M=>
 rw[K]at hq;cases c2:c.find l s with
 |none=>rw[c2]at hq;exact hq.elim|some bl=>
 rw[c2]at hq;simp only at hq;cases L:oF s c.blks bl with
 |none=>rw[L]at hq;exact hq.elim|some N=>
 rw[L]at hq;obtain⟨z,V,W,X⟩:=mE K hl;obtain⟨O,R,T⟩:=lY hs L;rw[A3]at hq;obtain⟨vs,s2,hq,τ2,G,hp2,y,r,rfl,aa⟩:=gI c.inL (M++N) (z++O) τ F s hp (V.append R) hs _ hq hs;rw[A3]at hq;obtain⟨⟨es,e⟩,u,hq,o3,C,Z⟩:=tP (P:=P) (τ:=τ2) (F:=G) bl c.inL vs s2 _ hq r.fc;simp only[t9]at hq;cases E:bl.all (tA u)&&cH (bl++e)&&Nat.beq e.length (E5 c.inL)&&Nat.ble c.blks.length c.post.length with
 |false=>rw[E]at hq;exact hq.elim|true=>
 rw[E]at hq;simp at E;obtain⟨⟨⟨k1,k2⟩,k3⟩,k4⟩:=E;have D:=r.only o3 C;have hm:=Z u o3.h;have j:=hm.len;have m:=hq.1;have q:∀b∈bl,∃x,u.get b=some x:=fun b hb=>oN (k1 b hb);have B:=T.mono y.t;obtain⟨g1,g2,g3⟩:=KI D aa W B hm k2 q k3 (I1 (m8 c.inL) 0 es j);have p:VDL P U (rA τ2 (bl++e)) G (fZ c (D4 U (m8 c.inL) 0 es)) args:=by obtain⟨w1,_⟩:=g2.split;have:=X _ _ _ ((mG c (D4 U (m8 c.inL) 0 es)).drop z.length) w1;rwa[SP]at this
 obtain⟨v,τ',F',s',hp',ak,A,aj,n,nw,J,r1,r2,r3,r4,r5,r6,r7,r8,r9,ab,ac,ad,ae,ah,ai⟩:=hg es j m _ G hp2 args g1 p;have d:=r8.len;have hQ:=hK _ _ _ (hq.2 m) n d (by rw[I3 _ _ _ d];exact ai);have Y:∀b∈bl++e,∃x,u.get b=some x:=fun b hb=>by rcases Rw.1 hb with h|h;grind;obtain⟨k,hk⟩:=RR.1 h;exact hm.live hk
 obtain⟨f1,f2,f3⟩:=Px D B.len.1 k3 Y k2 g3 r2 r3 r4 r5 r7 r8 r9 ab ac ad ae ah (I1 (m8 c.outL) u.fv n d);refine⟨_,_,hQ,_,F',hp',(y.trans (Tm r o3)).trans f2,f1,v,r1,?_⟩;obtain⟨w1,_⟩:=f3.split;have:=r6 _ _ _ ((R6 c (D4 U (m8 c.outL) u.fv n) u bl).drop A.length) w1;simp_all
end
def fU (P:Aw)(U:Ab):List (Ay×Con)->Ay->Bb (As->M SV)
 | [],_=>none|p::l,g=>bif Nat.beq p.1 g then some (EY P U p.2)else fU P U l g
section
variable {P :Aw}{U:Ab}{ov:Aa}
variable (P U ov) in
def P7 :List (Ay×Con)->Prop
 | []=>True|p::l=>p9 P U ov p.2 p.1/\P7 l
def Cx :∀ {l:List (Ay×Con)},P7 P U ov l-> ∀g k,fU P U l g=some k->A5 P U ov k g
 | [],_,g,k,h=>by cases h
 |p::l,d,g,k,h=>by
  unfold fU at h;cases hb:Nat.beq p.1 g with
  |true=>rw[hb,Ra,QI]at h;rw[<-h,<-QN hb];exact mI d.1|false=>rw[hb,Rb]at h;exact Cx d.2 g k h
def noT {C:Ay->Prop}:∀g,isT (noOv g)=true->C g:=fun _ h=>Bool.noConfusion (show false=true from h)
theorem IM {a:Ay}{t:Ax}{rest:Aa}(h:isT (some t)=false)(hr:∀g,isT (rest g)=false):∀g,isT (AT a t rest g)=false:=by intro g;unfold AT;grind
theorem G2 {L:Ay}{rest:Aa}{con:Ay->Bb (As->M SV)}(h:(con L).isSome=true)(hr:∀g,isT (rest g)=false:=by first|exact fun _=>rfl|exact IM rfl (fun _=>rfl)|exact IM rfl (IM rfl (fun _=>rfl))|exact IM rfl (IM rfl (IM rfl (fun _=>rfl)))):∀g,isT (AT L jP rest g)=true->con g≠none:=by
 intro g hg e;unfold AT at hg;cases hb:Nat.beq g L with
 |true=>simp_all|false=>grind
end
section
variable {P :Aw}{U:Ab}{ov:Aa}
end
inductive JK where
 |i (k:IntKind)
 |b
 |rp
structure Jn where
 name:String
 gh:As->SS->List (So×E)
 one:Bool
 res:List JK
 rel:Ar->Ar->Prop
section
variable {P :Aw}{U:Ab}{ov:Aa}
end
section
variable {P :Aw}{U:Ab}
def yesM :As->M SV:=fun l=>match l with
 | []=>i4 (.bool (.bool true))|_=>a8 "an argument"
def MU (_ e:Ar):Prop:=e=[.bool true]
def cYes (n:String):Con:=⟨n,[],[],fun _ _=>some [],fun d=>d=[],[.one (.g .bool)],[],fun _ _=>some [],MU⟩
theorem JJ {ov:Aa}{L:Ay}(h:isT (ov L)=true)(n:String):p9 P U ov (cYes n) L:=by
 refine yM (run:=yesM) (fun l args τ F s hp hl hs=>?_) fun _=>⟨rfl,fun _=>trivial⟩
 cases l with
 |cons a l=>exact Tu|nil=>
  obtain rfl:args=[]:=QP hl.1.symm;refine Tw ⟨Value.bool true,⟨1,fun m hm=>?_⟩,VD.bool (.bool true)⟩;obtain⟨m,rfl⟩:∃k,m=k+1:=⟨m-1,by omega⟩
  show(bif isT (ov L)&&([]:Af).isEmpty then some (Value.bool true,hp)else _)=some (Value.bool true,hp);grind
end
abbrev cI (L:Rows)(i:Int)(j:Nat):Int:=(D1 L i j).toInt
abbrev cS (L:Rows)(i:Int)(j:Nat):Ae:=(D1 L i j).toStr
abbrev cB (L:Rows)(i:Int)(j:Nat):Bool:=(D1 L i j).toBool
abbrev cL (L:Rows)(i:Int)(j:Nat):Rows:=(D1 L i j).rows
abbrev ln {α:Type}(l:List α):Int:=(l.length:Int)
abbrev Nr (x:Int)(q:Prop):Prop:=Nd (x=x) q
abbrev Ni (x:Int)(q:Prop):Prop:=Nd (¬x<x) q
def byteAt (s:Ae)(i:Int):Int:=((s.getD i.toNat 0).toNat:Int)
theorem tT {p q:Prop}:(p/\(p->p/\(p->q)))↔(p/\(p->q)):=(by grind)
def tR {p q:Prop}:(p->p/\(p->q))↔(p->q):=⟨fun h x=>(h x).2 x,fun h x=>⟨x,h⟩⟩
def Z4 (n:Int):(Dat.int n).toInt=n:=rfl
def C5 (s:Ae):(Dat.str s).toStr=s:=rfl
def V2 (l:Rows):(Dat.lst l).rows=l:=rfl
section
variable {α :Type}{f:α->Ar}
theorem l6 {T:List α}{i:Int}{s:α}(h:T[i.toNat]? =some s)(j:Nat):D1 (T.map f) i j=(f s).getD j (.int 0):=by unfold D1;grind
def get_at {T:List α}{i:Int}(h0:0<=i)(h1:i<(T.length:Int)):∃o,T[i.toNat]? =some o:=⟨_,QV (by omega)⟩
def V0 {l:List α}{a n:Int}:pQ (l.map f) a n=((l.drop a.toNat).take n.toNat).map f:=by unfold pQ;rw[<-List.map_drop,<-List.map_take]
theorem qH {rows:Rows}(f:α->Ar)(R:α->Prop)(h:∀r∈rows,∃a,R a/\r=f a):∃L:List α,(∀a∈L,R a)/\rows=L.map f:=by
 induction rows with
 |nil=>simp_all|cons r rows d=>obtain⟨a,g,e⟩:=h r (by simp);obtain⟨L,hL,e'⟩:=d fun r hr=>h r (by grind);exact⟨a::L,fun b hb=>by grind,by grind⟩
end
def HY {k:IntKind}{n:Int}(h0:k.min<=n)(h1:n<=k.max):IntKind.wrap k n=n:=by cases k<;>simp[IntKind.min,IntKind.max,IntKind.signed,IntKind.bits,IntKind.wrap]at h0 h1⊢ <;>omega
def Y8 {α:Type}{l:List α}{k:Nat}{a:α}(h:l[k]? =some a):l.take (k+1)=l.take k++ [a]:=by rw[List.take_add_one,h];rfl
def GU {α:Type}{l:List α}{k:Nat}{a:α}(h:l[k]? =some a):l.drop k=a::l.drop (k+1):=by have hk:=(QL.1 h).1;rw[List.drop_eq_getElem_cons hk,(QL.1 h).2]
def eC {k:Int}(h:0<=k):(k+1).toNat=k.toNat+1:=by omega
def numK :Kd->Bool
 | .int _=>true| .bool=>true| .str=>true|_=>false
def PV.num {P:Aw}{F F':Ac}{k:Kd}{v:Av}{d:Dat}(hk:numK k=true)(p:PV P F k v d):PV P F' k v d:=by
 cases p with
 |int k n=>exact .int k n|bool b=>exact .bool b|str s=>exact .str s|nils e=>cases hk
 |vague e=>cases hk
 |_=>cases hk
section
variable {P :Aw}{U:Ab}{ov:Aa}
def oX :SV->Bool
 | .int _ _=>true| .bool _=>true| .str _=>true|_=>false
def HF (a:SV):Bool:=match a with
 | .tup l=>l.all oX|a=>oX a
variable {F F':Ac}{v:Av}
def HD {τ τ':Tau}{a:SV}(h:oX a=true)(hv:VD P U τ F a v):VD P U τ' F' a v:=by
 cases hv with
 |int k e=>exact .int k e|bool e=>exact .bool e|str e=>exact .str e|_=>cases h
theorem LW {τ τ':Tau}{a:SV}(h:HF a=true)(hv:VD P U τ F a v):VD P U τ' F' a v:=by
 unfold HF at h;split at h
 ·cases hv with
  |tup _ xs h1 h2=>rw[Rq]at h;exact .tup _ xs h1 fun i a x d hx=>HD (by grind) (h2 i a x d hx)
 exact HD h hv
def Pf (P:Aw)(s:SS)(a:SV)(s1:SS):Tr (SV×SS):=match a,s1.h with
 | .sl b z o n c,(k,some (.rows L e z' ph))::(k2,none)::h=>
  bif Nat.beq h.length s.h.length&&Nat.beq k2 k&&Nat.ble s.nx k&&(kf P e).all numK then .ret (.sl b z o n c,⟨(k,some (.rows L e z' ph))::s.h,s1.nx,s1.fc,s1.fv,s.fz⟩)else .ret (.sl b z o n c,s1)
 |a,(k2,none)::h=>bif HF a&&Nat.beq h.length s.h.length&&Nat.ble s.nx k2 then .ret (a,⟨s.h,s1.nx,s1.fc,s1.fv,s.fz⟩)else .ret (a,s1)|a,_=>.ret (a,s1)
def LH (P:Aw)(run:As->M SV):As->M SV:=fun l s=>(run l s).bind fun r=>Pf P s r.1 r.2
theorem LI {run:As->M SV}{g:Ay}(hr:A5 P U ov run g):A5 P U ov (LH P run) g:=by
 intro l args τ F s hp hl hs Q hq _;unfold LH at hq;rw[TT]at hq;obtain⟨a,s1,h1,τ1,F1,hp1,ex,hs1,v,hx,hv⟩:=hr l args τ F s hp hl hs _ hq hs;simp only at h1;unfold Pf at h1;split at h1
 ·rename_i b z o n c k L e C ph k2 h hh;cases hc:Nat.beq h.length s.h.length&&Nat.beq k2 k&&Nat.ble s.nx k&&(kf P e).all numK with
  |false=>rw[hc]at h1;exact⟨_,_,h1,τ1,F1,hp1,ex,hs1,v,hx,hv⟩|true=>
   rw[hc]at h1;simp only[QJ,Rz,RQ,Rq]at hc;obtain⟨⟨⟨E,c2⟩,R⟩,c4⟩:=hc;subst k2;obtain⟨N,a1,a2,a3,a4,a5⟩:=ex.hh;rw[hh]at a1;have u: [(k,some (B6.rows L e C ph)),(k,none)]++h=N++s.h:=a1;obtain⟨B,D⟩:=List.append_inj' u E;subst B;subst D;have get:∀b,(⟨(k,some (.rows L e C ph))::s.h,s1.nx,s1.fc,s1.fv,s.fz⟩:SS).get b=s1.get b:=fun b=>by unfold SS.get;rw[hh,z8,z8,z8];by_cases hb:k=b;rw[Rh hb,Rh hb];rw[Re hb,Re hb,Re hb]
   have old:∀b x,s1.get b=some x->k≠b->s.get b=some x:=fun b x hb A=>by rw[<-get]at hb;unfold SS.get at hb⊢;rwa[z8,Re A]at hb
   have new:∀b x,s.get b=some x->b∈ [(k,some (B6.rows L e C ph)),(k,none)].map Prod.fst->False:=fun b x hb hm=>by have:=hs.bound hb;simp only[RM,List.map_nil,Rx,List.not_mem_nil,or_false,or_self]at hm;omega
   refine⟨_,_,h1,τ1,F,hp1,⟨ex.t,Tn F,ex.nx,ex.snx,ex.st,fun b x hb hlt=>ex.low b x (by grind) hlt,⟨[(k,some (.rows L e C ph))],rfl,fun i hi K=>a2 i hi fun b x o p1 p2 m=>new b x p1 m,fun b i o hb ht=>?_,fun i y hi hy=>.inl hy,fun _ i y hy=>hy⟩,ex.hf,?_⟩,
    ⟨fun b x hb=>?_,fun b c x y i o j q hb hc=>hs1.inj b c x y i o j q (by grind) (by grind),fun i b hF=>hs1.frz i b (ex.f i b hF),hs1.lt,fun i b hF=>hs1.flt i b (ex.f i b hF),hs1.new,hs1.fc,fun r hr=>(hs.fz r hr).mono ex.t (Tn F)⟩,v,hx,?_⟩
   rcases a3 b i o hb ht with h| ⟨b0,x,o0,h1,h2,h3⟩;exact .inl h;exact(new b0 x h1 h3).elim;exact(by grind)
   ·rw[get]at hb;by_cases hk:k=b
    ·subst hk;have hx:x= .rows L e C ph:=by rw[<-get]at hb;unfold SS.get at hb;rw[z8,Rh rfl]at hb;exact(Rm hb).symm
     subst hx;rcases hs1.live k _ hb with⟨i,o,y,p1,p2,m,cs,n,V,⟨r1,X,Y,Z⟩,W⟩|p
     ·refine .inl ⟨i,o,y,p1,p2,?_,cs,n,V,⟨r1,X,Y,fun r j row d hr T=>?_⟩,W⟩
      ·cases hF:F i with
       |none=>rfl|some y'=>rw[ex.f i y' hF]at m;cases m
      obtain⟨x,t1,t2⟩:=Z r j row d hr T;exact⟨x,t1,fun kd J=>(t2 kd J).num (by grind)⟩
     exact .inr p
    have G:=old b x hb hk;rcases hs.live b x G with⟨i,o,y,p1,p2,m,O⟩| ⟨p1,p2⟩;exact .inl ⟨i,o,y,ex.t _ _ p1,by rw[a2 i (hs.lt b i o p1) fun b x o p1 p2 m=>new b x p1 m];exact p2,m,O.mono ex.t (Tn F)⟩;exact .inr ⟨ex.t _ _ p1,p2⟩
   ·cases hv with
    |sl _ _ _ _ _ i o c h h0 h1 hc=>exact .sl _ _ _ _ _ i o c h h0 h1 hc|sl0 _ _ _ _ _ h h0 h1 hc=>exact .sl0 _ _ _ _ _ h h0 h1 hc
 ·rename_i a _ _ k2 h hh;cases hc:HF a&&Nat.beq h.length s.h.length&&Nat.ble s.nx k2 with
  |false=>rw[hc]at h1;exact⟨_,_,h1,τ1,F1,hp1,ex,hs1,v,hx,hv⟩|true=>
   rw[hc]at h1;simp only[QJ,Rz,RQ]at hc;obtain⟨⟨c0,E⟩,R⟩:=hc;obtain⟨N,a1,a2,a3,a4,a5⟩:=ex.hh;rw[hh]at a1;have u: [(k2,none)]++h=N++s.h:=a1;obtain⟨B,D⟩:=List.append_inj' u E;subst B;have new:∀b x,s.get b=some x->b∈ [(k2,(none:Bb B6))].map Prod.fst->False:=fun b x hb hm=>by have:=hs.bound hb;simp only[RM,List.map_nil,Rx,List.not_mem_nil,or_false]at hm;omega
   refine⟨_,_,h1,τ1,F,hp1,⟨ex.t,Tn F,ex.nx,ex.snx,ex.st,fun b x hb _=>⟨x,hb⟩,⟨[],rfl,fun i hi K=>a2 i hi fun b x o p1 p2 m=>new b x p1 m,fun b i o hb ht=>?_,fun i y hi hy=>.inl hy,fun _ i y hy=>hy⟩,ex.hf,(by grind)⟩,
    ⟨fun b x hb=>?_,fun b c x y i o j q hb hc A B D=>hs.inj b c x y i o j q hb hc A (by rw[<-ex.st b (hs.bound hb)];exact B) (by rw[<-ex.st c (hs.bound hc)];exact D),fun i b hF=>hs1.frz i b (ex.f i b hF),hs1.lt,fun i b hF=>hs1.flt i b (ex.f i b hF),hs1.new,hs1.fc,fun r hr=>(hs.fz r hr).mono ex.t (Tn F)⟩,v,hx,LW c0 hv⟩
   rcases a3 b i o hb ht with h| ⟨b0,x,o0,h1,h2,h3⟩;exact .inl h;exact(new b0 x h1 h3).elim;rcases hs.live b x hb with⟨i,o,y,p1,p2,m,O⟩| ⟨p1,p2⟩;exact .inl ⟨i,o,y,ex.t _ _ p1,by rw[a2 i (hs.lt b i o p1) fun b x o p1 p2 m=>new b x p1 m];exact p2,m,O.mono ex.t (Tn F)⟩;exact .inr ⟨ex.t _ _ p1,p2⟩
 exact⟨_,_,h1,τ1,F1,hp1,ex,hs1,v,hx,hv⟩
variable (P U) in
def conP (l:List (Ay×Con))(g:Ay):Bb (As->M SV):=match fU P U l g with
 |some k=>some (LH P k)|none=>none
end
def Con.below (c:Con)(mu:Ar->Nat)(n:Nat):Con:= {c with pre:=fun d=>c.pre d/\mu d<n}
section
variable {P :Aw}{U:Ab}{ov:Aa}
theorem FL {c:Con}{mu:Ar->Nat}{g:Ay}(h:∀n,p9 P U ov (c.below mu n) g->p9 P U ov (c.below mu (n+1)) g):p9 P U ov c g:=by
 have all:∀n,p9 P U ov (c.below mu n) g:=fun n=>by
  induction n with
  |zero=>intro es _ d;exact absurd d.2 (Nat.not_lt_zero _)
  |succ n j=>grind
 intro es e d;exact all (mu (t6 U (m8 c.inL) es)+1) es e ⟨d,RY _⟩
