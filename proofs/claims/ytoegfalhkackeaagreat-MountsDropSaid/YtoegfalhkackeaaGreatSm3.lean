/- The symbolic engine, parts 23, 24, 25, 26, 27, 28, 29, 30, 31, 32, 33, 34, 35, 36, 37, 38, 39, 40.
  Conditions: none. -/
import Derived.Test.YtoegfalhkackeaaGreatSm2
import Derived.OpenShut
set_option linter.all false
noncomputable section
namespace Go.Sx
open Go.Xe
def X7 :Nat->List (Nat×Bb B0)->Ah
 |0,_=>[]
 |_+1,[]=>[]
 |n+1,(k,_)::l=>k::X7 n l
def rA (l h:List (Nat×Bb B0)):X7 l.length (l++h)=l.map Prod.fst:=by
 induction l with
 |nil=>rfl|cons a l d=>simp only[TM,Uf,X7,TV,d]
def sB {α:Type}{b:Nat}:∀(l h:List (Nat×α)),b∉l.map Prod.fst->lk (l++h) b=lk h b
 | [],_,_=>rfl| (k,x)::l,h,hb=>by simp only[TV,TH,not_or]at hb;rw[Uf,z6,Tn (λe=>hb.1 e.symm)];exact sB l h hb.2
def uS :Nat->List (Nat×Bb B0)->Bool
 |0,_=>false|_+1,[]=>false|n+1,(_,x)::l=>match x with
  |none=>true|some _=>uS n l
theorem JS (l h:List (Nat×Bb B0))(hf:uS l.length (l++h)=false):∀p∈l,p.2≠none:=by
 induction l with
 |nil=>exactλp hp=>by grind
 |cons a l d=>intro p hp;simp only[TM,Uf,uS]at hf;grind
def quiet {α:Type}(m:M α):M α:=λs=>(m s).bind λr=>bif Nat.beq r.2.h.length s.h.length&&Nat.beq r.2.nx s.nx then i5 r.1 r.2 else b9 "a region: an operation that should leave the memory alone" r.2
def Mo {α:Type}(n:Nat)(m:M α):M (α×Ah×Bool):=λs=>(m s).bind λr=>i5 (r.1,X7 (r.2.h.length-n) r.2.h,uS (r.2.h.length-n) r.2.h) r.2
def Xw :M Nat:=λs=>i5 s.nx (EN s)
def MF (pd:List Pd):M Unit:=λs=>i5 () (fF s pd)
def liveR (r:Rd):M Unit:=match r with
 | .blk b=>v8 λs=>match s.get b with
  |some _=>i5 ()|none=>b9 "a region: read"
 |_=>i5 ()
def Mn (o:Oper):Bool:=Nat.beq (j4 o.op) 3
section
variable (P :Aw)(U:Ab)
def sgo (call:I8)(nt:Nat)(all:An):List (Oper×Nat)->Nat->Fm->List Pd->List En->M (Fm×List Pd)
 | [],_,f,pd,_=>i5 (f,pd)| (o,pre)::rest,i,f,pd,es=>
  bif C4 nt o.dst&&Nat.blt pre (2^i)then
   c8 (sR U all f o) λt =>
   bif t then
    bif Nat.beq (j4 o.op) 0 then c8 (quiet (sop P U call (bO all f o t) o.op)) λv=>sgo call nt all rest (i+1) (gP (bO all f o t) o.dst v) pd (⟨i,pre,false,false,.free,[],false⟩::es)
    else bif Nat.beq (j4 o.op) 1 then v8 λsr=>c8 (quiet (sop P U call (bO all f o t) o.op)) λv=>c8 (liveR (vH (rgB sr) (bO all f o t) o.op)) λ_=>
      bif vok 1000 v&&es.all (gK pre (vH (rgB sr) (bO all f o t) o.op))then sgo call nt all rest (i+1) (gP (bO all f o t) o.dst v) pd (⟨i,pre,false,true,vH (rgB sr) (bO all f o t) o.op,[],false⟩::es)
      else b9 "a region: a read"
    else bif Nat.beq (j4 o.op) 2 then match snw P (bO all f o t) o.op with
     |some (x,mk)=>c8 Xw λb=>sgo call nt all rest (i+1) (gP (bO all f o t) o.dst (mk b)) (⟨b,i,x⟩::pd) (⟨i,pre,false,false,.free,[],false⟩::es)
     |none=>b9 "a region: a new block"
    else bif pd.all (λp=>pre.testBit p.i)then
      v8 λs0=>c8 (MF pd) λ_=>c8 (Mo s0.h.length (sop P U call (bO all f o t) o.op)) λr=>
       bif es.all (jX pre r.2.1)then sgo call nt all rest (i+1) (gP (bO all f o t) o.dst r.1) [] (⟨i,pre,true,false,.free,r.2.1,r.2.2⟩::es)else b9 "a region: a write"
     else b9 "a region: blocks that wait"
   else bif Mn o&& !(es.all (jX pre []))then b9 "a region: not wanted" else
    sgo call nt all rest (i+1) (gP (bO all f o t) o.dst (.tup [])) pd (⟨i,pre,Mn o,false,.free,[],false⟩::es)
  else b9 "a region: slot"
def Ha (call:I8)(nt:Nat):jR:=λall f=>
 bif stat all (aZ all [])then c8 (sgo P U call nt all (all.zip (aZ all [])) 0 f [] []) λr=>c8 (MF r.2) λ_=>i5 r.1
 else b9 "a region: order"
def NE (call:I8)(nt:Nat):jR:=λall f=>Ha P U call nt all f
end
section
variable {P :Aw}{U:Ab}{ov:Aa}{nt:Nat}
variable {call :i9}{all:An}{nx0:Nat}{o:Oper}{pre:Nat}{rest:List (Oper×Nat)}{i:Nat}{tm:Ao}{S:Hp}{I:Nat}{es:List Ent}
def SE (d:C4 nt o.dst=true)(e:v5 all tm o=false):xgo P call nt all nx0 ((o,pre)::rest) i tm S I es=xgo P call nt all nx0 rest (i+1) (y7 tm o.dst undef) S I (⟨i,o,pre,tm,S,S,I,false,undef,none⟩::es):=by rw[xgo,d,Tk,e,Tl]
variable {v:Av}{S':Hp}
theorem WZ (d:C4 nt o.dst=true)(e:v5 all tm o=true)(hk:j4 o.op=0)(hx:xop P call tm S o.op=some (v,S')):xgo P call nt all nx0 ((o,pre)::rest) i tm S I es=xgo P call nt all nx0 rest (i+1) (y7 tm o.dst v) S I (⟨i,o,pre,tm,S,S,I,true,v,none⟩::es):=by rw[xgo,d,Tk,e,Tk,hk];grind
theorem WY (d:C4 nt o.dst=true)(e:v5 all tm o=true)(hk:j4 o.op=1)(hx:xrd P tm S o.op=some v):xgo P call nt all nx0 ((o,pre)::rest) i tm S I es=xgo P call nt all nx0 rest (i+1) (y7 tm o.dst v) S I (⟨i,o,pre,tm,S,S,I,true,v,none⟩::es):=by rw[xgo,d,Tk,e,Tk,hk];grind
theorem WX (d:C4 nt o.dst=true)(e:v5 all tm o=true)(hk:j4 o.op=2){n:Nw}(hx:xnw P tm o.op=some n):xgo P call nt all nx0 ((o,pre)::rest) i tm S I es=xgo P call nt all nx0 rest (i+1) (y7 tm o.dst (n.val (nx0+i))) S I (⟨i,o,pre,tm,S,S,I,true,n.val (nx0+i),some n⟩::es):=by rw[xgo,d,Tk,e,Tk,hk];grind
theorem WW (d:C4 nt o.dst=true)(e:v5 all tm o=true)(hk:j4 o.op=3)(hx:xop P call tm (takes nx0 (wE pre I) es S) o.op=some (v,S')):xgo P call nt all nx0 ((o,pre)::rest) i tm S I es=xgo P call nt all nx0 rest (i+1) (y7 tm o.dst v) S' (I|||pre) (⟨i,o,pre,tm,S,S',I,true,v,none⟩::es):=by rw[xgo,d,Tk,e,Tk,hk];grind
def A5 {α d:Type}{m:M α}{k:α->M d}{s:SS}{Q:d×SS->Prop}:(c8 m k s).vc U Q↔(m s).vc U λr=>(k r.1 r.2).vc U Q:=by exact VH _ _ _ _
def Eo {α:Type}{m:M α}{s:SS}{Q:α×SS->Prop}(h:(quiet m s).vc U Q):(m s).vc U λr=>Q r/\r.2.h.length=s.h.length/\r.2.nx=s.nx:=by
 unfold quiet at h;rw[VH]at h;refine Tr.vc_mono _ _ (λr hr=>?_) h;cases hb:Nat.beq r.2.h.length s.h.length&&Nat.beq r.2.nx s.nx with
 |false=>rw[hb]at hr;exact hr.elim|true=>rw[hb]at hr;rw[SR]at hb;exact⟨hr,SY hb.1,SY hb.2⟩
variable {τ :Tau}{F:Ac}{s:SS}
theorem Ext.quiet {τ':Tau}{F':Ac}{s':SS}(ex:Ext τ F s S τ' F' s' S')(hs:SD P U τ F s S)(e:SD P U τ' F' s' S')(m:S'=S)(hh:s'.h.length=s.h.length)(hn:s'.nx=s.nx):τ'=τ/\F'=F/\s'.h=s.h:=by
 obtain⟨l,g,_,_,k,_⟩:=ex.hh;have hl:l=[]:=by simp_all
 subst hl;refine⟨funext λb=>?_,funext λj=>?_,by grind⟩;by_cases hb:b<s.nx;exact ex.st b hb;rw[hs.new b (by omega),e.new b (by omega)]
 .cases hq:F' j with
  |none=>
   cases d:F j with
   |none=>rfl|some y=>rw[ex.f j y d]at hq;cases hq
  |some y=>grind
variable (P U ov nt) in
def KX (all:An)(τ0:Tau)(F0:Ac)(s0:SS)(hp0:Hp)(rest:List (Oper×Nat))(i:Nat)(tm:Ao)(S:Hp)(I:Nat)(esX:List Ent)(f:Fm)(Q:(Fm×List Pd)×SS->Prop):Prop:=
 ∃f' pd' s',Q ((f',pd'),s')/\ ∃τ' F' out es',(EV λm=>xgo P (C6 P ov m) nt all hp0.nx rest i tm S I esX=some out)/\
  DA P U τ0 F0 s0 hp0 all.length all.length τ' F' s' out.S f' out.tm pd' out.es out.I/\DB P ⟨hp0.m,hp0.nx+all.length⟩ all.length τ' F' s' out.S es' out.es/\ ∃pr,f'=pr++f
theorem pU {call:I8}(n:E4 P U ov call){all:An}{τ0:Tau}{F0:Ac}{s0:SS}{hp0:Hp}:∀(rest:List (Oper×Nat)) (i:Nat) (τ:Tau) (F:Ac) (s:SS) (S:Hp) (f:Fm) (tm:Ao) (pd:List Pd) (es:List En) (esX:List Ent) (I:Nat),DA P U τ0 F0 s0 hp0 all.length i τ F s S f tm pd esX I->DB P ⟨hp0.m,hp0.nx+all.length⟩ i τ F s S es esX->i+rest.length=all.length-> ∀Q,(sgo P U call nt all rest i f pd es s).vc U Q->KX P U ov nt all τ0 F0 s0 hp0 rest i tm S I esX f Q
 | [],i,τ,F,s,S,f,tm,pd,es,esX,I,d,hb,hi,Q,hq=>by
  have e:i=all.length:=by grind
  subst e;exact⟨f,pd,s,hq,τ,F,⟨tm,S,I,esX⟩,es,Vb λm=>rfl,d,hb,[],rfl⟩
 | (o,pre)::rest,i,τ,F,s,S,f,tm,pd,es,esX,I,d,hb,hi,Q,hq=>by
  have au:i<all.length:=by grind
  have K:i+1+rest.length=all.length:=by grind
  unfold sgo at hq;cases N:C4 nt o.dst&&Nat.blt pre (2^i)with
  |false=>rw[N]at hq;exact hq.elim|true=>
   rw[N,Tk,A5]at hq;rw[SR]at N;have ah:pre<2^i:=SX N.2;obtain⟨t,s1,hq,B,ao,hw⟩:=wQ d.td all o (s:=s) _ hq d.sd.fc;have d:=d.fr (ID d.td hw);obtain⟨p0,R⟩:=Es all f o t;have O:KX P U ov nt all τ0 F0 s0 hp0 ((o,pre)::rest) i tm S I esX (bO all f o t) Q->KX P U ov nt all τ0 F0 s0 hp0 ((o,pre)::rest) i tm S I esX f Q:=
    λ⟨f',ad,s',h1,τ',F',out,V,h2,h3,h4,pr,h5⟩=>⟨f',ad,s',h1,τ',F',out,V,h2,h3,h4,pr++p0,by rw[h5,R,Th]⟩
   refine O ?_;clear O R p0;generalize bO all f o t=f at hq d⊢;have z:=d.sd.only B ao;have J:∀ {a:SV} {v:Av} {S':Hp} {I':Nat} {eX:Ent},(EV λm=>xgo P (C6 P ov m) nt all hp0.nx ((o,pre)::rest) i tm S I esX=xgo P (C6 P ov m) nt all hp0.nx rest (i+1) (y7 tm o.dst v) S' I' (eX::esX))->
     KX P U ov nt all τ0 F0 s0 hp0 rest (i+1) (y7 tm o.dst v) S' I' (eX::esX) (gP f o.dst a) Q->KX P U ov nt all τ0 F0 s0 hp0 ((o,pre)::rest) i tm S I esX f Q:=by
    intro a v S' I' eX he ⟨f',ad,s',h1,τ',F',out,V,h2,h3,h4,pr,h5⟩;obtain⟨p,hp⟩:=Ej f o.dst a;exact⟨f',ad,s',h1,τ',F',out,V,(he.and h2).mono λm ⟨k1,k2⟩=>by rw[k1];exact k2,h3,h4,pr++p,by rw[h5,hp,Th]⟩
   have Y:∀b x,s.get b=some x->τ b=τ b:=λ_ _ _=>rfl;cases t with
   |false=>
    rw[Tl]at hq;cases hc:Mn o&& !(es.all (jX pre []))with
    |true=>rw[hc]at hq;exact hq.elim|false=>
     rw[hc,Tl]at hq;have hk:∀h:Mn o=true,es.all (jX pre [])=true:=λh=>by grind
     have hg:∀b,s1.get b=s.get b:=B.get;have C:=d.keep hb.xi (eX:=⟨i,o,pre,tm,S,S,I,false,undef,none⟩) z (d.td.put (.tup [] [] rfl (λi a x h _=>by simp at h)) o.dst) B.h B.nx (Vc d.sd B) rfl rfl;have D:=hb.step (en:=⟨i,pre,Mn o,false,.free,[],false⟩) (eX:=⟨i,o,pre,tm,S,S,I,false,undef,none⟩) (τ':=τ) (F':=F) (s':=s1) (S':=S) (VG τ) (Vd F) Y d.sd.frz (λ_ _ _ h=>h)
      (λb _=>hg b) (λ_ _ _ _ _ _ _=>rfl) rfl rfl rfl rfl rfl (λ_=>⟨rfl,rfl⟩) hk (λh _=>by cases h)
     exact J (Vb λm=>SE N.1 hw) (pU n rest (i+1) τ F s1 S _ _ pd _ _ I C D K Q hq)
   |true=>
    rw[Tk]at hq;have aw:j4 o.op=0\/j4 o.op=1\/j4 o.op=2\/j4 o.op=3:=by have:=uW o.op;omega
    rcases aw with hk|hk|hk|hk<;>rw[hk]at hq
    .rw[show Nat.beq 0 0=true from rfl,Tk,A5]at hq;obtain⟨a,s2,⟨hq,h1,h2⟩,τ',F',S',ex,A,v,hx,hv⟩:=Cv n (d.td) z o.op _ (Eo hq) z;obtain⟨L,G⟩:=hx;have G:∀m,L<=m->xop P (C6 P ov m) tm S o.op=some (v,S'):=G;obtain⟨r,hr⟩:=Fs (P:=P) (call:=C6 P ov L) (tm:=tm) hk;have hS:S'=S:=by have:=G L (Tq _);rw[hr]at this;exact(A7 this).2
     obtain⟨rfl,rfl,h3⟩:=ex.quiet z A hS h1 h2;subst hS;have hh:s2.h=s.h:=by rw[h3,B.h]
     have hn:s2.nx=s.nx:=by rw[h2,B.nx]
     have hg:∀b,s2.get b=s.get b:=λb=>by unfold SS.get;rw[hh]
     have C:=d.keep hb.xi (eX:=⟨i,o,pre,tm,S',S',I,true,v,none⟩) A (d.td.put hv o.dst) hh hn ((Vc d.sd B).trans ex) rfl rfl;have D:=hb.step (en:=⟨i,pre,false,false,.free,[],false⟩) (eX:=⟨i,o,pre,tm,S',S',I,true,v,none⟩) (τ':=τ') (F':=F') (s':=s2) (S':=S') (VG _) (Vd _) Y d.sd.frz (λ_ _ _ h=>h)
      (λb _=>hg b) (λ_ _ _ _ _ _ _=>rfl) rfl rfl rfl (by show false=isW _;unfold isW;rw[show j4 o.op=0 from hk];rfl) rfl (λ_=>⟨rfl,rfl⟩) (λh=>by unfold isW at h;rw[show j4 o.op=0 from hk]at h;cases h) (λ_ h=>by rw[show j4 o.op=0 from hk]at h;cases h)
     exact J ⟨L,λm hm=>WZ N.1 hw hk (G m hm)⟩ (pU n rest (i+1) _ _ s2 S' _ _ pd _ _ I C D K Q hq)
    .rw[show Nat.beq 1 0=false from rfl,show Nat.beq 1 1=true from rfl,Tl,Tk]at hq;unfold v8 at hq;rw[A5]at hq;obtain⟨a,s2,⟨hq,h1,h2⟩,τ',F',S',ex,A,v,hx,hv⟩:=Cv n (d.td) z o.op _ (Eo hq) z;obtain⟨L,G⟩:=hx;obtain⟨hS,ay⟩:=SM hk (G L (Tq _));obtain⟨rfl,rfl,h3⟩:=ex.quiet z A hS h1 h2;subst hS;have hh:s2.h=s.h:=by rw[h3,B.h]
     have hn:s2.nx=s.nx:=by rw[h2,B.nx]
     have hg:∀b,s2.get b=s.get b:=λb=>by unfold SS.get;rw[hh]
     have az:=Pk d.td z (G L (Tq _));rw[A5]at hq;have aa:(∀b,vH (rgB s1) f o.op= .blk b-> ∃x,s.get b=some x)/\Tr.vc U ((bif vok 1000 a&&es.all (gK pre (vH (rgB s1) f o.op))then sgo P U call nt all rest (i+1) (gP f o.dst a) pd (⟨i,pre,false,true,vH (rgB s1) f o.op,[],false⟩::es)
      else b9 "a region: a read") s2) Q:=by
      cases ai:vH (rgB s1) f o.op with
      |blk b=>
       rw[ai]at hq;simp only[liveR,v8]at hq;cases E:s2.get b with
       |none=>rw[E]at hq;exact hq.elim|some x=>rw[E]at hq;exact⟨λb' e=>by cases e;exact⟨x,by rw[<-hg];exact E⟩,hq⟩
      |_=>rw[ai]at hq;exact⟨λb' e=>(by cases e),hq⟩
     obtain⟨aa,hq⟩:=aa;cases hc:vok 1000 a&&es.all (gK pre (vH (rgB s1) f o.op))with
     |false=>rw[hc]at hq;exact hq.elim|true=>
      rw[hc,Tk]at hq;rw[SR]at hc;have C:=d.keep hb.xi (eX:=⟨i,o,pre,tm,S',S',I,true,v,none⟩) A (d.td.put hv o.dst) hh hn ((Vc d.sd B).trans ex) rfl rfl;have D:=hb.step (en:=⟨i,pre,false,true,vH (rgB s1) f o.op,[],false⟩) (eX:=⟨i,o,pre,tm,S',S',I,true,v,none⟩) (τ':=τ') (F':=F') (s':=s2) (S':=S') (VG _) (Vd _) Y d.sd.frz (λ_ _ _ h=>h)
       (λb _=>hg b) (λ_ _ _ _ _ _ _=>rfl) rfl rfl rfl (by show false=isW _;unfold isW;rw[show j4 o.op=1 from hk];rfl) rfl (λ_=>⟨rfl,rfl⟩) (λh=>by unfold isW at h;rw[show j4 o.op=1 from hk]at h;cases h)
       (λ_ _=>⟨Fa 1000 a v hc.1 hv,rfl,rfl,az,aa,hc.2⟩)
      refine J ⟨L,λm hm=>WY N.1 hw hk ay⟩ (pU n rest (i+1) _ _ s2 S' _ _ pd _ _ I C D K Q hq)
    .rw[show Nat.beq 2 0=false from rfl,show Nat.beq 2 1=false from rfl,show Nat.beq 2 2=true from rfl,Tl,Tl,Tk]at hq;cases ab:snw P f o.op with
     |none=>rw[ab]at hq;exact hq.elim|some xm=>
      obtain⟨x,mk⟩:=xm;rw[ab]at hq;obtain⟨nw,hx,al,ak⟩:=Se (U:=U) d.td ab;have hq:(sgo P U call nt all rest (i+1) (gP f o.dst (mk s1.nx)) (⟨s1.nx,i,x⟩::pd) (⟨i,pre,false,false,.free,[],false⟩::es) (EN s1)).vc U Q:=hq;have M:DA P U τ0 F0 s0 hp0 all.length i τ F s1 S f tm pd esX I:=
       ⟨z,d.td,d.ext.trans (Vc d.sd B),d.room,d.ib,d.xd,d.pn,λp hp=>let k:=d.pds p hp;⟨k.lt,k.un,by rw[B.get];exact k.g,k.lo,by rw[B.nx];exact k.hi,k.t,k.f,k.u,k.e⟩,d.cl,d.tk⟩
      have h0:τ s1.nx=none:=z.new _ (Tq _);have Z:=bN (τ:=τ) (some (hp0.nx+i,0)) h0;have C:=M.pend hb.xi au (eX:=⟨i,o,pre,tm,S,S,I,true,nw.val (hp0.nx+i),some nw⟩) (x:=x) (nw:=nw) ((d.td.mono Z (Vd F)).put (ak _ s1.nx (hp0.nx+i) (t8 _ _ _)) o.dst) (al _ Z) rfl rfl;have D:=hb.step (en:=⟨i,pre,false,false,.free,[],false⟩) (eX:=⟨i,o,pre,tm,S,S,I,true,nw.val (hp0.nx+i),some nw⟩) (τ':=put τ s1.nx (some (hp0.nx+i,0))) (F':=F) (s':=EN s1) (S':=S) Z (Vd _)
       (λb y hb=>B5 τ _ (by have:=d.sd.bound hb;rw[B.nx];omega)) d.sd.frz (λ_ _ _ h=>h)
       (λb _=>B.get b) (λ_ _ _ _ _ _ _=>rfl) rfl rfl rfl (by show false=isW _;unfold isW;rw[show j4 o.op=2 from hk];rfl) rfl (λ_=>⟨rfl,rfl⟩) (λh=>by unfold isW at h;rw[show j4 o.op=2 from hk]at h;cases h) (λ_ h=>by rw[show j4 o.op=2 from hk]at h;cases h)
      exact J (Vb λm=>WX N.1 hw hk hx) (pU n rest (i+1) _ _ _ S _ _ _ _ _ I C D K Q hq)
    .rw[show Nat.beq 3 0=false from rfl,show Nat.beq 3 1=false from rfl,show Nat.beq 3 2=false from rfl,Tl,Tl,Tl]at hq;cases hc:pd.all (λp=>pre.testBit p.i)with
     |false=>rw[hc]at hq;exact hq.elim|true=>
      rw[hc,Tk]at hq;rw[Ty]at hc;have M:DA P U τ0 F0 s0 hp0 all.length i τ F s1 S f tm pd esX I:=
       ⟨z,d.td,d.ext.trans (Vc d.sd B),d.room,d.ib,d.xd,d.pn,λp hp=>let k:=d.pds p hp;⟨k.lt,k.un,by rw[B.get];exact k.g,k.lo,by rw[B.nx];exact k.hi,k.t,k.f,k.u,k.e⟩,d.cl,d.tk⟩
      have aj:∀e∈esX,e.nw≠none->(wE pre I e.i=true↔ ∃p∈pd,p.i=e.i):=by intro e he ax;unfold wE;rw[SR,TP];constructor;rintro ⟨_,h2⟩;exact d.tk e he ax h2;rintro ⟨p,hp,h2⟩;rw[<-h2];exact⟨hc p hp,(d.pds p hp).un⟩
      obtain⟨t1,t2,t3,t4⟩:=M.take (wE pre I) aj;simp only[v8]at hq;rw[A5]at hq;have hq:(c8 (Mo s1.h.length (sop P U call f o.op)) (λr=>bif es.all (jX pre r.2.1)then sgo P U call nt all rest (i+1) (gP f o.dst r.1) [] (⟨i,pre,true,false,.free,r.2.1,r.2.2⟩::es)else b9 "a region: a write") (fF s1 pd)).vc U Q:=hq;rw[A5]at hq;unfold Mo at hq;rw[VH]at hq;obtain⟨a,s2,hq,τ',F',S',ex,A,v,hx,hv⟩:=Cv n d.td t1 o.op _ hq t1;obtain⟨l,a1,a2,a3,a4,a5⟩:=ex.hh;have X:X7 (s2.h.length-s1.h.length) s2.h=(l++tkl pd).map Prod.fst:=by
       have:s2.h=(l++tkl pd)++s1.h:=by rw[a1,Th];rfl
       rw[this,Tv,Nat.add_sub_cancel,rA]
      have hq:((bif es.all (jX pre (X7 (s2.h.length-s1.h.length) s2.h))then sgo P U call nt all rest (i+1) (gP f o.dst a) [] (⟨i,pre,true,false,.free,X7 (s2.h.length-s1.h.length) s2.h,uS (s2.h.length-s1.h.length) s2.h⟩::es)else b9 "a region: a write") s2).vc U Q:=hq;rw[X]at hq;cases W:es.all (jX pre ((l++tkl pd).map Prod.fst))with
      |false=>rw[W]at hq;exact hq.elim|true=>
       rw[W,Tk]at hq;have C:=M.write hb.xi ah hc t3 t2 ex A ((d.td.mono ex.t ex.f).put hv o.dst) (eX:=⟨i,o,pre,tm,S,S',I,true,v,none⟩) rfl rfl;have aq:∀b,b∉(l++tkl pd).map Prod.fst->s2.get b=s.get b:=by
        intro b hb;have:s2.h=(l++tkl pd)++s.h:=by rw[a1,Th,<-B.h];rfl
        unfold SS.get;rw[this,sB _ _ hb]
       have ba:∀b x j q,s.get b=some x->τ b=some (some (j,q))->b∉(l++tkl pd).map Prod.fst->S'.m.get j=S.m.get j:=by
        intro b x j q E ac bb;have ae:∀p∈pd,b≠p.b:=by intro p hp e;rw[e,(d.pds p hp).g]at E;cases E
        have av:∀p∈pd,j≠hp0.nx+p.i:=by intro p hp e;subst e;exact ae p hp ((d.pds p hp).u b q ac)
        have ap:(fF s1 pd).get b=some x:=by rw[hU ae,B.get];exact E
        rw[a2 j (by rw[t3];exact d.sd.lt b j q ac) (λb' y q' e1 e2 e3=>?_),t4 j av];by_cases eb:b'=b;grind;exact t1.inj b' b y x j q' j q e1 ap eb e2 ac rfl
       have am:(isW (⟨i,o,pre,tm,S,S',I,true,v,none⟩:Ent)=true->uS (s2.h.length-s1.h.length) s2.h=false)-> ∀j y,F' j=some y->F j=some y:=λhq=>by
        have hn:=hq (by unfold isW;rw[show j4 o.op=3 from hk];rfl);have e2:s2.h=(l++tkl pd)++s1.h:=by rw[a1,Th];rfl
        rw[e2,Tv,Nat.add_sub_cancel]at hn;exact a5 λp hp=>JS _ _ hn p (UL _ hp)
       obtain⟨L,G⟩:=hx;have D:=hb.step (en:=⟨i,pre,true,false,.free,(l++tkl pd).map Prod.fst,uS (s2.h.length-s1.h.length) s2.h⟩) (eX:=⟨i,o,pre,tm,S,S',I,true,v,none⟩) (τ':=τ') (F':=F') (s':=s2) (S':=S') ex.t ex.f
        (λb y E=>ex.st b (by have:=d.sd.bound E;show b<s1.nx;rw[B.nx];exact this)) A.frz am aq ba rfl rfl rfl (by show true=isW _;unfold isW;rw[show j4 o.op=3 from hk];rfl) rfl
        (λh=>by unfold isW at h;rw[show j4 o.op=3 from hk]at h;cases h) (λ_=>W) (λ_ h=>by rw[show j4 o.op=3 from hk]at h;cases h)
       exact J ⟨L,λm hm=>WW N.1 hw hk (G m hm)⟩ (pU n rest (i+1) _ _ _ S' _ _ _ _ _ _ C D K Q hq)
theorem Kr {call:I8}(q:E4 P U ov call)(all:An)(f:Fm)(τ:Tau)(F:Ac)(s:SS)(hp:Hp)(tm:Ao)(ht:TD P U τ F f tm)(hs:SD P U τ F s hp):OKh P U (Ha P U call nt all f) τ F s hp λu τ' F' hp'=>∃tm',(EV λn=>iC P (C6 P ov n) nt all tm hp=some (tm',hp'))/\TD P U τ' F' u tm'/\ ∃pre,u=pre++f:=by
 intro Q hq _;unfold Ha at hq;cases g:stat all (aZ all [])with
 |false=>rw[g]at hq;exact hq.elim|true=>
  rw[g,Tk,A5]at hq;have K:(all.zip (aZ all [])).length=all.length:=by have:=g;simp only[stat,SR]at this;simp_all
  have G:SD P U τ F s ⟨hp.m,hp.nx+all.length⟩:=⟨hs.live,hs.inj,hs.frz,λb i o h=>TX (hs.lt b i o h) (Nat.le_add_right _ _),λi b h=>TX (hs.flt i b h) (Nat.le_add_right _ _),hs.new,hs.fc,hs.fz⟩
  have A:Ext τ F s hp τ F s ⟨hp.m,hp.nx+all.length⟩:=⟨VG τ,Vd F,Nat.le_add_right _ _,Tq _,λ_ _=>rfl,λb x hb _=>⟨x,hb⟩,
   ⟨[],rfl,λ_ _ _=>rfl,λb i o hb ht=>(by rw[hs.new b hb]at ht;cases ht),λ_ _ _ h=>.inl h,λ_ _ _ h=>h⟩,⟨[],rfl⟩,⟨[],rfl,λ_ _ _ _ _ _ cs _ _ _ _ hg _=>⟨cs,hg,λ_ _=>rfl⟩⟩⟩
  have N:DA P U τ F s hp all.length 0 τ F s ⟨hp.m,hp.nx+all.length⟩ f tm [] [] 0:=by
   refine⟨G,ht,A,Tq _,λj _=>Nat.zero_testBit j,.nil,.nil,λp hp=>by grind,λj _ _=>⟨λc o hc=>?_,?_⟩,λe he=>by grind⟩;have:=hs.lt c _ o hc;omega
   .cases hF:F (hp.nx+j)with
    |none=>rfl|some y=>have:=hs.flt _ y hF;omega
  have hb:DB P ⟨hp.m,hp.nx+all.length⟩ 0 τ F s ⟨hp.m,hp.nx+all.length⟩ [] []:=by refine⟨λe he=>by grind,λe he=>by grind,λe he=>by grind,λe he=>by grind,λk Sk r b x j o _ _ _=>?_,λk Sk r _ j y hj=>?_,λe he=>by grind⟩;rcases r with⟨_,rfl⟩| ⟨x,hx,_⟩;rfl;grind;rcases r with⟨_,rfl⟩| ⟨x,hx,_⟩;exact hs.frz j y hj;grind
  obtain⟨u,J,s',E,τ',F',out,M,⟨R,B⟩,d,z,pr,D⟩:=pU q (all.zip (aZ all [])) 0 τ F s _ f tm [] [] [] 0 N hb (by omega) _ hq;obtain⟨t1,t2,_,_⟩:=d.take (xZ out.I) (λe he C=>by unfold xZ;rw[TP];constructor;exact d.tk e he C;rintro ⟨p,hp,L⟩;rw[<-L];exact(d.pds p hp).un);have t:dyn P ⟨hp.m,hp.nx+all.length⟩ out.es=true:=by
   unfold dyn;rw[Ty];intro e he;cases hc:e.wt&&Nat.beq (j4 e.o.op) 1 with
   |false=>rfl|true=>
    rw[Tk];rw[SR]at hc;have look:=z.look e he hc.1 (SY hc.2);rw[SR];refine⟨(look 0 _ (.inl ⟨rfl,rfl⟩)).look,?_⟩;rw[Ty];intro x hx;cases O:isW x with
    |false=>rfl|true=>exact(look _ _ (.inr ⟨x,hx,O,rfl,rfl⟩)).look
  refine⟨u,fF s' J,E,τ',F',takes hp.nx (xZ out.I) out.es out.S,t2,t1,out.tm,⟨R,λm hm=>?_⟩,d.td,pr,D⟩;have e:=B m hm;show iC P (C6 P ov m) nt all tm hp=_;unfold iC;rw[g,Tk,e];simp only[t,Tk]
def EF {call:I8}(d:E4 P U ov call):bW P U ov nt (NE P U call nt):=by intro all f τ F s hp tm ht hs Q hq e;obtain⟨g,s',h1,τ',F',hp',h2,h3,tm',h4,h⟩:=Kr d all f τ F s hp tm ht hs Q hq e;exact⟨g,s',h1,τ',F',hp',h2,h3,tm',h4.mono λn k=>by unfold v6;rw[k],h⟩
end
section
variable {P :Aw}{U:Ab}
variable {τ1 τ2:Tau}{F0 F1:Ac}{a:SV}
theorem VD.re {τ0:Tau}{u y:Av}(h0:VD P U τ0 F0 a u)(h1:VD P U τ1 F1 a y)(B:∀b p,τ0 b=some p->τ2 b=τ1 b):VD P U τ2 F1 a y:=by
 induction h1 generalizing u with
 |any v=>exact .any v|int k e=>exact .int k e|bool e=>exact .bool e|str e=>exact .str e|nilp=>exact .nilp|ptr b z row fld i o k h=>
  cases h0 with
  |ptr _ _ _ _ N o' k' _=>exact .ptr b z row fld i o (by grind) h
 |pptr t L row fld i o l c k h h'=>exact .pptr t L row fld i o l c k h h'|rp row fld h=>exact .rp row fld h|rpq e v h=>exact .rpq e v h|rv L z xs h=>exact .rv L z xs h|nils=>exact .nils|sl b z off len cap i o c k h h' hc=>
  have hb:∃p,τ0 b=some p:=by cases h0<;>exact⟨_,by omega⟩
  obtain⟨p,hp⟩:=hb;exact .sl b z off len cap i o c (by grind) h h' hc
 |sl0 b z off len cap k h h' hc=>
  have hb:∃p,τ0 b=some p:=by cases h0<;>exact⟨_,by omega⟩
  obtain⟨p,hp⟩:=hb;exact .sl0 b z off len cap (by grind) h h' hc
 |lst t L clip v k hc=>exact .lst t L clip v k hc|agg l xs j _ q=>
  cases h0 with
  |agg _ ys n h2=>refine .agg l xs j λi a x d hx=>?_;grind
 |tup l xs j _ q=>
  cases h0 with
  |tup _ ys n h2=>refine .tup l xs j λi a x d hx=>?_;grind
 |fn f l m xs ys j _ n _ C D=>
  cases h0 with
  |fn _ _ _ G J K k3 M k4=>refine .fn f l m xs ys j (λi a x d hx=>?_) n (λi a x d hx=>?_);grind;grind
 |nilf=>exact .nilf|yld ks vs g nt ps as bo i tms pr db hF hp _ q=>
  cases h0 with
  |yld _ _ _ _ _ _ _ i0 r E A _ _ k0=>exact .yld ks vs g nt ps as bo i tms pr db hF hp λk a d=>q k a d (k0 k a d)
def BD.re {τ0:Tau}{x:B0}{o0 k:Nat}{y m:Blk}(h0:BD P U τ0 F0 o0 x y)(h1:BD P U τ1 F1 k x m)(d:∀b p,τ0 b=some p->τ2 b=τ1 b):BD P U τ2 F1 k x m:=by
 cases x with
 |cells l e z=>obtain⟨q,n0,_,_,k0⟩:=h0;obtain⟨cs,n,t,u,k1⟩:=h1;refine⟨cs,n,t,u,λj a h=>?_⟩;obtain⟨x,hx,hv⟩:=k1 j a h;obtain⟨x0,_,g⟩:=k0 j a h;exact⟨x,hx,g.re hv d⟩
 |rows L e z ph=>exact h1|iter s p=>exact h1|reg r L z=>obtain⟨_,k0,_⟩:=h0;obtain⟨e0,k1,k2⟩:=h1;exact⟨e0,(d _ _ k0).trans k1,k2⟩
def E6 (P:Aw)(U:Ab)(x:B0):Prop:=∃L e z ph,x= .rows L e z ph/\L.toR U=[]/\z=(kf P e).length/\ph.toI U<=0
theorem SD.rebase {F:Ac}{s1 s2:SS}{hp:Hp}(hs:SD P U τ1 F s1 hp)(g:Nat->Nat)(h:∀b x,s2.get b=some x-> ∃x',s1.get (g b)=some x'/\τ2 b=τ1 (g b)/\(∀i o y,τ1 (g b)=some (some (i,o))->hp.m.get i=some y->BD P U τ1 F o x' y->BD P U τ2 F o x y)/\(E6 P U x'->E6 P U x))(hg:∀b c x y,s2.get b=some x->s2.get c=some y->b≠c->g b≠g c)(hlt:∀b i o,τ2 b=some (some (i,o))->i<hp.nx)(hn:∀b,s2.nx<=b->τ2 b=none)(hf:FT U s2.fc)(hz:∀r∈s2.fz,Jt P U τ2 F r):SD P U τ2 F s2 hp:=by refine⟨λb x hb=>?_,λb c x y i o j q hb hc d e k=>?_,hs.frz,hlt,hs.flt,hn,hf,hz⟩;obtain⟨x',h1,h2,h3,h4⟩:=h b x hb;rcases hs.live _ _ h1 with⟨i,o,y,k1,k2,k3,k4⟩| ⟨k1,k2⟩;grind;exact .inr ⟨by grind,h4 k2⟩;obtain⟨x',h1,h2,_⟩:=h b x hb;obtain⟨n,k1,k2,_⟩:=h c y hc;rw[h2]at e;rw[k2]at k;exact hs.inj _ _ x' n i o j q h1 k1 (hg b c x y hb hc d) e k
inductive G where
 |keep
 |any
 |int (k:IntKind)
 |bool
 |str
 |lst (t:Ax)
 |acc (e:Ax) (z:Nat)
 |clp (t:Ax)
 |itr (s:E)
 |rwk (b:Nat) (e:Ax) (z:Nat) (ph:E)
 |rpt
 |rgk (b z:Nat)
 |rgl (z:Nat)
 |pp (t:Ax)
def G.so :G->Bb So
 | .int _=>some .i| .bool=>some .b| .str=>some .s| .lst _=>some .l| .clp _=>some .l| .acc _ _=>some .l| .itr _=>some .i| .rwk _ _ _ _=>some .l| .rpt=>some .i| .rgk _ _=>some .l| .rgl _=>some .l| .pp _=>some .l|_=>none
def G.na :G->Nat
 | .acc _ _=>1| .itr _=>1|_=>0
def wk1 :E->Cp->Cp
 | .int 1,.ex (.int 1)=>.un|_,c=>c
def fS :SV->Cp
 | .nils=>.ge| .sl _ _ _ n (.ex c)=>wk1 n (.ex c)| .sl _ _ _ _ .ge=>.ge|_=>.un
def phOf (L:E):Cp->E
 | .ex c=>c| .ge=>A4 L| .un=>A4 L
def tv (g:G)(a:SV)(e:E)(b:Nat):SV:=match g with
 | .keep=>a| .any=>.any| .int k=>.int k e| .bool=>.bool e| .str=>.str e| .lst t=>.lst t e false| .clp t=>.lst t e true| .acc _ z=>.sl b z (.int 0) (A4 e) (fS a)| .itr _=>.ptr b 1 (.int 0) 0| .rwk _ _ _ _=>.any| .rpt=>.rpq e| .rgk _ _=>.any| .rgl z=>.rv e z| .pp t=>.pptr t e (.int 0) 0
def G.blk (g:G)(a:SV)(d:E):Bb B0:=match g with
 | .acc e z=>some (.rows d e z (phOf d (fS a)))| .itr s=>some (.iter s d)|_=>none
def G.fix (g:G)(d:E):Bb (Nat×B0):=match g with
 | .rwk b e z ph=>some (b,.rows d e z ph)| .rgk b z=>some (b,.reg b d z)|_=>none
def hd1 :Au->E
 | []=>.int 0|e::_=>e
def tl1 :Au->Au
 | []=>[]
 |_::l=>l
def pop (g:G)(es:Au):Au:=match g.so with
 |some _=>tl1 es|none=>es
inductive At where
 |tmp (t:Nat)
 |cell (b j:Nat)
 |no
structure Pl where
 at_:At
 g:G
 a:SV
def bY :List Pl->Au->Nat->List (At×SV)
 | [],_,_=>[]
 |p::l,es,b=>(p.at_,tv p.g p.a (hd1 es) b)::bY l (pop p.g es) (b+p.g.na)
def fI :List Pl->Au->Nat->List (Nat×Bb B0)
 | [],_,_=>[]
 |p::l,es,b=>match p.g.blk p.a (hd1 es)with
  |some X=>(b,some X)::fI l (pop p.g es) (b+p.g.na)|none=>match p.g.fix (hd1 es)with
   |some q=>(q.1,some q.2)::fI l (pop p.g es) (b+p.g.na)|none=>fI l (pop p.g es) (b+p.g.na)
def LC {U:Ab}{len:E}{cap:Cp}{c:Nat}(h:mI U len cap c):mI U len (wk1 len cap) c:=by unfold wk1;split;obtain⟨_,h1,h2,_⟩:=h;exact .inl ⟨h2,h1,by show(1:Int)<=67108864;decide⟩;exact h
def Sv {len e:E}{cap:Cp}(h:wk1 len cap= .ex e):cap= .ex e:=by unfold wk1 at h;split at h;cases h;exact h
def VD.wk1 {P:Aw}{U:Ab}{τ:Tau}{F:Ac}{b z:Nat}{off len:E}{cap:Cp}{x:Av}(h:VD P U τ F (.sl b z off len cap) x):VD P U τ F (.sl b z off len (wk1 len cap)) x:=by
 cases h with
 |sl _ _ _ _ _ i o c k h0 h1 hc=>exact .sl b z off len _ i o c k h0 h1 (LC hc)|sl0 _ _ _ _ _ k h0 h1 hc=>exact .sl0 b z off len _ k h0 h1 λe he=>hc e (Sv he)
def rC (P:Aw)(U:Ab)(g:G)(v:SV):M SV:=match g with
 | .lst t=>c8 (xW P U 20 (.sl t) v) λe=>i5 (.lst t e false)
 | .clp t=>match v with
  | .lst t' L c=>bif c then i5 (.lst t' L c)else b9 "a list with room behind it"| .nils=>i5 (.lst t (.op .nil []) true)| .sl b z off len (.ex c)=>c8 (l9 U (E9 c len)) λ_=>c8 (xW P U 20 (.sl t) (.sl b z off len (.ex c))) λe=>i5 (.lst t e true)
  |_=>b9 "a slice with room behind it"
 | .acc e z=>match v with
  | .sl b z' off len cap=>c8 (zW P b) λ_=>i5 (.sl b z' off len (wk1 len cap))
  | .nils=>bif Nat.beq z (kf P e).length then c8 (dZ (.rows (.op .nil []) e z (.int 0))) λb=>i5 (.sl b z (.int 0) (.int 0) .ge)else b9 "loop: cells"
  |_=>b9 "loop: no slice"
 | .pp t=>match v with
  | .ptr b z (.int 0) 0=>v8 λs=>match s.get b with
   |some (.cells _ _ _)=>c8 (xW P U 20 (.sl t) (.sl b z (.int 0) (.int 1) (.ex (.int 1)))) λe=>c8 (l9 U (E9 (A4 e) (.int 1))) λ_=>i5 (.pptr t e (.int 0) 0)
   |_=>i5 v
  |_=>i5 v
 |_=>i5 v
def norm (P:Aw)(U:Ab):List Pl->As->M (As)
 |p::l,v::vs=>c8 (rC P U p.g v) λv'=>c8 (norm P U l vs) λvs'=>i5 (v'::vs')
 | [],[]=>i5 []|_,_=>b9 "loop: places"
def svp :SV->SV->Bool
 | .ptr b z (.int m) f,.ptr b' z' (.int m') f'=>Nat.beq b b'&&Nat.beq z z'&&decide (m=m')&&Nat.beq f f'| .nilp,.nilp=>true| .nilf,.nilf=>true| .nils,.nils=>true| .int k (.int m),.int k' (.int m')=>decide (k=k')&&decide (m=m')|_,_=>false
def Oe :As->As->Bool
 | [],[]=>true|a::l,b::m=>svp a b&&Oe l m|_,_=>false
def svk (a v:SV):Bool:=svp a v||match a,v with
 | .fn f l m,.fn g l' m'=>decide (f=g)&&Oe l l'&&Oe m m'|_,_=>false
def Od {v:SV}(h:svp a v=true):a=v:=by
 unfold svp at h;split at h<;>first
  |rfl
  |cases h
  | (simp at h
     obtain⟨⟨⟨rfl,rfl⟩,rfl⟩,rfl⟩:=h;rfl)
  | (simp at h
     rfl)
  | (rw[SY h])
def CF :∀ {l m:As},Oe l m=true->l=m
 | [],[],_=>rfl| [],_::_,h=>by cases h
 |_::_,[],h=>by cases h
 |a::l,b::m,h=>by unfold Oe at h;rw[SR]at h;rw[Od h.1,CF h.2]
def Sq {v:SV}(h:svk a v=true):a=v:=by unfold svk at h;rw[Uu]at h;rcases h with h|h;exact Od h;split at h;simp at h;rw[h.1.1,CF h.1.2,CF h.2];cases h
def mt1 (U:Ab)(g:G)(a v:SV):M (Bb E×Ai):=match g with
 | .keep=>bif svk a v then i5 (none,none)else b9 "loop: a place that has changed"| .any=>i5 (none,none)| .int k=>match v with
  | .int k' e=>bif decide (k=k')then i5 (some e,none)else b9 "loop: kind"|_=>b9 "loop: no int"
 | .bool=>match v with
  | .bool e=>i5 (some e,none)|_=>b9 "loop: no bool"
 | .str=>match v with
  | .str e=>i5 (some e,none)|_=>b9 "loop: no string"
 | .lst t=>match v with
  | .lst t' L _=>bif Nat.beq t t' then i5 (some L,none)else b9 "loop: type"|_=>b9 "loop: no list"
 | .clp t=>match v with
  | .lst t' L c=>bif c&&Nat.beq t t' then i5 (some L,none)else b9 "loop: type"|_=>b9 "loop: no list"
 | .acc e z=>match v with
  | .sl b z' (.int m) len cap=>v8 λs=>match s.get b with
   | some (.rows L e' z'' ph) => bif Nat.beq e e' && Nat.beq z z' && Nat.beq z z'' && decide (m = 0) then
     c8 (l9 U (y5 (y6 (A4 L) len))) λ_=>c8 (W6 U L (.int 0) len) λd=>match fS a,cap with
      | .un,.ge=>i5 (some d,some b)| .un,.un=>i5 (some d,some b)| .ge,.ge=>i5 (some d,some b)| .un,.ex c'=>c8 (l9 U (E9 c' len)) λ_=>c8 (l9 U (y6 len (.int 67108865))) λ_=>i5 (some d,some b)
      | .ex c,.ex c'=>c8 (l9 U (E9 c' c)) λ_=>c8 (l9 U (y5 (y6 ph c))) λ_=>i5 (some d,some b)
      |_,_=>b9 "loop: capacity"
    else b9 "loop: slice"
   |_=>b9 "loop: block"
  |_=>b9 "loop: no slice"
 | .itr s0=>match v with
  | .ptr b z (.int m) f=>v8 λs=>match s.get b with
   |some (.iter s' pos)=>bif Nat.beq z 1&&decide (m=0)&&Nat.beq f 0 then c8 (l9 U (mW s' s0)) λ_=>i5 (some pos,some b)else b9 "loop: iterator"
   |_=>b9 "loop: block"
  |_=>b9 "loop: no iterator"
 | .rwk b e z ph=>v8 λs=>match s.get b with
  |some (.rows L e' z' ph')=>bif Nat.beq e e'&&Nat.beq z z' then c8 (l9 U (y5 (y6 ph' ph))) λ_=>i5 (some L,none)else b9 "loop: rows"
  |_=>b9 "loop: no rows"
 | .rpt=>match v with
  | .rpq e=>i5 (some e,none)| .rp e 0=>i5 (some e,none)| .nilp=>i5 (some (.int (-1)),none)|_=>b9 "loop: no pointer to a row"
 | .pp t=>match v with
  | .pptr t' L row 0=>bif Nat.beq t t' then i5 (some (.op .part [L,row,.int 1]),none)else b9 "pointer: type"|_=>b9 "no pointer to a value"
 | .rgl z=>match v with
  | .rv L z'=>bif Nat.beq z z' then i5 (some L,none)else b9 "rows: size"|_=>b9 "rows"
 | .rgk b z=>v8 λs=>match s.get b with
  |some (.reg r L z')=>bif Nat.beq r b&&Nat.beq z z' then i5 (some L,none)else b9 "loop: rows"|_=>b9 "loop: no rows"
variable (U) in
def nL :So->E->E->Prop
 | .i,e,d=>e.toI U=d.toI U| .b,e,d=>(e.den U).toBool=(d.den U).toBool| .s,e,d=>(e.den U).toStr=(d.den U).toStr| .l,e,d=>e.toR U=d.toR U
variable {τ :Tau}{F:Ac}{s:SS}{hp:Hp}
variable (P U) in
def KW (τ:Tau)(F:Ac)(s:SS)(so:So)(mk:E->Bb B0)(r:Bb E×Ai):Prop:=
 ∃b L x',r.2=some b/\r.1=some L/\s.get b=some x'/\ ∀d,nL U so L d-> ∃X,mk d=some X/\
  (∀(τ2:Tau) o y,BD P U τ F o x' y->BD P U τ2 F o X y)/\(E6 P U x'->E6 P U X)
variable (P U) in
def QG (τ:Tau)(F:Ac)(s:SS)(g:G)(r:Bb E×Ai):Prop:=
 ∀d0 p,g.fix d0=some p->g.so=some .l/\ ∃L x',r.1=some L/\s.get p.1=some x'/\ ∀d,nL U .l L d-> ∃X,g.fix d=some (p.1,X)/\
  (∀(τ2:Tau) o y,τ2 p.1=τ p.1->BD P U τ F o x' y->BD P U τ2 F o X y)/\(E6 P U x'->E6 P U X)
variable (P U) in
def MtOK (τ0:Tau)(τ:Tau)(F:Ac)(s:SS)(g:G)(a v:SV)(r:Bb E×Ai):Prop:=
 (∀so,g.so=some so-> ∃e,r.1=some e)/\(g.so=none->r.1=none)/\(g.na=0->r.2=none)/\
 (∀x,VD P U τ F v x-> ∀(τ2:Tau) (nb:Nat) (d:E),(∀b p,τ0 b=some p->τ2 b=τ b)->(∃F0 x0,VD P U τ0 F0 a x0)->(∀e so,r.1=some e->g.so=some so->nL U so e d)->(∀b,r.2=some b->τ2 nb=τ b)->VD P U τ2 F (tv g a d nb) x)/\
 (g.na≠0-> ∃so,g.so=some so/\KW P U τ F s so (g.blk a) r)/\QG P U τ F s g r
theorem Gy (τ0:Tau)(g:G)(a v:SV):OKp U (mt1 U g a v) s λr=>∀s',s'.h=s.h->MtOK P U τ0 τ F s' g a v r:=by
 cases g with
 |keep=>
  simp only[mt1];cases h:svk a v with
  |false=>exact Vl|true=>have:=Sq h;subst this;exact Vq λs' _=>⟨λso h=>(by cases h),λ_=>rfl,λ_=>rfl,λx hx τ2 nb d hk ⟨F0,x0,h0⟩ _ _=>h0.re hx hk,λh=>absurd rfl h,λu p h=>(by cases h)⟩
 |any=>exact Vq λs' _=>⟨λso h=>(by cases h),λ_=>rfl,λ_=>rfl,λx hx τ2 nb d hk _ _ _=>.any x,λh=>absurd rfl h,λu p h=>(by cases h)⟩
 |int k=>
  simp only[mt1];split
  .rename_i k' e;cases h:decide (k=k')with
   |false=>exact Vl|true=>
    rw[To]at h;subst h;refine Vq λs' _=>⟨λso h=>⟨e,rfl⟩,λh=>(by cases h),λ_=>rfl,λx hx τ2 nb d hk _ j _=>?_,λh=>absurd rfl h,λu p h=>(by cases h)⟩
    have:=j e .i rfl rfl;cases hx;rw[show e.toI U=d.toI U from this];exact .int k d
  exact Vl
 |bool=>
  simp only[mt1];split
  .rename_i e;refine Vq λs' _=>⟨λso h=>⟨e,rfl⟩,λh=>(by cases h),λ_=>rfl,λx hx τ2 nb d hk _ j _=>?_,λh=>absurd rfl h,λu p h=>(by cases h)⟩
   have:=j e .b rfl rfl;cases hx;rw[show(e.den U).toBool=(d.den U).toBool from this];exact .bool d
  exact Vl
 |str=>
  simp only[mt1];split
  .rename_i e;refine Vq λs' _=>⟨λso h=>⟨e,rfl⟩,λh=>(by cases h),λ_=>rfl,λx hx τ2 nb d hk _ j _=>?_,λh=>absurd rfl h,λu p h=>(by cases h)⟩
   have:=j e .s rfl rfl;cases hx;rw[show(e.den U).toStr=(d.den U).toStr from this];exact .str d
  exact Vl
 |lst t=>
  simp only[mt1];split
  .rename_i t' L clip;cases h:Nat.beq t t' with
   |false=>exact Vl|true=>
    have:=SY h;subst this;refine Vq λs' _=>⟨λso h=>⟨L,rfl⟩,λh=>(by cases h),λ_=>rfl,λx hx τ2 nb d hk _ j _=>?_,λh=>absurd rfl h,λu p h=>(by cases h)⟩
    have:=j L .l rfl rfl;cases hx with
    |lst _ _ _ _ hp hc=>exact .lst t d false x (by rw[<-show L.toR U=d.toR U from this];exact hp) (λh=>by cases h)
  exact Vl
 |clp t=>
  simp only[mt1];split
  .rename_i t' L clip;cases h:clip&&Nat.beq t t' with
   |false=>exact Vl|true=>
    rw[SR]at h;obtain⟨rfl,h⟩:=h;have:=SY h;subst this;refine Vq λs' _=>⟨λso h=>⟨L,rfl⟩,λh=>(by cases h),λ_=>rfl,λx hx τ2 nb d hk _ j _=>?_,λh=>absurd rfl h,λu p h=>(by cases h)⟩
    have:=j L .l rfl rfl;cases hx with
    |lst _ _ _ _ hp hc=>exact .lst t d true x (by rw[<-show L.toR U=d.toR U from this];exact hp) hc
  exact Vl
 |itr s0=>
  simp only[mt1];split
  .rename_i b z m f;refine Vp ?_;split
   .rename_i s' pos hb;cases hc:Nat.beq z 1&&decide (m=0)&&Nat.beq f 0 with
    |false=>exact Vl|true=>
     simp only[SR,TJ,To]at hc;obtain⟨⟨rfl,rfl⟩,rfl⟩:=hc;refine OKp.need.bind λ_ s1 o1 _ n1=>Vq λs2 aj=>?_;have ac:(s'.den U).toStr=(s0.den U).toStr:=by have:=(Va U _).1 n1;rw[T6]at this;grind
     refine⟨λso h=>⟨pos,rfl⟩,λh=>(by cases h),λh=>(by cases h),λx hx τ2 nb d hk _ j R=>?_,λ_=>⟨.i,rfl,b,pos,.iter s' pos,rfl,rfl,by unfold SS.get;rw[aj];exact hb,λd j=>⟨_,rfl,?_,?_⟩⟩,λu p h=>(by cases h)⟩
     .cases hx with
      |ptr _ _ _ _ i o h h0=>exact .ptr nb 1 (.int 0) 0 i o (by rw[R b rfl];exact h) h0
     rintro τ2 o y ⟨e0,n,O,X⟩;exact⟨e0,n,by rw[<-ac];exact O,by rw[<-X];exact j.symm⟩;rintro ⟨L,e,z,ph,h,_⟩;cases h
   exact Vl
  exact Vl
 |rpt=>
  simp only[mt1];split
  .rename_i e;refine Vq λs' _=>⟨λso h=>⟨e,rfl⟩,λh=>(by cases h),λ_=>rfl,λx hx τ2 nb d hk _ j _=>?_,λh=>absurd rfl h,λu p h=>(by cases h)⟩
   have:=j e .i rfl rfl;cases hx with
   |rpq _ _ h=>exact .rpq d x (by rw[<-show e.toI U=d.toI U from this];exact h)
  .rename_i e;refine Vq λs' _=>⟨λso h=>⟨e,rfl⟩,λh=>(by cases h),λ_=>rfl,λx hx τ2 nb d hk _ j _=>?_,λh=>absurd rfl h,λu p h=>(by cases h)⟩
   have:=j e .i rfl rfl;cases hx with
   |rp _ _ h0=>exact .rpq d _ (by rw[<-show e.toI U=d.toI U from this,show e.toI U=((e.toN U:Nat):Int) by show e.toI U=((e.toI U).toNat:Int);omega];exact .rp _)
  .refine Vq λs' _=>⟨λso h=>⟨_,rfl⟩,λh=>(by cases h),λ_=>rfl,λx hx τ2 nb d hk _ j _=>?_,λh=>absurd rfl h,λu p h=>(by cases h)⟩
   have:=j _ .i rfl rfl;cases hx with
   |nilp=>exact .rpq d _ (by rw[<-show(-1:Int)=d.toI U from this];exact .rpn)
  exact Vl
 |pp t=>
  simp only[mt1];split
  .rename_i t' L row;cases h:Nat.beq t t' with
   |false=>exact Vl|true=>
    have:=SY h;subst this;refine Vq λs' _=>⟨λso h=>⟨_,rfl⟩,λh=>(by cases h),λ_=>rfl,λx hx τ2 nb d hk _ j _=>?_,λh=>absurd rfl h,λu p h=>(by cases h)⟩
    have j:=j _ .l rfl rfl;have j:pQ (L.toR U) (row.toI U) 1=d.toR U:=j;cases hx with
    |pptr _ _ _ _ i o l c hp h0 h1=>
     generalize ai:L.toR U=rows at hp h1 j;cases hp with
     |sl _ _ _ _ b cs n z rows xx hF hb hc hn hz hr hx ah=>
      have A:yR (1:Int).toNat c/\roC b c _ z:=⟨by rcases hc.1 with⟨q1,q2⟩| ⟨lo,q1,q2,q3⟩;exact .inl ⟨q1,by have:(1:Int).toNat=1:=rfl;omega⟩;exact .inr ⟨lo,q1,q2,by have:(1:Int).toNat=1:=rfl;omega⟩,hc.2⟩
      have:=PV.cut (P:=P) (F:=F) hF hb hn hz hr hx ah h0 (show(0:Int)<=1 by omega) (by omega) A;rw[j]at this;have Y:((d.toR U).length:Int)=1:=by rw[<-j,V2 h0 (by omega) (by omega)];rfl
      exact VD.pptr' (row:= .int 0) this (Uh 0) (by rw[B4];omega) (by rw[<-hz];show _=o+(row.toI U).toNat*z+(0:Int).toNat*z+0;simp)
  exact Vl
 |rgl z=>
  simp only[mt1];split
  .rename_i L K;cases h:Nat.beq z K with
   |false=>exact Vl|true=>
    have:=SY h;subst this;refine Vq λs' _=>⟨λso h=>⟨L,rfl⟩,λh=>(by cases h),λ_=>rfl,λx hx τ2 nb d hk _ j _=>?_,λh=>absurd rfl h,λu p h=>(by cases h)⟩
    have:=j L .l rfl rfl;cases hx with
    |rv _ _ xs hp=>exact .rv d z xs (by rw[<-show L.toR U=d.toR U from this];exact hp)
  exact Vl
 |rgk b z=>
  simp only[mt1];refine Vp ?_;split
  .rename_i r L K hb;cases hc:Nat.beq r b&&Nat.beq z K with
   |false=>exact Vl|true=>simp only[SR,TJ]at hc;obtain⟨rfl,rfl⟩:=hc;rw[Tk];refine Vq λs' C=>?_;refine⟨λso h=>⟨L,rfl⟩,λh=>(by cases h),λ_=>rfl,λx hx τ2 nb d hk _ _ _=>.any x,λh=>absurd rfl h,λu p h=>⟨rfl,L,.reg r L z,rfl,?_,λd j=>⟨.reg r d z,?_,?_,?_⟩⟩⟩;simp only[G.fix,SQ]at h;subst h;unfold SS.get;rw[C];exact hb;simp only[G.fix,SQ]at h;subst h;rfl;simp only[G.fix,SQ]at h;subst h;rintro τ2 o y ht ⟨e0,O,cs,h1,h2⟩;have B:L.toR U=d.toR U:=j;exact⟨e0,ht.trans O,cs,by rw[<-B];exact h1,by rw[<-B];exact h2⟩;rintro ⟨L',e',K,ak,h1,h2,h3,h4⟩;cases h1
  exact Vl
 |rwk b e z ph=>
  simp only[mt1];refine Vp ?_;split
  .rename_i L e' K N hb;cases hc:Nat.beq e e'&&Nat.beq z K with
   |false=>exact Vl|true=>
    simp only[SR,TJ]at hc;obtain⟨rfl,rfl⟩:=hc;rw[Tk];refine OKp.need.bind λ_ s1 o1 _ n1=>Vq λs' C=>?_;have M:=A0 n1;refine⟨λso h=>⟨L,rfl⟩,λh=>(by cases h),λ_=>rfl,λx hx τ2 nb d hk _ _ _=>.any x,λh=>absurd rfl h,λu p h=>⟨rfl,L,.rows L e z N,rfl,?_,λd j=>⟨.rows d e z ph,?_,?_,?_⟩⟩⟩;simp only[G.fix,SQ]at h;subst h;unfold SS.get;rw[C];exact hb;simp only[G.fix,SQ]at h;subst h;rfl
    .rintro τ2 o y _ ⟨cs,n,h1,h2,h3⟩;have B:L.toR U=d.toR U:=j;refine⟨cs,n,h1,by rw[<-B];exact h2,?_⟩;have:ph.toN U<=N.toN U:=by show(ph.toI U).toNat<=(N.toI U).toNat;omega
     have:=Tg z this;omega
    rintro ⟨L',e',K,ak,h1,h2,h3,h4⟩;have B:L.toR U=d.toR U:=j;cases h1;exact⟨d,e,z,ph,rfl,by rw[<-B];exact h2,h3,by omega⟩
  exact Vl
 |acc e z=>
  simp only [mt1];split
  .rename_i b K m len cap;refine Vp ?_;split
   .rename_i L e' al ph hb;cases hc:Nat.beq e e'&&Nat.beq z K&&Nat.beq z al&&decide (m=0)with
    |false=>exact Vl|true=>
     simp only[SR,TJ,To]at hc;obtain⟨⟨⟨rfl,rfl⟩,rfl⟩,rfl⟩:=hc;rw[Tk];refine OKp.need.bind λ_ s1 o1 _ n1=>B7.bind λD s2 o2 _ hD=>?_;have ao:len.toI U<=((L.toR U).length:Int):=by have:=A0 n1;rwa[i7]at this
     have ab:D.toR U=(L.toR U).take (len.toN U):=by show(D.den U).rows=_;rw[hD];show pQ (L.toR U) 0 (len.toI U)=_;unfold pQ;simp
     have J:∀(A:∀(c:Nat) (n:E),n.toI U=len.toI U->mI U len cap c->mI U n (fS a) c) (V:∀c,fS a= .ex c-> ∃c',cap= .ex c'/\c'.toI U=c.toI U)
       (M:∀c,fS a= .ex c->c.toI U<=ph.toI U) (s':SS),s'.h=s.h->MtOK P U τ0 τ F s' (.acc e z) a (.sl b z (.int 0) len cap) (some D,some b):=by
      intro A V M s' C;have Z:∀ {d:E},nL U .l D d->d.toR U=(L.toR U).take (len.toN U):=λh=>by rw[<-ab];exact h.symm
      refine⟨λso _=>⟨D,rfl⟩,λh=>(by cases h),λh=>(by cases h),λx hx τ2 nb d hk _ j R=>?_,λ_=>⟨.l,rfl,?_⟩,λu p h=>(by cases h)⟩
      .have B:=Z (j D .l rfl rfl);have aa:=R b rfl;have am:0<=len.toI U:=by cases hx<;>omega
       have Y:(A4 d).toI U=len.toI U:=by rw[i7,B,TE];grind
       have ae:(A4 d).toN U=len.toN U:=by grind
       cases hx with
       |sl _ _ _ _ _ i o c k1 k2 k3 k4=>show VD P U τ2 F (.sl nb z (.int 0) (A4 d) (fS a)) _;rw[<-ae];exact .sl nb z (.int 0) (A4 d) (fS a) i o c (by rw[aa];exact k1) (Uh 0) (by omega) (A c _ Y k4)|sl0 _ _ _ _ _ k1 k2 k3 k4=>refine .sl0 nb z (.int 0) (A4 d) (fS a) (by rw[aa];exact k1) rfl (by omega) λc hc=>?_;grind
      .refine⟨b,D,.rows L e z ph,rfl,rfl,by unfold SS.get;rw[C];exact hb,λd j=>⟨_,rfl,?_⟩⟩;have B:=Z j;have W:(d.toR U).length<=(L.toR U).length:=by grind
       constructor
       .rintro τ2 o y ⟨cs,n,h1,⟨h2,h3,h4,h5⟩,h6⟩;refine⟨cs,n,h1,⟨?_,h3,λr hr=>h4 r ?_,λr k row dd hr ad=>h5 r k row dd ?_ ad⟩,?_⟩;have:=Tg z W;omega;grind;grind
        .cases T:fS a with
         |ge=>
          have:(phOf d .ge).toN U=(d.toR U).length:=by show((A4 d).toI U).toNat=_;rw[i7];omega
          rw[this];have:=Tg z W;omega
         |un=>
          have:(phOf d .un).toN U=(d.toR U).length:=by show((A4 d).toI U).toNat=_;rw[i7];omega
          rw[this];have:=Tg z W;omega
         |ex c=>
          have h7:=M c T;have:(phOf d (.ex c)).toN U<=ph.toN U:=by show(c.toI U).toNat<=(ph.toI U).toNat;omega
          have:=Tg z this;omega
       .rintro ⟨L',e',K,N,h1,h2,h3,h4⟩;cases h1;refine⟨d,e,z,_,rfl,by rw[B,h2];simp,h3,?_⟩;cases T:fS a with
        |ge=>show(A4 d).toI U<=0;rw[i7,B,h2];simp|un=>show(A4 d).toI U<=0;rw[i7,B,h2];simp|ex c=>have h7:=M c T;show c.toI U<=0;omega
     split;rename_i q;refine Vq (J (λc n hn hc=>?_) (λc hc=>by rw[q]at hc;cases hc) (λc hc=>by rw[q]at hc;cases hc));rw[q];obtain⟨lo,h1,h2,h3⟩:=hc;exact Or.inr ⟨lo,h1,h2,by omega⟩;rename_i q;refine Vq (J (λc n hn hc=>?_) (λc hc=>by rw[q]at hc;cases hc) (λc hc=>by rw[q]at hc;cases hc));rw[q];rcases hc with⟨h1,h2,h3⟩| ⟨lo,h1,h2,h3⟩;exact Or.inl ⟨h1,by rw[h2];show(len.toI U).toNat=(n.toI U).toNat;rw[hn],by omega⟩;exact Or.inr ⟨lo,h1,h2,by omega⟩;rename_i q;refine Vq (J (λc n hn hc=>?_) (λc hc=>by rw[q]at hc;cases hc) (λc hc=>by rw[q]at hc;cases hc));rw[q];obtain⟨lo,h1,h2,h3⟩:=hc;exact⟨lo,h1,h2,by omega⟩;rename_i c' q;refine OKp.need.bind λ_ s3 _ _ n2=>OKp.need.bind λ_ s4 _ _ n3=>?_;have O:=aN n2;have X:=C0 n3;simp only[B4]at X;refine Vq (J (λk n hn hc=>?_) (λc hc=>by rw[q]at hc;cases hc) (λc hc=>by rw[q]at hc;cases hc));rw[q];obtain⟨h1,h2,h3,h4⟩:=hc;exact Or.inl ⟨h3,by rw[h2];show(c'.toI U).toNat=(n.toI U).toNat;rw[O,hn],by omega⟩;rename_i c c' q;refine OKp.need.bind λ_ s3 _ _ n2=>OKp.need.bind λ_ s4 _ _ n3=>?_;have O:=aN n2;have X:=A0 n3;refine Vq (J (λk n hn hc=>?_) (λc2 hc=>?_) (λc2 hc=>?_));rw[q];obtain⟨h1,h2,h3,h4⟩:=hc;exact⟨by omega,by rw[h2];show(c'.toI U).toNat=(c.toI U).toNat;rw[O],h3,by omega⟩;rw[q]at hc;cases hc;exact⟨c',rfl,O⟩;rw[q]at hc;cases hc;exact X;exact Vl
   exact Vl
  exact Vl
end
section
variable {P :Aw}{U:Ab}
variable {F:Ac}
def PV.lst_eq {e:Ax}{v:Av}{d:Dat}(h:PV P F (.sl e) v d):d= .l d.rows:=by cases h<;>rfl
theorem uU {τ:Tau}{s:SS}{hp:Hp}(g:G){v:SV}{x:Av}(hv:VD P U τ F v x)(hs:SD P U τ F s hp):OKh P U (rC P U g v) τ F s hp λn τ' F' hp'=>hp'=hp/\VD P U τ' F' n x:=by
 cases g with
 |lst t=>simp only[rC];refine(aR 20 (.sl t) v x τ F s hp hv hs).bind λe τ1 F1 s1 hp1 _ hs1 ⟨h1,h2,h3⟩=>Vk ⟨h2,?_⟩;have:=h3.lst_eq;rw[this]at h3;exact .lst t e false x h3 (λh=>by cases h)
 |clp t=>
  simp only[rC];split
  .rename_i D L c;cases c with
   |false=>exact Vi|true=>exact Vk ⟨rfl,hv⟩
  cases hv;exact Vk ⟨rfl,.lst t _ true _ (.nils t) (λ_=>⟨_,_,rfl⟩)⟩
  .rename_i b z off len c;refine Vg Vm λ_ s1 r hs1 p1=>?_;have p1:=aN p1;refine(aR 20 (.sl t) _ x τ F s1 hp hv hs1).bind λe τ1 F1 s2 hp1 _ d ⟨h1,h2,h3⟩=>Vk ⟨h2,?_⟩;have:=h3.lst_eq;rw[this]at h3;refine .lst t e true x h3 (λ_=>?_);cases hv with
   |sl _ _ _ _ _ i o c' k1 k2 k3 k4=>obtain⟨y,A,B,C⟩:=k4;grind
   |sl0=>grind
  exact Vi
 |acc e z=>
  simp only[rC];split;rename_i b q off len cap;refine(gF hs).bind λ_ τ1 F1 s1 hp1 _ hs1 ⟨h1,h2,h3⟩=>Vk ⟨h3,?_⟩;rw[h1,h2];exact hv.wk1
  .cases hz:Nat.beq z (kf P e).length with
   |false=>exact Vi|true=>rw[Tk];have m:=SY hz;refine OKh.bind (R:=λb τ' F' hp'=>hp'=hp/\τ' b=some none) ?_ λb τ1 F1 s1 hp1 _ hs1 ⟨h1,h2⟩=>Vk ⟨h1,?_⟩;intro Q hq _;obtain⟨h1,h2⟩:=hs.alloc (x:= .rows (.op .nil []) e z (.int 0)) (p:=none) (hp':=hp) (Tq _) (λ_ _=>rfl) (.inr ⟨rfl,_,_,_,_,rfl,rfl,m,Uh 0⟩);exact⟨s.nx,_,hq,_,F,hp,h1,h2,rfl,t8 _ _ _⟩;cases hv;exact .sl0 b z (.int 0) (.int 0) .ge h2 rfl rfl (λe h=>by cases h)
  exact Vi
 |keep=>exact Vk ⟨rfl,hv⟩|any=>exact Vk ⟨rfl,hv⟩|int k=>exact Vk ⟨rfl,hv⟩|bool=>exact Vk ⟨rfl,hv⟩|str=>exact Vk ⟨rfl,hv⟩|itr s=>exact Vk ⟨rfl,hv⟩|rwk b e z ph=>exact Vk ⟨rfl,hv⟩|pp t=>
  simp only[rC];split
  .rename_i b z;refine Vj ?_;split
   .rename_i l e q hb;cases hv with
    |ptr _ _ _ _ i o h h0=>
     have j:VD P U τ F (.sl b z (.int 0) (.int 1) (.ex (.int 1))) (.slice (some ⟨i,o+(E.int 0).toN U*z,none⟩) ((E.int 1).toN U) 1):=
      .sl b z (.int 0) (.int 1) (.ex (.int 1)) i o 1 h (Uh 0) (by rw[B4];omega) ⟨by rw[B4];omega,rfl,by unfold unk;omega,Uh _⟩
     refine(aR 20 (.sl t) _ _ τ F s hp j hs).bind λe τ1 F1 s1 hp1 _ hs1 ⟨h1,h2,h3⟩=>Vg Vm λ_ s2 u d p1=>Vk ⟨h2,?_⟩;have p1:=aN p1;rw[i7,B4]at p1;have:=h3.lst_eq;rw[this]at h3;exact VD.pptr' (row:= .int 0) h3 (Uh 0) (by rw[B4];show(0:Int)<(e.toR U).length;omega) (by show o+(0:Int).toNat*z+0=o+(0:Int).toNat*z+(0:Int).toNat*_+0;simp)
   exact Vk ⟨rfl,hv⟩
  exact Vk ⟨rfl,hv⟩
 |rpt=>exact Vk ⟨rfl,hv⟩|rgl z=>exact Vk ⟨rfl,hv⟩|rgk b z=>exact Vk ⟨rfl,hv⟩
theorem BQ :∀(ps:List Pl) (vs:As) (xs:Af) (τ:Tau) (F:Ac) (s:SS) (hp:Hp),VDL P U τ F vs xs->SD P U τ F s hp->OKh P U (norm P U ps vs) τ F s hp λe τ' F' hp'=>hp'=hp/\VDL P U τ' F' e xs
 | [],[],xs,τ,F,s,hp,hv,hs=>Vk ⟨rfl,hv⟩| [],v::vs,xs,τ,F,s,hp,hv,hs=>Vi|p::ps,[],xs,τ,F,s,hp,hv,hs=>Vi|p::ps,v::vs,xs,τ,F,s,hp,hv,hs=>by obtain⟨y,ys,rfl,h1,h2⟩:=hv.uncons;refine(uU p.g h1 hs).bind λn τ1 F1 s1 hp1 ex hs1 ⟨m,h⟩=>(BQ ps vs ys τ1 F1 s1 hp1 (h2.mono ex.t ex.f) hs1).bind λe τ2 k s2 hp2 d j ⟨k1,k2⟩=>Vk ⟨by grind,.cons (h.mono d.t d.f) k2⟩
def W7 {α:Type}:Bb α->List α->List α
 |some a,l=>a::l|none,l=>l
def mtP (U:Ab):List Pl->As->M (Au×Ah)
 |p::l,v::vs=>c8 (mt1 U p.g p.a v) λr=>c8 (mtP U l vs) λt=>i5 (W7 r.1 t.1,W7 r.2 t.2)
 | [],[]=>i5 ([],[])|_,_=>b9 "loop: places"
def sos :List Pl->List So
 | []=>[]
 |p::l=>W7 p.g.so (sos l)
def rbs :List Pl->Ah
 | []=>[]
 |p::l=>match p.g.fix (.int 0)with
  |some q=>q.1::rbs l|none=>rbs l
def G.fix_num {g:G}{d:E}{q:Nat×B0}(h:g.fix d=some q)(j:E):∃X,g.fix j=some (q.1,X):=by
 cases g with
 |rwk b e z ph=>simp only[G.fix,SQ]at h;subst h;exact⟨_,rfl⟩|rgk b z=>simp only[G.fix,SQ]at h;subst h;exact⟨_,rfl⟩|_=>cases h
variable (U) in
def cT :List So->Au->Au->Prop
 |k::ks,e::es,d::ds=>nL U k e d/\cT ks es ds| [],[],[]=>True|_,_,_=>False
variable (P U) in
def eV (τ0 τ:Tau)(F:Ac)(s:SS):List Pl->As->Au->Ah->Prop
 | [],[],es,bs=>es=[]/\bs=[]
 |p::l,v::vs,es,bs=>∃r es' bs',es=W7 r.1 es'/\bs=W7 r.2 bs'/\MtOK P U τ0 τ F s p.g p.a v r/\eV τ0 τ F s l vs es' bs'|_,_,_,_=>False
def Gz {τ:Tau}{F:Ac}(τ0:Tau):∀(ps:List Pl) (vs:As) (s:SS),OKp U (mtP U ps vs) s λr=>∀s',s'.h=s.h->eV P U τ0 τ F s' ps vs r.1 r.2
 | [],[],s=>Vq λ_ _=>⟨rfl,rfl⟩
 | [],_::_,s=>Vl|_::_,[],s=>Vl|p::ps,v::vs,s=>by exact(Gy (P:=P) (τ:=τ) (F:=F) τ0 p.g p.a v).bind λr s1 e _ h1=>(Gz (τ:=τ) (F:=F) τ0 ps vs s1).bind λt s2 j _ h2=>Vq λs' d=>⟨r,t.1,t.2,rfl,rfl,h1 s' d,h2 s' (by rw[d,e.h])⟩
section
variable {τ0 τ:Tau}{F:Ac}{s:SS}
def G.blk_none {g:G}(h:g.na=0)(a:SV)(d:E):g.blk a d=none:=by
 cases g with
 |acc e z=>cases h
 |itr s=>cases h
 |_=>rfl
def G.na_le (g:G):g.na=0\/g.na=1:=by cases g<;>simp[G.na]
theorem DY {p:Pl}{ps:List Pl}{v:SV}{r:Bb E×Ai}{m:Au}{ds:Au}(h:MtOK P U τ0 τ F s p.g p.a v r)(k:cT U (sos (p::ps)) (W7 r.1 m) ds):(∀e so,r.1=some e->p.g.so=some so->nL U so e (hd1 ds))/\cT U (sos ps) m (pop p.g ds)/\(∀b,r.2=some b->p.g.na=1)/\(p.g.na=0\/p.g.na=1):=by
 obtain⟨m1,q,t,u,x⟩:=h;have n:=p.g.na_le;refine⟨?_,?_,λb hb=>?_,n⟩
 .intro e so he j;unfold sos at k;rw[j,he]at k;cases ds with
  |nil=>exact k.elim|cons d ds=>exact k.1
 .unfold sos at k;cases j:p.g.so with
  |none=>rw[j,q j]at k;unfold pop;rw[j];exact k|some so=>
   obtain⟨e,he⟩:=m1 so j;rw[j,he]at k;cases ds with
   |nil=>exact k.elim|cons d ds=>unfold pop;rw[j];exact k.2
 grind
theorem eV.vals :∀ {ps:List Pl} {vs:As} {es:Au} {bs:Ah} {ds:Au} {xs:Af} {τ2:Tau} {nb:Nat},eV P U τ0 τ F s ps vs es bs->cT U (sos ps) es ds->(∀b p,τ0 b=some p->τ2 b=τ b)->(∀k b,bs[k]? =some b->τ2 (nb+k)=τ b)->(∀p∈ps,∃F0 x0,VD P U τ0 F0 p.a x0)->VDL P U τ F vs xs-> ∀(i:Nat) q x,(bY ps ds nb)[i]? =some q->xs[i]? =some x->VD P U τ2 F q.2 x
 | [],vs,es,bs,ds,xs,τ2,nb,h,j,hk,hb,g,hx=>λi q x hq _=>by simp[bY]at hq
 |p::ps,[],es,bs,ds,xs,τ2,nb,h,j,hk,hb,g,hx=>h.elim|p::ps,v::vs,es,bs,ds,xs,τ2,nb,h,j,hk,hb,g,hx=>by
  obtain⟨r,t,n,rfl,rfl,hm,m⟩:=h;obtain⟨y,ys,rfl,h1,h2⟩:=hx.uncons;obtain⟨s1,s2,z,u⟩:=DY hm j;intro i q x hq d;cases i with
  |zero=>simp only[bY,Tj,SQ]at hq d;subst hq;subst d;refine hm.2.2.2.1 y h1 τ2 nb (hd1 ds) hk (g p (by simp)) s1 λb hr=>?_;have:=hb 0 b (by rw[hr];rfl);grind
  |succ i=>refine eV.vals m s2 hk (λk b e=>?_) (λp hp=>g p (by grind)) h2 i q x hq d;rcases u with h0|h0;rw[h0,Uj];have hr:=hm.2.2.1 h0;rw[hr]at hb;exact hb k b e;obtain⟨so,_,b',L,x',hr,_⟩:=hm.2.2.2.2.1 (by omega);rw[hr]at hb;have:=hb (k+1) b e;grind
theorem eV.blks :∀ {ps:List Pl} {vs:As} {es:Au} {bs:Ah} {ds:Au} {nb:Nat},eV P U τ0 τ F s ps vs es bs->cT U (sos ps) es ds-> ∀b' y,lk (fI ps ds nb) b'=some y->(∃k b X x',b'=nb+k/\bs[k]? =some b/\y=some X/\s.get b=some x'/\(∀(τ2:Tau) o z,BD P U τ F o x' z->BD P U τ2 F o X z)/\(E6 P U x'->E6 P U X))\/(∃X x',b'∈rbs ps/\y=some X/\s.get b'=some x'/\(∀(τ2:Tau) o z,τ2 b'=τ b'->BD P U τ F o x' z->BD P U τ2 F o X z)/\(E6 P U x'->E6 P U X))
 | [],vs,es,bs,ds,nb,h,x=>λb' y hy=>by simp[fI,lk]at hy
 |p::ps,[],es,bs,ds,nb,h,x=>h.elim|p::ps,v::vs,es,bs,ds,nb,h,x=>by
  obtain⟨r,M,K,rfl,rfl,hm,A⟩:=h;obtain⟨s1,s2,Y,V⟩:=DY hm x;intro b' y hy;have D:=eV.blks (nb:=nb+p.g.na) A s2;have sub:∀b,b∈rbs ps->b∈rbs (p::ps):=λb hb=>by unfold rbs;grind
  by_cases d:p.g.na=0
  .have hr:r.2=none:=hm.2.2.1 d;cases e:p.g.fix (hd1 ds)with
   |none=>unfold fI at hy;rw[G.blk_none d]at hy;simp only[e]at hy;rcases D b' y hy with⟨k,b,X,x',h1,h2⟩| ⟨X,x',h1,h2⟩;exact Or.inl ⟨k,b,X,x',by rw[h1,d,Uj],by rw[hr];exact h2⟩;grind
   |some q=>
    unfold fI at hy;rw[G.blk_none d]at hy;simp only[e]at hy;rw[z6]at hy;split at hy
    .rename_i t;obtain⟨m,L,x',k1,k2,k3⟩:=hm.2.2.2.2.2 _ _ e;obtain⟨X,k4,O,R⟩:=k3 (hd1 ds) (s1 L .l k1 m);rw[e]at k4;simp only[SQ]at k4;simp only[SQ]at hy;have T:q.2=X:=by rw[k4]
     rw[T]at hy;subst t;refine .inr ⟨X,x',?_,hy.symm,k2,O,R⟩;obtain⟨J,N⟩:=G.fix_num e (.int 0);unfold rbs;grind
    rcases D b' y hy with⟨k,b,X,x',h1,h2⟩| ⟨X,x',h1,h2⟩;exact Or.inl ⟨k,b,X,x',by rw[h1,d,Uj],by rw[hr];exact h2⟩;grind
  .have B:p.g.na=1:=V.resolve_left d;obtain⟨so,m,b0,L,x',hr,C,hx,u⟩:=hm.2.2.2.2.1 d;obtain⟨J,W,k1,k2⟩:=u (hd1 ds) (s1 L so C m);have j:lk ((nb,some J)::fI ps (pop p.g ds) (nb+p.g.na)) b'=some y:=by unfold fI at hy;grind
   rw[z6]at j;split at j;rename_i t;simp only[SQ]at j;exact .inl ⟨0,b0,_,x',t.symm,by rw[hr];rfl,j.symm,hx,k1,k2⟩;rcases D b' y j with⟨k,b,X,n,h1,h2,h3⟩| ⟨X,n,h1,h2⟩;exact .inl ⟨k+1,b,X,n,by rw[h1,B];omega,by rw[hr];exact h2,h3⟩;grind
theorem mG {b:Nat}:∀ {ps:List Pl} {ds:Au} {nb:Nat},b∈rbs ps->b∈(fI ps ds nb).map Prod.fst
 | [],ds,nb,h=>by simp[rbs]at h|p::ps,ds,nb,h=>by
  unfold rbs at h;cases d:p.g.fix (.int 0)with
  |none=>rw[d]at h;have k:=mG (ds:=pop p.g ds) (nb:=nb+p.g.na) h;unfold fI;grind|some q=>
   rw[d]at h;have hb:p.g.blk p.a (hd1 ds)=none:=by
    cases hg:p.g with
    |rwk b e z ph=>rfl|rgk b z=>rfl|_=>rw[hg]at d;cases d
   obtain⟨X,j⟩:=G.fix_num d (hd1 ds);unfold fI;rw[hb,j];simp only[TV,TH]at h⊢;rcases h with h|h;grind;exact .inr (mG (ds:=pop p.g ds) (nb:=nb+p.g.na) h)
end
end
def wS :List (At×SV)->Fm
 | []=>[]
 | (p,v)::l=>match p with
  | .tmp t=>(t,v)::wS l| .cell _ _=>wS l| .no=>wS l
def Gi (b j:Nat):At->Bool
 | .tmp _=>false| .cell b' j'=>Nat.beq b b'&&Nat.beq j j'| .no=>false
def oL :List (At×SV)->Nat->Nat->SV
 | [],_,_=>.any| (p,v)::l,b,j=>bif Gi b j p then v else oL l b j
def J1 (pv:List (At×SV))(b:Nat):Nat->Nat->As
 |_,0=>[]
 |j,n+1=>oL pv b j::J1 pv b (j+1) n
def ovB (s1:SS)(pv:List (At×SV)):Ah->List (Nat×Bb B0)
 | []=>[]
 |b::l=>match s1.get b with
  |some (.cells c e z)=>(b,some (.cells (J1 pv b 0 c.length) e z))::ovB s1 pv l|_=>ovB s1 pv l
def fC :Ah->List (Nat×Bb B0)
 | []=>[]
 |b::l=>(b,none)::fC l
def DZ :List Pl->Nat
 | []=>0|p::l=>p.g.na+DZ l
def fL (ps:List Pl)(ds:Au)(s1:SS)(bs0 kill:Ah):List (Nat×Bb B0):=fI ps ds s1.nx++(ovB s1 (bY ps ds s1.nx) bs0++fC (kill++(bs0++(rbs ps++ [s1.nx]))))
def sT (ps:List Pl)(ds:Au)(s1:SS)(bs0 kill:Ah):SS:= {s1 with h:=fL ps ds s1 bs0 kill++s1.h,nx:=s1.nx+DZ ps}
def fT (ps:List Pl)(ds:Au)(s1:SS)(f0:Fm):Fm:=wS (bY ps ds s1.nx)++f0
theorem K2 {α:Type}(l m:List (Nat×α))(b:Nat):lk (l++m) b=match lk l b with|some x=>some x|none=>lk m b:=by
 induction l with
 |nil=>rfl|cons p l d=>rw[Uf,z6,z6];grind
def BK {α:Type}{b:Nat}:∀ {l:List (Nat×α)},lk l b=none->b∉l.map Prod.fst
 | [],_=>by simp| (k,y)::l,h=>by rw[z6]at h;split at h;cases h;rename_i e;simp only[TV,TH,not_or];exact⟨λh=>e h.symm,BK h⟩
theorem R3 {b:Nat}:∀ {l:Ah},lk (fC l) b=if b∈l then some none else none
 | []=>rfl|k::l=>by rw[fC,z6,R3];grind
def jT (pv:List (At×SV))(b:Nat):∀(n j:Nat),(J1 pv b j n).length=n
 |0,_=>rfl|n+1,j=>by simp[J1,jT pv b n]
theorem tJ (pv:List (At×SV))(b:Nat):∀(n j i:Nat) (a:SV),(J1 pv b j n)[i]? =some a->i<n/\a=oL pv b (j+i)
 |0,j,i,a,h=>by simp[J1]at h|n+1,j,0,a,h=>by simp only[J1,Tj,SQ]at h;exact⟨by omega,h.symm⟩|n+1,j,i+1,a,h=>by obtain⟨h1,h2⟩:=tJ pv b n (j+1) i a h;grind
theorem qT {b j:Nat}:∀(pv:List (At×SV)),oL pv b j= .any\/ ∃(i:Nat) (q:At×SV),pv[i]? =some q/\q.1= .cell b j/\oL pv b j=q.2
 | []=>.inl rfl| (p,v)::l=>by
  unfold oL;cases hc:Gi b j p with
  |true=>
   refine .inr ⟨0,(p,v),rfl,?_,rfl⟩;cases p with
   |tmp t=>cases hc
   |no=>cases hc
   |cell b' j'=>simp only[Gi,SR,TJ]at hc;grind
  |false=>rcases qT l with h| ⟨i,q,h1,h2,h3⟩;exact .inl h;exact .inr ⟨i+1,q,h1,h2,h3⟩
def nQ {k:Nat}{a:SV}:∀(pv:List (At×SV)),lk (wS pv) k=some a-> ∃(i:Nat) (q:At×SV),pv[i]? =some q/\q.1= .tmp k/\q.2=a
 | [],h=>by cases h
 | (p,v)::l,h=>by unfold wS at h;split at h;rename_i t;rw[z6]at h;split at h;rename_i e;simp at h;exact⟨0,(.tmp t,v),rfl,by rw[e],h⟩;obtain⟨i,q,h1,h2⟩:=nQ l h;exact⟨i+1,q,h1,h2⟩;obtain⟨i,q,h1,h2⟩:=nQ l h;exact⟨i+1,q,h1,h2⟩;obtain⟨i,q,h1,h2⟩:=nQ l h;exact⟨i+1,q,h1,h2⟩
theorem jC {k:Nat}:∀(pv:List (At×SV)),lk (wS pv) k=none-> ∀q∈pv,q.1≠ .tmp k
 | [],_=>λq hq=>by grind
 | (p,v)::l,h=>by unfold wS at h;intro q hq d;split at h;rename_i t;rw[z6]at h;split at h;cases h;rename_i e;rcases TH.1 hq with rfl|hq;grind;exact jC l h q hq d;rcases TH.1 hq with rfl|hq;grind;exact jC l h q hq d;rcases TH.1 hq with rfl|hq;grind;exact jC l h q hq d
theorem Bl :∀(ps:List Pl) (ds:Au) (nb i:Nat) (q:At×SV),(bY ps ds nb)[i]? =some q-> ∃p,ps[i]? =some p/\q.1=p.at_
 | [],ds,nb,i,q,h=>by simp[bY]at h|p::ps,ds,nb,0,q,h=>by simp only[bY,Tj,SQ]at h;exact⟨p,rfl,by grind⟩|p::ps,ds,nb,i+1,q,h=>by exact Bl ps _ _ i q h
theorem Dr :∀(ps:List Pl) (ds:Au) (nb:Nat) (p:Pl),p∈ps-> ∃q∈bY ps ds nb,q.1=p.at_
 | [],_,_,p,h=>by grind|p'::ps,ds,nb,p,h=>by rcases TH.1 h with rfl|h;exact⟨_,by simp[bY];exact .inl rfl,rfl⟩;obtain⟨q,h1,h2⟩:=Dr ps (pop p'.g ds) (nb+p'.g.na) p h;exact⟨q,by simp[bY,h1],h2⟩
theorem GG {s1:SS}{pv:List (At×SV)}{b:Nat}:∀ {l:Ah},(∀b∈l,∃c e z,s1.get b=some (.cells c e z))-> ∀y,lk (ovB s1 pv l) b=y->(b∈l/\ ∃c e z,s1.get b=some (.cells c e z)/\y=some (some (.cells (J1 pv b 0 c.length) e z)))\/(b∉l/\y=none)
 | [],_,y,h=>.inr ⟨by simp,h.symm⟩|b'::l,hl,y,h=>by obtain⟨c,e,z,hb⟩:=hl b' (by simp);unfold ovB at h;rw[hb,z6]at h;by_cases d:b'=b;grind;rw[Tn d]at h;rcases GG (λb hb=>hl b (by grind)) y h with⟨h1,h2⟩| ⟨h1,h2⟩;grind;grind
section
variable {P :Aw}{U:Ab}
def PX (τ:Tau)(tm:Ao)(hp:Hp):At->Av->Prop
 | .tmp t,x=>x=(tm.get t).getD undef| .cell b j,x=>∃i o cs n e z,τ b=some (some (i,o))/\hp.m.get i=some (.cells cs n e z)/\cs.get (o+j)=some x| .no,_=>True
theorem eV.live {τ0 τ:Tau}{F:Ac}{s:SS}:∀ {ps:List Pl} {vs:As} {es:Au} {bs:Ah},eV P U τ0 τ F s ps vs es bs-> ∀ {k b:Nat},bs[k]? =some b-> ∃x,s.get b=some x
 | [],[],es,bs,h,k,b,hb=>by rw[h.2]at hb;simp at hb| [],_::_,es,bs,h,k,b,hb=>h.elim|p::ps,[],es,bs,h,k,b,hb=>h.elim|p::ps,v::vs,es,bs,h,k,b,hb=>by
  obtain⟨r,m,j,rfl,rfl,hm,d⟩:=h;cases hr:r.2 with
  |none=>rw[hr]at hb;exact d.live hb|some b0=>
   rw[hr]at hb;cases k with
   |succ k=>exact d.live hb|zero=>
    have e:p.g.na≠0:=λh0=>by rw[hm.2.2.1 h0]at hr;cases hr
    obtain⟨so,_,n,L,x',h1,_,hx,_⟩:=hm.2.2.2.2.1 e;rw[hr]at h1;have e0:b0=b:=by simpa [W7]using hb
    grind
variable (P U) in
structure Be (τ1:Tau)(F1:Ac)(s1:SS)(hp1:Hp)(f0:Fm)(tm1:Ao)(ps:List Pl)(bs0 kill:Ah)(τ:Tau)(F:Ac)(s:SS)(hp:Hp)(f:Fm)(tm:Ao)(vs:As)(es:Au)(bs:Ah)(xs:Af):Prop where
 hs1:SD P U τ1 F1 s1 hp1
 ht1:TD P U τ1 F1 f0 tm1
 hs:SD P U τ F s hp
 ht:TD P U τ F f tm
 ex:Ext τ1 F1 s1 hp1 τ F s hp
 mt:eV P U τ1 τ F s ps vs es bs
 vx:VDL P U τ F vs xs
 px:∀(i:Nat) p x,ps[i]? =some p->xs[i]? =some x->PX τ tm hp p.at_ x
 lx:xs.length=ps.length
 pa:∀p∈ps,∃F0 x0,VD P U τ1 F0 p.a x0
 fr:∀t,(∀p∈ps,p.at_≠ .tmp t)->lk f t=lk f0 t
 ky:∀l,s.h=l++s1.h-> ∀b∈l.map Prod.fst,b<s1.nx->b∈bs0\/b∈kill\/b∈rbs ps
 rb:∀b∈rbs ps,b∉bs0/\b∉kill/\b<s1.nx
 c0:∀b∈bs0,b∉kill/\ ∃l l' e z,s1.get b=some (.cells l e z)/\s.get b=some (.cells l' e z)/\l'.length=l.length
 bd:∀(k k':Nat) b,bs[k]? =some b->bs[k']? =some b->k=k'
 bf:∀b∈bs,b∉bs0/\(s1.nx<=b\/b∈kill)
 lb:bs.length=DZ ps
variable {τ1 :Tau}{F1:Ac}{s1:SS}{hp1:Hp}{f0:Fm}{tm1:Ao}{ps:List Pl}{bs0 kill:Ah}{τ:Tau}{F:Ac}{s:SS}{hp:Hp}{f:Fm}{tm:Ao}{vs:As}{es:Au}{bs:Ah}{xs:Af}
def Q8 (τ1 τ:Tau)(n:Nat)(bs:Ah):Tau:=λb=>if b<n then τ1 b else match bs[b-n]? with|some b'=>τ b'|none=>none
def eE {n b:Nat}(h:b<n):Q8 τ1 τ n bs b=τ1 b:=by unfold Q8;rw[Tp h]
def jA {n k b:Nat}(h:bs[k]? =some b):Q8 τ1 τ n bs (n+k)=τ b:=by unfold Q8;rw[Tn (by omega),Uq,h]
theorem Be.head (h:Be P U τ1 F1 s1 hp1 f0 tm1 ps bs0 kill τ F s hp f tm vs es bs xs){ds:Au}(hd:cT U (sos ps) es ds):SD P U (Q8 τ1 τ s1.nx bs) F (sT ps ds s1 bs0 kill) hp/\TD P U (Q8 τ1 τ s1.nx bs) F (fT ps ds s1 f0) tm/\Ext τ1 F1 s1 hp1 (Q8 τ1 τ s1.nx bs) F (sT ps ds s1 bs0 kill) hp:=by
 obtain⟨l0,a1,a2,a3,a4,_⟩:=h.ex.hh;have ac:=h.ky l0 a1;have G:∀b p,τ1 b=some p->b<s1.nx:=λb p hb=>Nat.lt_of_not_le λad=>by rw[h.hs1.new b ad]at hb;cases hb
 have hk:∀b p,τ1 b=some p->Q8 τ1 τ s1.nx bs b=τ b:=λb p hb=>by rw[eE (G b p hb),h.ex.st b (G b p hb)]
 have lo:∀b,b<s1.nx->Q8 τ1 τ s1.nx bs b=τ b:=λb hb=>by rw[eE hb,h.ex.st b hb]
 have Y:=h.mt.vals hd hk (λk b hb=>jA (n:=s1.nx) hb) h.pa h.vx;have V:=h.mt.blks (nb:=s1.nx) hd;have O:Tle τ1 (Q8 τ1 τ s1.nx bs):=λb p hb=>by rw[eE (G b p hb)];exact hb
 have ai:∀(i:Nat) q,(bY ps ds s1.nx)[i]? =some q-> ∃x,PX τ tm hp q.1 x/\VD P U (Q8 τ1 τ s1.nx bs) F q.2 x:=by
  intro i q hq;obtain⟨p,h1,h2⟩:=Bl _ _ _ _ _ hq;have hi:i<xs.length:=by rw[h.lx];exact(SW.1 h1).1
  have hx:=Tf hi;exact⟨_,by rw[h2];exact h.px i p _ h1 hx,Y i q _ hq hx⟩
 have keep:∀b,b<s1.nx->b∉bs0->b∉kill->b∉rbs ps->s.get b=s1.get b:=λb hb h1 h2 R=>by unfold SS.get;rw[a1,sB _ _ λhm=>?_];grind
 have ab:∀b∈bs0,∃c e z,s1.get b=some (.cells c e z):=λb hb=>by obtain⟨_,l,_,e,z,h1,_⟩:=h.c0 b hb;grind
 have B:∀b x,(sT ps ds s1 bs0 kill).get b=some x->
   (∃k b0 x',b=s1.nx+k/\bs[k]? =some b0/\s.get b0=some x'/\(∀(τ2:Tau) o z,BD P U τ F o x' z->BD P U τ2 F o x z)/\(E6 P U x'->E6 P U x))\/
   (b<s1.nx/\b∉kill/\b∈bs0/\ ∃c e z,s1.get b=some (.cells c e z)/\x= .cells (J1 (bY ps ds s1.nx) b 0 c.length) e z)\/
   (b<s1.nx/\b∉kill/\b∉bs0/\b∉rbs ps/\s1.get b=some x)\/
   (b<s1.nx/\b∉kill/\b∈rbs ps/\ ∃x',s.get b=some x'/\(∀(τ2:Tau) o z,τ2 b=τ b->BD P U τ F o x' z->BD P U τ2 F o x z)/\(E6 P U x'->E6 P U x)):=by
  intro b x hb;have d:(match lk (fL ps ds s1 bs0 kill++s1.h) b with|some x=>x|none=>none)=some x:=hb;rw[K2,fL,K2,K2]at d;cases N:lk (fI ps ds s1.nx) b with
  |some y=>rw[N]at d;simp only at d;rcases V b y N with⟨k,b0,X,x',h1,h2,h3,h4,T,h6⟩| ⟨X,x',h1,h3,h4,T,h6⟩;grind;rw[h3]at d;simp only[SQ]at d;subst d;obtain⟨_,g2,g3⟩:=h.rb b h1;grind
  |none=>
   rw[N]at d;simp only at d;rcases GG (s1:=s1) (pv:=bY ps ds s1.nx) (b:=b) ab _ rfl with⟨h1,c,e,z,h2,h3⟩| ⟨h1,h3⟩;rw[h3]at d;simp only[SQ]at d;exact .inr (.inl ⟨h.hs1.bound h2,(h.c0 b h1).1,h1,c,e,z,h2,d.symm⟩)
   .rw[h3,R3]at d;by_cases W:b∈kill++(bs0++(rbs ps++ [s1.nx]))
    rw[Tp W]at d;cases d;rw[Tn W]at d;have Z:s1.get b=some x:=d;exact .inr (.inr (.inl ⟨h.hs1.bound Z,λh=>W (UL _ h),h1,λh=>BK N (mG h),Z⟩))
 have keyB:∀b∈bs0,b∈(fL ps ds s1 bs0 kill).map Prod.fst:=λb hb=>by rcases GG (s1:=s1) (pv:=bY ps ds s1.nx) (b:=b) ab _ rfl with⟨_,c,e,z,_,h3⟩| ⟨h1,_⟩;unfold fL;simp only[TQ,TG];exact .inr (.inl (Uy.2 ⟨_,Z1 h3,rfl⟩));grind
 have ah:∀b∈kill,b∈(fL ps ds s1 bs0 kill).map Prod.fst:=λb hb=>by unfold fL;simp only[TQ,TG];refine .inr (.inr (Uy.2 ⟨(b,none),Z1 ?_,rfl⟩));rw[R3,Tp (UL _ hb)]
 have mark:(s1.nx,none)∈fL ps ds s1 bs0 kill:=by unfold fL;refine UA _ (UA _ (Z1 ?_));rw[R3,Tp (UA _ (by simp))]
 have A:∀b∈l0.map Prod.fst,b<s1.nx->b∈(fL ps ds s1 bs0 kill).map Prod.fst:=λb hb hlt=>by rcases ac b hb hlt with h1|h1|h1;grind;grind;unfold fL;simp only[TQ,TG];exact .inl (mG h1)
 have J:∀k b0,bs[k]? =some b0->(if s1.nx+k<s1.nx then s1.nx+k else bs.getD (s1.nx+k-s1.nx) 0)=b0:=λk b0 hb=>by rw[Tn (by omega),Uq,List.getD,hb];rfl
 refine⟨h.hs.rebase (λb=>if b<s1.nx then b else bs.getD (b-s1.nx) 0) (λb x hb=>?_) (λb c x y hb hc ae=>?_) (λb i o hb=>?_) (λb hb=>?_) h.hs1.fc (λr hr=>(h.hs1.fz r hr).mono O h.ex.f),λk a u=>?_,?_⟩
 .rcases B b x hb with⟨k,b0,x',rfl,h2,h3,h4,T⟩| ⟨hlt,t,C,c,e,z,h2,rfl⟩| ⟨hlt,t,C,am,h2⟩| ⟨hlt,t,_,x',h3,h4,T⟩;simp only[J k b0 h2];exact⟨x',h3,jA h2,λi o y _ _ K=>h4 _ o y K,T⟩
  .simp only[Tp hlt];obtain⟨_,l,l',e',z',k1,k2,k3⟩:=h.c0 b C;rw[h2]at k1;simp only[SQ,B0.cells.injEq]at k1;obtain⟨rfl,rfl,rfl⟩:=k1;refine⟨_,k2,lo b hlt,λi o y g hy ⟨cs,n,e1,e2,e3⟩=>?_,λ⟨L,e,z,ph,h,_⟩=>by cases h⟩;refine⟨cs,n,e1,by rw[jT,<-k3];exact e2,λj a ha=>?_⟩;obtain⟨hj,rfl⟩:=tJ _ _ _ _ _ _ ha;rw[TA];have ak:j<l'.length:=by omega
   obtain⟨x,hx,_⟩:=e3 j _ (Tf ak);rcases qT (b:=b) (j:=j) (bY ps ds s1.nx)with h1| ⟨i',q,q1,q2,q3⟩;exact⟨x,hx,by rw[h1];exact .any x⟩;obtain⟨x2,px,hv⟩:=ai i' q q1;rw[q2]at px;obtain⟨i2,o2,ao,n2,ap,z2,p1,p2,p3⟩:=px;rw[g]at p1;cases p1;rw[hy,e1]at p2;simp only[SQ,Blk.cells.injEq]at p2;obtain⟨rfl,_⟩:=p2;exact⟨x2,p3,by rw[q3];exact hv⟩
  simp only[Tp hlt];refine⟨x,by rw[keep b hlt C t am];exact h2,lo b hlt,λi o y g hy K=>?_,id⟩;rcases h.hs1.live b x h2 with⟨i1,o1,y1,g1,_,_,g4⟩| ⟨g1,_⟩;exact g4.re K hk;rw[h.ex.st b hlt,g1]at g;cases g;simp only[Tp hlt];exact⟨x',h3,lo b hlt,λi o y _ _ K=>h4 _ o y (lo b hlt) K,T⟩
 .have hi:∀(b:Nat) (x:B0) (k b0:Nat),(sT ps ds s1 bs0 kill).get b=some x->b<s1.nx->bs[k]? =some b0->b≠b0:=by intro b x k b0 hb hlt al e;subst e;obtain⟨f1,f2⟩:=h.bf b (Td al);rcases B b x hb with⟨k',b0,x',rfl,_⟩| ⟨_,t,_⟩| ⟨_,t,_⟩| ⟨_,t,_⟩;omega;rcases f2 with h1|h1;omega;exact t h1;rcases f2 with h1|h1;omega;exact t h1;rcases f2 with h1|h1;omega;exact t h1
  by_cases D:b<s1.nx;by_cases m:c<s1.nx;simp only[Tp D,Tp m];exact ae;rcases B c y hc with⟨k,b0,x',rfl,h2,_⟩| ⟨hlt,_⟩| ⟨hlt,_⟩| ⟨hlt,_⟩;simp only[J k b0 h2,Tp D];exact hi b x k b0 hb D h2;omega;exact absurd hlt m;exact absurd hlt m;rcases B b x hb with⟨k,b0,x',rfl,h2,_⟩| ⟨hlt,_⟩| ⟨hlt,_⟩| ⟨hlt,_⟩;by_cases m:c<s1.nx;simp only[J k b0 h2,Tp m];exact(hi c y k b0 hc m h2).symm;rcases B c y hc with⟨k',aj,x',rfl,R,_⟩| ⟨hlt,_⟩| ⟨hlt,_⟩| ⟨hlt,_⟩;simp only[J k b0 h2,J k' aj R];intro e;subst e;exact ae (by rw[h.bd k k' b0 h2 R]);exact absurd hlt m;exact absurd hlt m;exact absurd hlt m;exact absurd hlt D;exact absurd hlt D;exact absurd hlt D
 by_cases hlt:b<s1.nx;rw[lo b hlt]at hb;exact h.hs.lt b i o hb;unfold Q8 at hb;rw[Tn hlt]at hb;split at hb;exact h.hs.lt _ i o hb;cases hb;have ad : s1.nx + DZ ps ≤ b := hb;unfold Q8;rw[Tn (by omega),US (by rw[h.lb];omega)]
 .unfold fT at u;rw[K2]at u;cases N:lk (wS (bY ps ds s1.nx)) k with
  |some y=>rw[N]at u;simp only[SQ]at u;subst u;obtain⟨i,q,h1,h2,h3⟩:=nQ _ N;obtain⟨x,px,hv⟩:=ai i q h1;rw[h2]at px;rw[<-h3,<-show x=(tm.get k).getD undef from px];exact hv
  |none=>
   rw[N]at u;have M:=jC _ N;have:lk f k=lk f0 k:=h.fr k λp hp e=>by obtain⟨q,q1,q2⟩:=Dr ps ds s1.nx p hp;exact M q q1 (by rw[q2,e])
   exact(h.ht1 k a u).re (h.ht k a (by rw[this];exact u)) hk
 .refine⟨O,h.ex.f,h.ex.nx,Nat.le_add_right _ _,λb hb=>eE hb,λb x hb hlt=>?_,⟨fL ps ds s1 bs0 kill,rfl,λi hi M=>?_,λb i o hb g=>?_,λi y hi hy=>?_,λhp=>absurd rfl (hp (s1.nx,none) mark)⟩,⟨[],rfl⟩,⟨fL ps ds s1 bs0 kill,rfl,λb c e z i o cs n hb ht hi hg hl=>⟨cs,?_,λ_ _=>rfl⟩⟩⟩
  rotate_right
  .rw[a2 i hi λb' x o' h1 h2 h3=>?_];exact hg
   .by_cases aa:b'=b
    .subst aa;have M:(b',none)∈fL ps ds s1 bs0 kill:=by unfold fL;refine UA _ (UA _ (Z1 ?_));rw[R3,Tp ?_];simp only[TG];rcases ac b' h3 (h.hs1.bound h1)with q|q|q;exact .inr (.inl q);exact .inl q;exact .inr (.inr (.inl q))
     obtain⟨_,q,_⟩:=hl none M;cases q
    exact h.hs1.inj b' b x _ i o' i o h1 hb aa h2 ht rfl
  rcases B b x hb with⟨k,b0,x',rfl,_⟩| ⟨_,_,_,c,e,z,h2,_⟩| ⟨_,_,_,_,h2⟩| ⟨_,_,_,x',h2,_⟩;omega;exact⟨_,h2⟩;exact⟨_,h2⟩;exact h.ex.low b x' h2 hlt;exact a2 i hi λb x o hb g hm=>M b x o hb g (A b hm (h.hs1.bound hb))
  .unfold Q8 at g;rw[Tn (by omega)]at g;split at g
   .rename_i b' d;rcases(h.bf b' (Td d)).2 with h1|h1;rcases a3 b' i o h1 g with h2| ⟨b0,x,o0,h2,h3,h4⟩;exact .inl h2;exact .inr ⟨b0,x,o0,h2,h3,A b0 h4 (h.hs1.bound h2)⟩
    .by_cases hlt:b'<s1.nx
     .have hg:∃x,s.get b'=some x:=by exact h.mt.live d
      obtain⟨x,hx⟩:=hg;obtain⟨y,hy⟩:=h.ex.low b' x hx hlt;rw[h.ex.st b' hlt]at g;exact .inr ⟨b',y,o,hy,g,ah b' h1⟩
     rcases a3 b' i o (Uv hlt) g with h2| ⟨b0,x,o0,h2,h3,h4⟩;exact .inl h2;exact .inr ⟨b0,x,o0,h2,h3,A b0 h4 (h.hs1.bound h2)⟩
   cases g
  rcases a4 i y hi hy with h1| ⟨b,o,h1,h2⟩;exact .inl h1;by_cases hlt:b<s1.nx;exact .inr ⟨b,o,by rw[lo b hlt];exact h1,A b h2 hlt⟩;rcases a3 b i o (Uv hlt) h1 with h3| ⟨b0,x,o0,h3,h4,T⟩;omega;have C:=h.hs1.bound h3;exact .inr ⟨b0,o0,by rw[eE C];exact h4,A b0 T C⟩
end
structure F9 where
 name:String
 places:Code->Fm->SS->Bb (List (At×G)×Ah)
 inv:Ar->Prop
 mu:Ar->Nat
 gh:List (So×E):=[]
def Ib (U:Ab)(k:So)(e:E):Dat:=match k with
 | .i=>.i (e.toI U)| .b=>.b (e.den U).toBool| .s=>.s (e.den U).toStr| .l=>.l (e.toR U)
def u5 (U:Ab):List So->Au->Ar
 |k::ks,e::es=>Ib U k e::u5 U ks es|_,_=>[]
def Dk {α:Type}:List So->Nat->(Au->Tr α)->Tr α
 | [],_,k=>k []|so::l,n,k=>.all so n λe=>Dk l (n+1) λes=>k (e::es)
def F7 (U:Ab):List So->Nat->Au->Au
 |k::ks,n,e::es=>.dat n (Ib U k e)::F7 U ks (n+1) es|_,_,_=>[]
def atv (f:Fm)(s:SS):At->Bb SV
 | .tmp t=>match lk f t with
  |some v=>some v|none=>some .any
 | .cell b j=>match s.get b with
  |some (.cells l _ _)=>l[j]?|_=>none
 | .no=>some .any
def aJ (f:Fm)(s:SS):List (At×G)->Bb (As)
 | []=>some []|p::l=>match atv f s p.1 with
  |some v=>match aJ f s l with
   |some vs=>some (v::vs)|none=>none
  |none=>none
def pls :List (At×G)->As->List Pl
 |p::l,v::vs=>⟨p.1,p.2,v⟩::pls l vs|_,_=>[]
def Qt (t:Nat):At->Bool
 | .tmp t'=>Nat.beq t t'| .cell _ _=>false| .no=>false
def cD :Ah->Bool
 | []=>true|b::l=> !V0 b l&&cD l
def Y3 (s1 s:SS)(b:Nat):Bool:=match s1.get b with
 |some (.cells l e z)=>match s.get b with
  |some (.cells l' e' z')=>Nat.beq e e'&&Nat.beq z z'&&Nat.beq l.length l'.length|_=>false
 |_=>false
def Dz (n:Nat)(f:Fm):Ah:=match n,f with
 |n+1,(k,_)::f=>k::Dz n f|_,_=>[]
section
variable (P :Aw)(U:Ab)
def Xx {α:Type}(l1 l2:Lab)(p q:Prop):M α:=λ_=>.need l1 p (.need l2 q .done)
def NJ (an:F9)(pg:List (At×G))(ps:List Pl)(bs0 kill:Ah)(s1:SS)(f0:Fm)(ds:Au)(r:Exit×Fm):M (Exit×Fm):=match r.1 with
 | .normal=>
  bif (Dz (r.2.length-(fT ps ds s1 f0).length) r.2).all (λt=>pg.any (λp=>Qt t p.1))then
   v8 λs=>match aJ r.2 s pg with
   |none=>b9 "loop: a place is gone"|some vs0=>c8 (norm P U ps vs0) λvs=>c8 (mtP U ps vs) λt=>v8 λs2=>
    bif (X7 (s2.h.length-(sT ps ds s1 bs0 kill).h.length) s2.h).all (λb=>Nat.ble s1.nx b||V0 b bs0||V0 b kill||V0 b (rbs ps))&&bs0.all (Y3 s1 s2)&&cD t.2&&
      t.2.all (λb=> !V0 b bs0&&(Nat.ble s1.nx b||V0 b kill))&&Nat.beq t.2.length (DZ ps)then
     Xx (.pt (an.name++ "Inv") [an.gh,(sos ps).zip t.1]) (.mu (an.name++ "Mu") an.gh ((sos ps).zip t.1) ((sos ps).zip ds)) (an.inv (u5 U (sos ps) t.1)) (an.mu (u5 U (sos ps) t.1)<an.mu (u5 U (sos ps) ds))
    else b9 "loop: the head"
  else b9 "loop: a temporary"
 |e=>i5 (e,r.2)
def fvb (s:SS)(n:Nat):SS:= {s with fv:=s.fv+n}
def Xd (an:F9)(pg:List (At×G))(ps:List Pl)(bs0:Ah)(es:Au)(kill:Ah)(body:Fm->M (Exit×Fm))(f0:Fm):M (Exit×Fm):=λs=>
 .need (.pt (an.name++ "Inv") [an.gh,(sos ps).zip es]) (an.inv (u5 U (sos ps) es)) (Dk (sos ps) s.fv λds=>.asm (.pt (an.name++ "Inv") [an.gh,(sos ps).zip ds]) (an.inv (u5 U (sos ps) ds))
  (c8 (body (fT ps ds (fvb s (sos ps).length) f0)) (NJ P U an pg ps bs0 kill (fvb s (sos ps).length) f0 ds) (sT ps ds (fvb s (sos ps).length) bs0 kill)))
def NL (an:F9)(b:Code)(body:Fm->M (Exit×Fm))(f0:Fm):M (Exit×Fm):=v8 λs0=>match an.places b f0 s0 with
 |none=>b9 "loop: places"|some (pg,bs0)=>match aJ f0 s0 pg with
  |none=>b9 "loop: no such place"|some vs0=>c8 (norm P U (pls pg vs0) vs0) λvs=>c8 (mtP U (pls pg vs0) vs) λt=>v8 λs1=>
   bif bs0.all (Y3 s1 s1)&&cD t.2&&t.2.all (λb=> !V0 b bs0)&&Nat.beq t.2.length (DZ (pls pg vs0))&&(rbs (pls pg vs0)).all (λb=> !V0 b bs0&& !V0 b t.2&&Nat.ble (b+1) s1.nx)then
    Xd P U an pg (pls pg vs0) bs0 t.1 t.2 body f0
   else b9 "loop: the start"
end
section
variable {P :Aw}{U:Ab}{ov:Aa}{nt:Nat}
theorem iG {α:Type}{Q:α->Prop}:∀(l:List So) (n:Nat) (k:Au->Tr α),(Dk l n k).vc U Q-> ∀es:Au,es.length=l.length->(k (F7 U l n es)).vc U Q
 | [],n,k,h,es,hl=>by
  cases es with
  |nil=>exact h|cons e es=>grind
 |so::l,n,k,h,es,hl=>by
  cases es with
  |nil=>grind|cons e es=>
   have d:es.length=l.length:=by grind
   have g:(Dk l (n+1) λes=>k (.dat n (Ib U so e)::es)).vc U Q:=by cases so;exact h (e.toI U);exact h (e.den U).toBool;exact h (e.den U).toStr;exact h (e.toR U)
   exact iG l (n+1) _ g es d
theorem M2 :∀(l:List So) (n:Nat) (es:Au),es.length=l.length->cT U l es (F7 U l n es)
 | [],n,[],h=>trivial| [],n,e::es,h=>by grind|k::l,n,[],h=>by grind|k::l,n,e::es,h=>⟨by cases k<;>rfl,M2 l (n+1) es (by grind)⟩
theorem J2 :∀(l:List So) (n:Nat) (es:Au),es.length=l.length->u5 U l (F7 U l n es)=u5 U l es
 | [],n,[],h=>rfl| [],n,e::es,h=>rfl|k::l,n,[],h=>rfl|k::l,n,e::es,h=>by unfold F7 u5;rw[J2 l (n+1) es (by grind)];cases k<;>rfl
def BO {τ0 τ:Tau}{F:Ac}{s:SS}:∀ {ps:List Pl} {vs:As} {es:Au} {bs:Ah},eV P U τ0 τ F s ps vs es bs->es.length=(sos ps).length
 | [],[],es,bs,h=>by rw[h.1];rfl| [],_::_,es,bs,h=>h.elim|p::ps,[],es,bs,h=>h.elim|p::ps,v::vs,es,bs,h=>by
  obtain⟨r,n,m,rfl,rfl,hm,j⟩:=h;have k:=BO j;unfold sos;cases d:p.g.so with
  |none=>rw[hm.2.1 d];exact k|some so=>obtain⟨e,he⟩:=hm.1 so d;rw[he];simp only[W7,TM,k]
theorem gE {b:Nat}:∀ {l:Ah},V0 b l=true->b∈l
 | [],h=>by cases h
 |k::l,h=>by unfold V0 at h;by_cases e:b=k;grind;rw[z4 e,Tl]at h;exact Uc _ (gE h)
theorem cE :∀ {l:Ah},cD l=true-> ∀(k k':Nat) b,l[k]? =some b->l[k']? =some b->k=k'
 | [],_,k,k',b,h,_=>by grind|c::l,d,k,k',b,h,h'=>by
  unfold cD at d;rw[SR,TP]at d;have hn:=V1 d.1;cases k with
  |zero=>grind|succ k=>
   cases k' with
   |zero=>grind|succ k'=>rw[cE d.2 k k' b h h']
theorem nK {s1 s:SS}{b:Nat}(h:Y3 s1 s b=true):∃l l' e z,s1.get b=some (.cells l e z)/\s.get b=some (.cells l' e z)/\l'.length=l.length:=by unfold Y3 at h;split at h;rename_i l e z h1;split at h;rename_i l' e' d h2;simp at h;grind;cases h;cases h
theorem yQ {b:Nat}:∀(ps:List Pl) (ds:Au) (nb:Nat),b∈(fI ps ds nb).map Prod.fst->nb<=b\/b∈rbs ps
 | [],ds,nb,h=>by simp[fI]at h|p::ps,ds,nb,h=>by
  have sub:∀b,b∈rbs ps->b∈rbs (p::ps):=λb hb=>by unfold rbs;grind
  have e:b∈(fI ps (pop p.g ds) (nb+p.g.na)).map Prod.fst->nb<=b\/b∈rbs (p::ps):=λh=>by rcases yQ ps _ _ h with h|h;grind;grind
  unfold fI at h;split at h;grind;split at h;rename_i q hq;simp at h;rcases h with rfl|h;obtain⟨X,d⟩:=G.fix_num hq (.int 0);unfold rbs;grind;grind;grind
def uX {s1:SS}{pv:List (At×SV)}{b:Nat}:∀(l:Ah),b∈(ovB s1 pv l).map Prod.fst->b∈l
 | [],h=>by simp[ovB]at h|c::l,h=>by unfold ovB at h;split at h;simp only[TV,TH]at h;rcases h with rfl|h;simp;exact Uc _ (uX l h);exact Uc _ (uX l h)
def uC {b:Nat}:∀(l:Ah),b∈(fC l).map Prod.fst->b∈l
 | [],h=>by simp[fC]at h|c::l,h=>by simp only[fC,TV,TH]at h;rcases h with rfl|h;simp;exact Uc _ (uC l h)
theorem Iu :∀ {pg:List (At×G)} {vs:As} {i:Nat} {p:Pl},(pls pg vs)[i]? =some p-> ∃q v,pg[i]? =some q/\vs[i]? =some v/\p.at_=q.1/\p.a=v
 | [],vs,i,p,h=>by simp[pls]at h|q::l,[],i,p,h=>by simp[pls]at h|q::l,v::vs,0,p,h=>by simp only[pls,Tj,SQ]at h;exact(by grind)|q::l,v::vs,i+1,p,h=>by obtain⟨q',d,h1,h2,h3⟩:=Iu (i:=i) h;grind
theorem MS :∀ {pg:List (At×G)} {vs:As},pg.length=vs.length->(pls pg vs).map Pl.at_=pg.map Prod.fst
 | [],[],_=>rfl| [],_::_,h=>rfl|_::_,[],h=>by grind|q::l,v::vs,h=>by simp only[pls,TV];rw[MS (by grind)]
variable {hp:Hp}{tm:Ao}
theorem QM {τ:Tau}{F:Ac}{s:SS}{f:Fm}(ht:TD P U τ F f tm)(hs:SD P U τ F s hp){p:At}{v:SV}(h:atv f s p=some v):∃x,VD P U τ F v x/\PX τ tm hp p x:=by
 cases p with
 |tmp t=>simp only[atv]at h;split at h;rename_i g hv;simp at h;subst h;exact⟨_,ht t g hv,rfl⟩;simp at h;subst h;exact⟨_,.any _,rfl⟩|cell b j=>simp only[atv]at h;split at h;rename_i l e z hb;rcases hs.live b _ hb with⟨i,o,y,h1,h2,h3,cs,n,rfl,h4,d⟩| ⟨_,L,e',k,ph,h2,_⟩;obtain⟨x,hx,hv⟩:=d j v h;exact⟨x,hv,i,o,cs,n,e,z,h1,h2,hx⟩;grind;cases h
 |no=>simp only[atv,SQ]at h;subst h;exact⟨undef,.any _,trivial⟩
theorem kL {τ:Tau}{F:Ac}{s:SS}{hp:Hp}{f:Fm}{tm:Ao}(ht:TD P U τ F f tm)(hs:SD P U τ F s hp):∀ {pg:List (At×G)} {vs:As},aJ f s pg=some vs->pg.length=vs.length/\ ∃xs,VDL P U τ F vs xs/\ ∀(i:Nat) q x,pg[i]? =some q->xs[i]? =some x->PX τ tm hp q.1 x
 | [],vs,h=>by simp only[aJ,SQ]at h;subst h;exact⟨rfl,[],.nil,λi q x h=>by grind⟩|p::l,vs,h=>by unfold aJ at h;split at h;rename_i v hv;split at h;rename_i e d;cases h;obtain⟨x,h1,h2⟩:=QM ht hs hv;obtain⟨h3,xs,h4,g⟩:=kL ht hs d;refine⟨by grind,x::xs,.cons h1 h4,λi q y hq hy=>?_⟩;grind;cases h;cases h
def PX.mono {τ τ':Tau}{p:At}{x:Av}(ht:Tle τ τ')(h:PX τ tm hp p x):PX τ' tm hp p x:=by
 cases p with
 |tmp t=>exact h|cell b j=>obtain⟨i,o,cs,n,e,z,h1,h2⟩:=h;exact⟨i,o,cs,n,e,z,ht _ _ h1,h2⟩
 |no=>trivial
def JF (l f:Fm):Dz l.length (l++f)=l.map Prod.fst:=by
 induction l with
 |nil=>cases f<;>rfl
 |cons a l d=>simp only[TM,Uf,Dz,TV,d]
variable {ar :Ai}
variable {tm':Ao}
theorem XC.loop_next {b:Code}{tm1:Ao}{hp1 hp':Hp}{e:Exit}(h1:XC P ov ar nt b tm hp .normal tm1 hp1)(h2:XC P ov ar nt (.loop b) tm1 hp1 e tm' hp')(d:hp.nx<=hp1.nx)(g:hp1.nx<=hp'.nx)(hk:∀r,r<hp1.nx->hp1.m.get r=some .dfr->hp'.m.get r=some .dfr):XC P ov ar nt (.loop b) tm hp e tm' hp':=
 h1.comp h2 d g hk λn m ds h j k p=>by simp only[j8,k];grind
theorem XC.loop_end {b:Code}{hp':Hp}{e:Exit}(h1:XC P ov ar nt b tm hp e tm' hp')(g:e≠ .normal):XC P ov ar nt (.loop b) tm hp e tm' hp':=
 h1.map λn m ds d hk=>by simp only[j8,hk];grind
end
section
variable {P :Aw}{U:Ab}{ov:Aa}{nt:Nat}{ar:Ai}
variable {b :Code}{body:Fm->M (Exit×Fm)}{an:F9}{pg:List (At×G)}{ps:List Pl}{bs0 kill:Ah}{s1:SS}{f0:Fm}{tm1:Ao}{τ1:Tau}{F1:Ac}{hp1:Hp}{n0:Nat}{Q:(Exit×Fm)×SS->Prop}
variable (P U ov) in
def La (ar:Ai)(nt:Nat)(b:Code)(τ1:Tau)(F1:Ac)(s1:SS)(hp1:Hp)(f0:Fm)(Q:(Exit×Fm)×SS->Prop)(tm:Ao)(hp:Hp):Prop:=
 ∃ex f' s',Q ((ex,f'),s')/\ ∃τ' F' hp',Ext τ1 F1 s1 hp1 τ' F' s' hp'/\SD P U τ' F' s' hp'/\ ∃tm',XC P ov ar nt (.loop b) tm hp ex tm' hp'/\TD P U τ' F' f' tm'/\(∃pre,f'=pre++f0)/\hp.nx<=hp'.nx/\ ∀r,r<hp.nx->hp.m.get r=some .dfr->hp'.m.get r=some .dfr
theorem DI (m:∀z,fM P U ov ar nt (body z) b z)(hs1:SD P U τ1 F1 s1 hp1)(ht1:TD P U τ1 F1 f0 tm1)(J:ps.map Pl.at_=pg.map Prod.fst)(pa:∀p∈ps,∃F0 x0,VD P U τ1 F0 p.a x0)(W:∀c∈bs0,c∉kill)(ad:∀c∈rbs ps,c∉bs0/\c∉kill/\c<s1.nx)(hB:∀es:Au,es.length=(sos ps).length->an.inv (u5 U (sos ps) es)->(c8 (body (fT ps (F7 U (sos ps) n0 es) s1 f0)) (NJ P U an pg ps bs0 kill s1 f0 (F7 U (sos ps) n0 es)) (sT ps (F7 U (sos ps) n0 es) s1 bs0 kill)).vc U Q):∀(N:Nat) (es:Au),an.mu (u5 U (sos ps) es)<N->es.length=(sos ps).length->an.inv (u5 U (sos ps) es)-> ∀(τ:Tau) (F:Ac) (hp:Hp) (tm:Ao),SD P U τ F (sT ps (F7 U (sos ps) n0 es) s1 bs0 kill) hp->TD P U τ F (fT ps (F7 U (sos ps) n0 es) s1 f0) tm->Ext τ1 F1 s1 hp1 τ F (sT ps (F7 U (sos ps) n0 es) s1 bs0 kill) hp->La P U ov ar nt b τ1 F1 s1 hp1 f0 Q tm hp
 |0,es,h,_,_=>absurd h (Nat.not_lt_zero _)|N+1,es,be,D,Y=>by
  intro τ F hp tm y ae K;have hq:=hB es D Y;rw[A5]at hq;generalize hds:F7 U (sos ps) n0 es=ds at hq y ae K;obtain⟨⟨e,z⟩,s',hq,τ',F',hp',d,B,tm',hx,V,pre,ac⟩:=m (fT ps ds s1 f0) τ F _ hp tm ae y _ hq y;have M:z=pre++fT ps ds s1 f0:=ac;have n:e≠ .normal->Q ((e,z),s')->La P U ov ar nt b τ1 F1 s1 hp1 f0 Q tm hp:=λaq hQ=>
   ⟨e,z,s',hQ,τ',F',hp',K.trans d,B,tm',hx.loop_end aq,V,⟨pre++wS (bY ps ds s1.nx),by rw[M,fT,Th]⟩,d.nx,λr hr hg=>d.dfr y hr hg (.inl rfl)⟩
  cases e with
  |exit j=>exact n (by simp) hq|ret=>exact n (by simp) hq|normal=>
   simp only[NJ]at hq;cases c1:(Dz (z.length-(fT ps ds s1 f0).length) z).all (λt=>pg.any (λp=>Qt t p.1))with
   |false=>rw[c1]at hq;exact hq.elim|true=>
    rw[c1,Tk]at hq;simp only[v8]at hq;cases c2:aJ z s' pg with
    |none=>rw[c2]at hq;exact hq.elim|some bb=>
     rw[c2]at hq;obtain⟨al,xs,ah,aw⟩:=kL V B c2;rw[A5]at hq;obtain⟨vs,s2,hq,τ2,F2,hp2,k,C,rfl,ai⟩:=BQ ps bb xs τ' F' s' hp' ah B _ hq B;rw[A5]at hq;obtain⟨⟨A,bs⟩,s3,hq,o3,ak,ap⟩:=Gz τ1 ps vs s2 _ hq C.fc;have ax:=C.only o3 ak;have X:=((K.trans d).trans k).trans (Vc C o3);simp only[v8]at hq;cases c3:(X7 (s3.h.length-(sT ps ds s1 bs0 kill).h.length) s3.h).all (λb=>Nat.ble s1.nx b||V0 b bs0||V0 b kill||V0 b (rbs ps))&&bs0.all (Y3 s1 s3)&&cD bs&&
      bs.all (λb=> !V0 b bs0&&(Nat.ble s1.nx b||V0 b kill))&&Nat.beq bs.length (DZ ps)with
     |false=>rw[c3]at hq;exact hq.elim|true=>
      rw [c3,Tk] at hq;simp only [SR] at c3;obtain ⟨⟨⟨⟨k1,k2⟩,k3⟩,k4⟩,k5⟩:=c3;rw [Ty] at k1 k2 k4;have L:=hq.1;have aa:=(hq.2 hq.1).1;have G:=ap s3 o3.h;have u:=BO G;have head : Be P U τ1 F1 s1 hp1 f0 tm1 ps bs0 kill τ2 F2 s3 hp2  z tm' vs   A bs xs:=by
       refine⟨hs1,ht1,ax,V.mono k.t k.f,X,G,ai,λi p x hp az=>?_,?_,pa,λt ht=>?_,λl hl c hc hlt=>?_,ad,λc hc=>⟨W c hc,nK (k2 c hc)⟩,cE k3,λc hc=>?_,SY k5⟩
       .have h1:=congrArg (λl=>l[i]?) J;simp only[TU,hp,TO]at h1;cases O:pg[i]? with
        |none=>rw[O]at h1;cases h1
        |some q=>rw[O]at h1;simp only[TO,SQ]at h1;rw[h1];exact(aw i q x O az).mono k.t
       have h1:=congrArg List.length J;simp only[Tm]at h1;rw[h1,al];exact ah.1.symm
       .have au:t∉pre.map Prod.fst:=by
         intro hm;rw[Ty,M,Tv,Nat.add_sub_cancel,JF]at c1;have:=c1 t hm;rw[List.any_eq_true]at this;obtain⟨q,bg,g⟩:=this;have Z:q.1∈ps.map Pl.at_:=by grind
         obtain⟨p,hp1,hp2⟩:=Uy.1 Z;refine ht p hp1 ?_;rw[hp2];cases R:q.1 with
         |tmp t'=>rw[R]at g;rw[SY g]|cell b j=>rw[R]at g;cases g
         |no=>rw[R]at g;cases g
        rw[M,sB _ _ au,fT,K2];cases am:lk (wS (bY ps ds s1.nx)) t with
        |none=>rfl|some a=>obtain⟨i,q,q1,q2,_⟩:=nQ _ am;obtain⟨p,p1,p2⟩:=Bl _ _ _ _ _ q1;exact absurd (by grind) (by omega)
       .obtain⟨l2,e2,_⟩:=(d.trans (k.trans (Vc C o3))).hh;have ay:(sT ps ds s1 bs0 kill).h=fL ps ds s1 bs0 kill++s1.h:=rfl;have ao:l=l2++fL ps ds s1 bs0 kill:=by rw[e2,ay,<-Th]at hl;exact(List.append_cancel_right hl).symm
        rw[ao,TQ,TG]at hc;rcases hc with hc|hc;rw[e2,Tv,Nat.add_sub_cancel,rA]at k1;have:=k1 c hc;simp only[Uu,TY]at this;rcases this with((h1|h1)|h1)|h1;omega;exact .inl (gE h1);exact .inr (.inl (gE h1));exact .inr (.inr (gE h1));simp only[fL,TQ,TG]at hc;rcases hc with h1|h1|h1;rcases yQ _ _ _ h1 with h2|h2;omega;exact .inr (.inr h2);exact .inl (uX _ h1);have:=uC _ h1;simp only[TG]at this;rcases this with h2|h2|h2|h2;exact .inr (.inl h2);exact .inl h2;exact .inr (.inr h2);simp at h2;omega
       have:=k4 c hc;simp only[SR,TP,Uu,TY]at this;refine⟨V1 this.1,?_⟩;rcases this.2 with h1|h1;exact .inl h1;exact .inr (gE h1)
      obtain⟨g1,g2,g3⟩:=head.head (M2 (sos ps) n0 A u);have ab:an.mu (u5 U (sos ps) A)<N:=by
       have:u5 U (sos ps) ds=u5 U (sos ps) es:=by rw[<-hds];exact J2 _ _ _ D
       rw[this]at aa;omega
      obtain⟨aj,f4,s4,w1,bc,F4,av,w2,w3,ba,w4,w5,w6,w7,w8⟩:=DI m hs1 ht1 J pa W ad hB N A ab u L _ _ _ _ g1 g2 g3;exact⟨aj,f4,s4,w1,bc,F4,av,w2,w3,ba,hx.loop_next w4 d.nx w7 w8,w5,w6,Ub d.nx w7,λr hr hg=>w8 r (TX hr d.nx) (d.dfr y hr hg (.inl rfl))⟩
  |_=>exact n (by simp) hq
end
def YH (l:List (Nat×(Fm->SS->F9)))(id:Nat):Bb (Fm->SS->F9):=lk l id
def slp (P:Aw)(U:Ab)(l:List (Nat×(Fm->SS->F9))):mC:=λid b body f=>match YH l id with
 |some an=>some (v8 λs=>NL P U (an f s) b body f)|none=>none
def Gc (U:Ab):List (So×E)->Ar
 | []=>[]
 | (k,e)::l=>Ib U k e::Gc U l
def D5 (U:Ab)(name:String)(places:Code->Fm->SS->Bb (List (At×G)×Ah))(gh:Fm->SS->List (So×E))(inv:Ar->Ar->Prop)(mu:Ar->Ar->Nat):Fm->SS->F9:=
 λf s=>⟨name,places,inv (Gc U (gh f s)),mu (Gc U (gh f s)),gh f s⟩
section
variable {P :Aw}{U:Ab}{ov:Aa}{nt:Nat}{ar:Ai}
def SD.fvb {τ:Tau}{F:Ac}{s:SS}{hp:Hp}(h:SD P U τ F s hp)(n:Nat):SD P U τ F (fvb s n) hp:=⟨h.live,h.inj,h.frz,h.lt,h.flt,h.new,h.fc,h.fz⟩
def Ext.fvb {τ τ':Tau}{F F':Ac}{s s':SS}{hp hp':Hp}(h:Ext τ F s hp τ' F' s' hp')(n:Nat):Ext τ F s hp τ' F' (fvb s' n) hp':=⟨h.t,h.f,h.nx,h.snx,h.st,h.low,h.hh,h.hf,h.win⟩
theorem NM {b:Code}{body:Fm->M (Exit×Fm)}(r:∀f',fM P U ov ar nt (body f') b f')(an:F9)(f0:Fm):fM P U ov ar nt (NL P U an b body f0) (.loop b) f0:=by
 intro τ F s hp tm ht hs Q hq _;simp only[NL,v8]at hq;cases c1:an.places b f0 s with
 |none=>rw[c1]at hq;exact hq.elim|some pp=>
  obtain⟨pg,bs0⟩:=pp;rw[c1]at hq;simp only at hq;cases T:aJ f0 s pg with
  |none=>rw[T]at hq;exact hq.elim|some N=>
   rw[T]at hq;simp only at hq;obtain⟨E,xs,z,ac⟩:=kL ht hs T;generalize J:pls pg N=ps at hq;have m:ps.map Pl.at_=pg.map Prod.fst:=by rw[<-J];exact MS E
   rw[A5]at hq;obtain⟨vs,s2,hq,τ2,R,hp2,d,u,rfl,L⟩:=BQ ps N xs τ F s hp z hs _ hq hs;rw[A5]at hq;obtain⟨⟨es,bs⟩,k,hq,o3,Y,aa⟩:=Gz τ2 ps vs s2 _ hq u.fc;have ad:=u.only o3 Y;have A:=d.trans (Vc u o3);simp only[v8]at hq;cases O:bs0.all (Y3 k k)&&cD bs&&bs.all (λb=> !V0 b bs0)&&Nat.beq bs.length (DZ ps)&&(rbs ps).all (λb=> !V0 b bs0&& !V0 b bs&&Nat.ble (b+1) k.nx)with
   |false=>rw[O]at hq;exact hq.elim|true=>
    rw [O,Tk] at hq;simp only [SR] at O;obtain ⟨⟨⟨⟨k2,k3⟩,k4⟩,k5⟩,k6⟩:=O;rw [Ty] at k2 k4 k6;have K : ∀ c ∈ rbs ps,c ∉ bs0∧c ∉ bs∧c < k.nx:=λc hc=>by have:=k6 c hc;simp at this;exact⟨V1 this.1.1,V1 this.1.2,this.2⟩
    have e:=ad.fvb (sos ps).length;have B:=A.fvb (sos ps).length;have y:=ht.mono d.t d.f;have j:=aa (fvb k (sos ps).length) o3.h;have g:=BO j;have C:=hq.1;have hB:=iG _ _ _ (hq.2 hq.1);have n:∀c∈bs0,c∉bs:=λc hc hb=>by have:=k4 c hb;rw[TP]at this;exact V1 this hc
    have pa:∀p∈ps,∃F0 x0,VD P U τ2 F0 p.a x0:=by intro p hp;obtain⟨i,hi⟩:=TZ.1 hp;rw[<-J]at hi;obtain⟨q,v,g1,X,g3,g4⟩:=Iu hi;obtain⟨x,ak,ae⟩:=z.get X;exact⟨R,x,by rw[g4];exact ae.mono d.t d.f⟩
    have head:Be P U τ2 R (fvb k (sos ps).length) hp2 f0 tm ps bs0 bs τ2 R (fvb k (sos ps).length) hp2 f0 tm vs es bs xs:=by
     refine⟨e,y,e,y,Ext.refl e,j,L,λi p x hp ah=>?_,?_,pa,λt _=>rfl,λl hl c hc hlt=>?_,K,λc hc=>⟨n c hc,nK (k2 c hc)⟩,cE k3,λc hc=>⟨λh=>n c h hc,.inr hc⟩,SY k5⟩
     .have h1:=congrArg (λl=>l[i]?) m;simp only[TU,hp,TO]at h1;cases G:pg[i]? with
      |none=>grind|some q=>rw[G]at h1;simp at h1;rw[h1];exact(ac i q x G ah).mono d.t
     have h1:=congrArg List.length m;simp at h1;rw[h1,E];exact z.1.symm
     .have:l=[]:=by have:=congrArg List.length hl;rw[Tv]at this;grind
      grind
    obtain⟨g1,X,g3⟩:=head.head (M2 (sos ps) k.fv es g);obtain⟨W,f4,s4,w1,aj,F4,ab,w2,w3,ai,w4,w5,⟨pre,w6⟩,_⟩:=DI r e y m pa n K (λV D Z=>hB V D (by rw[J2 _ _ _ D];exact Z))
     (an.mu (u5 U (sos ps) es)+1) es (Ue _) g C _ _ _ _ g1 X g3
    exact⟨(W,f4),s4,w1,aj,F4,ab,B.trans w2,w3,ai,w4,w5,pre,w6⟩
theorem NN (l:List (Nat×(Fm->SS->F9))):bX P U ov ar nt (slp P U l):=by intro e b body f r d hr;unfold slp at hr;split at hr;rename_i an _;simp at hr;subst hr;exactλτ F s hp tm ht hs=>NM d (an f s) f τ F s hp tm ht hs;grind
end
def LN :An->Ah
 | []=>[]
 |o::os=>match o.dst with
  |some d=>d::LN os|none=>LN os
def qV :Code->Ah
 | .region _ ops _=>LN ops.toList| .seq x y=>qV x++qV y| .cond _ x y=>qV x++qV y| .block _ b=>qV b| .loop b=>qV b| .scope b=>qV b|_=>[]
def anys (own:List (Nat×G)):Ah->Ah->List (At×G)
 |_,[]=>[]
 |seen,t::l=>bif V0 t seen then anys own seen l else match lk own t with
  |some _=>anys own (t::seen) l|none=>(.tmp t,.any)::anys own (t::seen) l
def ownT :List (Nat×G)->List (At×G)
 | []=>[]
 | (t,g)::l=>(.tmp t,g)::ownT l
def cellsG (b:Nat):Nat->List G->List (At×G)
 |_,[]=>[]
 |j,g::l=>(.cell b j,g)::cellsG b (j+1) l
def F5 (own:List (Nat×G))(blks:Fm->SS->Bb (List (Nat×List G))):Code->Fm->SS->Bb (List (At×G)×Ah):=λc f s=>match blks f s with
 |some bl=>some (ownT own++(bl.map λp=>cellsG p.1 0 p.2).flatten++anys own [] (qV c),bl.map Prod.fst)|none=>none
def mkPr (rs:Fm->SS->List (At×G))(own:List (Nat×G))(blks:Fm->SS->Bb (List (Nat×List G))):Code->Fm->SS->Bb (List (At×G)×Ah):=λc f s=>match F5 own blks c f s with
 |some r=>some (rs f s++r.1,r.2)|none=>none
def sx (P:Aw)(U:Ab)(anns:Ay->List (Nat×(Fm->SS->F9)))(con:Ay->Bb (As->M SV))(n:Nat):I8:=
 Y0 P U (λcall nt=>NE P U call nt) (λ_ g _=>slp P U (anns g)) con n
def sxF (P:Aw)(U:Ab)(anns:Ay->List (Nat×(Fm->SS->F9)))(con:Ay->Bb (As->M SV))(n:Nat)(g:Ay):As->M SV:=
 sfun P U (sx P U anns con n) (λnt=>NE P U (sx P U anns con n) nt) (λg _=>slp P U (anns g)) n g
section
variable {P :Aw}{U:Ab}{ov:Aa}
def Qz (d:Ay->List (Nat×(Fm->SS->F9))){con:Ay->Bb (As->M SV)}(h:∀g k,con g=some k->C3 P U ov k g)(j:∀g,isT (ov g)=true->con g≠none)(n:Nat):E4 P U ov (sx P U d con n):=
 wC (λ_ e _=>EF e) (λ_ _ _ g _=>NN (d g)) h j n
def Of (d:Ay->List (Nat×(Fm->SS->F9))){con:Ay->Bb (As->M SV)}(e:∀g k,con g=some k->C3 P U ov k g)(h:∀g,isT (ov g)=true->con g≠none)(n:Nat)(g:Ay)(hg:isT (ov g)=false):C3 P U ov (sxF P U d con n g) g:=
 IU (Qz d e h n) (λ_=>EF (Qz d e h n)) (λ_ g _=>NN (d g)) n g hg
end
open Go.Xe Go.RowKit
def Bg (w:Bc)(v:Av):Ag:=match v with
 | .bool _| .int _ _| .string _=>some v
 | .slice none _ _=>some v| .slice (some ⟨i,o,none⟩) (l+1) c=>match w.heap[i]? with
  |some (.cells _ _ _)=>if l+1<=c/\c<unk then some (.slice (some ⟨i+1,o,none⟩) (l+1) c)else none
  |_=>none
 | .slice (some _) 0 _=>some (.slice (some ⟨0,0,some 0⟩) 0 unk)|_=>none
def roT (w:Bc):Nat->Af->Ao
 |_,[]=>.e|k,v::vs=>(roT w (k+1) vs).set k (Bg w v)
def Cm (w:Bc):∀(vs:Af) (k j:Nat),(roT w k vs).get j=if k<=j then(vs[j-k]?).bind (Bg w)else none
 | [],k,j=>by simp[roT,VE]|v::vs,k,j=>by have g:=Cm w vs (k+1) j;unfold roT;rw[VF];by_cases d:j=k;subst d;rw[Tp rfl,Tp (Tq _)];simp;rw[Tn d,g];by_cases e:k+1<=j;rw[Tp e,Tp (by omega),show j-k=(j-(k+1))+1 by omega,Te];rw[Tn e,Tn (by omega)]
def roB (w:Bc):Obj->Bb Blk
 | .cells C e _=>some (.ro (roT w 0 C.toList) C.size e 0)|_=>none
def roM (w:Bc):Nat->List Obj->T Blk
 |_,[]=>.e|k,o::os=>(roM w (k+1) os).set k (roB w o)
theorem II (w:Bc):∀(os:List Obj) (k j:Nat),(roM w k os).get j=if k<=j then(os[j-k]?).bind (roB w)else none
 | [],k,j=>by simp[roM,VE]|o::os,k,j=>by have d:=II w os (k+1) j;unfold roM;rw[VF];grind
def Ey (P:Aw)(w:Bc):Hp:=⟨(roM w 1 w.heap.toList).set 0 (some (.reg .e 0 rgT (kf P rgT).length)),w.heap.size+1⟩
def Ez (w:Bc):Nat->Bb Xe.Pl
 |0=>some ⟨0,0,0,0⟩|i+1=>match w.heap[i]? with
  |some (.cells C _ _)=>some ⟨i,0,C.size,0⟩|_=>none
def EA (w:Bc):Sg:=⟨λi r=>if r=0 then Ez w i else none⟩
def RV (w:Bc)(i:Nat):EA w i=Ez w i:=rfl
def Cl (w:Bc)(i:Nat):Ez w (i+1)=match w.heap[i]? with
  |some (.cells C _ _)=>some ⟨i,0,C.size,0⟩|_=>none:=rfl
def BS.ro (w:Bc):BS:=⟨(· <w.heap.size),(· <w.heap.size),λ_ h=>h⟩
def vM (P:Aw)(w:Bc)(i:Nat):(Ey P w).m.get (i+1)=(w.heap[i]?).bind (roB w):=by show((roM w 1 w.heap.toList).set 0 _).get (i+1)=_;rw[VF,Tn (by omega),II,Tp (by omega)];simp
def vN (P:Aw)(w:Bc):(Ey P w).m.get 0=some (.reg .e 0 rgT (kf P rgT).length):=by show((roM w 1 w.heap.toList).set 0 _).get 0=_;rw[VF,Tp rfl]
variable {w:Bc}
def HO {v a:Av}(h:Bg w v=some a):VR (EA w) a v:=by
 unfold Bg at h;split at h;cases h;exact .bool _;cases h;exact .int _ _;cases h;exact .string _;cases h;exact .nils _ _
 .rename_i i o l c;split at h
  .rename_i C e f hh;split at h
   .rename_i hc;cases h;have hs:EA w (i+1)=some ⟨i,0,C.size,0⟩:=by rw[RV,Cl,hh]
    have:=VR.slice (σ:=EA w) (i+1) o _ (l+1) c c hs (.inl ⟨rfl,hc.2⟩) hc.1;simpa using this
   cases h
  cases h
 cases h;exact .vague _ _;cases h
def AI {i:Nat}{p:Xe.Pl}(h:Ez w (i+1)=some p):p.blk=i:=by rw[Cl]at h;split at h;simp only[SQ]at h;rw[<-h];cases h
def HR.ro (P:Aw)(w:Bc):HR (BS.ro w) w (EA w) (Ey P w) w:=by
 have nr:∀i b r,(Ey P w).m.get i=some b->Ix b r-> ∃j C e f,i=j+1/\r=0/\w.heap[j]? =some (.cells C e f)/\b= .ro (roT w 0 C.toList) C.size e 0:=by
  intro i b r hg hx;cases i with
  |zero=>rw[vN,SQ]at hg;subst hg;have hx:1<=r/\r<=0:=hx;omega|succ j=>
   rw[vM,Option.bind_eq_some_iff]at hg;obtain⟨o,g,hb⟩:=hg;cases o with
   |cells C e f=>simp only[roB,SQ]at hb;subst hb;exact⟨j,C,e,f,rfl,hx,g,rfl⟩|_=>cases hb
 refine⟨rfl,rfl,rfl,Tq _,λ_ h=>h,λ_ _=>rfl,λi r hi=>?_,λi b r hg hx=>?_,λi j b b' r s p q hi hj hx hy n hp hq=>?_,λi b hg hb=>?_⟩
 .have hi:w.heap.size+1<=i:=hi;show(if r=0 then Ez w i else none)=none;split
  .obtain⟨j,rfl⟩:∃j,i=j+1:=⟨i-1,by omega⟩
   rw[Cl,Array.getElem?_eq_none (by omega)]
  rfl
 obtain⟨j,C,e,f,rfl,rfl,g,rfl⟩:=nr i b r hg hx;refine⟨⟨j,0,C.size,0⟩,_,by show Ez w (j+1)=_;rw[Cl,g],(Ti.1 g).1,g,C,f,rfl,rfl,rfl,by simp,λk v hj hv=>?_⟩;rw[Cm,Tp (UJ _),Ux,Option.bind_eq_some_iff]at hv;obtain⟨u,h1,h2⟩:=hv;exact⟨u,by simpa using h1,HO h2⟩;obtain⟨t,_,_,_,rfl,rfl,_⟩:=nr i b r hi hx;obtain⟨j',_,_,_,rfl,rfl,_⟩:=nr j b' s hj hy;have x:=AI (w:=w) (show Ez w (t+1)=some p from hp);have y:=AI (w:=w) (show Ez w (j'+1)=some q from hq);omega
 .cases i with
  |zero=>rw[vN,SQ]at hg;subst hg;exact⟨⟨_,rfl⟩,λr h0 _=>Tn h0⟩|succ j=>
   rw[vM,Option.bind_eq_some_iff]at hg;obtain⟨o,_,d⟩:=hg;cases o with
   |cells C e f=>simp only[roB,SQ]at d;subst d;cases hb
   |_=>cases d
def roF (w:Bc):Ac
 |0=>none|i+1=>(w.heap[i]?).bind (roB w)
def Nm (P:Aw)(w:Bc):∀i b,roF w i=some b->(Ey P w).m.get i=some b/\i<(Ey P w).nx:=by
 intro i b h;cases i with
 |zero=>cases h
 |succ j=>refine⟨by rw[vM];exact h,?_⟩;have h:(w.heap[j]?).bind (roB w)=some b:=h;rw[Option.bind_eq_some_iff]at h;obtain⟨o,d,_⟩:=h;have:=(Ti.1 d).1;show j+1<w.heap.size+1;omega
def Km {i:Nat}{C:Al}{e:Ax}{f:Nat×Nat}(h:w.heap[i]? =some (.cells C e f)):roF w (i+1)=some (.ro (roT w 0 C.toList) C.size e 0):=by show(w.heap[i]?).bind (roB w)=_;rw[h];rfl
def DQ (f:Ax->Nat->List (Nat×Ax))(o:Nat):List Field->List (Nat×Ax)
 | []=>[]
 |x::xs=>f x.type (o+x.offset)++DQ f o xs
def cH (P:Aw):Nat->Ax->Nat->List (Nat×Ax)
 |0,_,_=>[]
 |d+1,t,o=>match P.underlying t with
  |some (.struct fs)=>DQ (cH P d) o fs.toList|some (.array n e)=>((List.range n).map λi=>cH P d e (o+i*P.cellsOf e)).flatten|_=>[(o,t)]
def isAgg (P:Aw)(t:Ax):Bool:=match P.underlying t with
 |some (.struct _)=>true|some (.array _ _)=>true|_=>false
section
variable {H :Type}{enc:Ax×Av->H}{P:Aw}{w:Bc}{spare:Nat->Bool}{held:Bool}
def zK {f:Ax->Nat->List (Nat×Ax)}{o:Nat}{p:Nat×Ax}:∀ {l:List Field},p∈DQ f o l-> ∃x∈l,p∈f x.type (o+x.offset)
 | [],h=>by simp[DQ]at h|x::xs,h=>by unfold DQ at h;rcases TG.1 h with h|h;exact⟨x,by simp,h⟩;obtain⟨y,h1,h2⟩:=zK h;exact⟨y,by simp[h1],h2⟩
theorem qB :∀(d:Nat) {p:Nat} {t:Ax} {cs:Af} {x:DataW H×List MemPlace},DataW.trod enc P w 0 spare held p t cs=some x-> ∀(a o:Nat) (u:Ax),(o,u)∈cH P d t a-> ∃(j:Nat) (cs':Af) (g:Nat) (x':DataW H×List MemPlace),o=a+j/\g<=p/\isAgg P u=false/\DataW.trod enc P w 0 spare held g u cs'=some x'/\ ∀(k:Nat) v,cs'[k]? =some v->cs[j+k]? =some v
 |0,p,t,cs,x,h,a,o,u,hm=>by simp[cH]at hm|d+1,p,t,cs,x,h,a,o,u,hm=>by
  unfold cH at hm;split at hm
  .rename_i q ht;obtain⟨xs,n,rfl,_,_,_,hf⟩:=DataW.trod_struct ht h;obtain⟨f,r,y⟩:=zK hm;obtain⟨i,hi⟩:=TZ.1 r;have z:q[i]? =some f:=by grind
   have:=hf i f z;have hlt:i<xs.length:=by grind
   rw[Tf hlt]at this;obtain⟨j,cs',g,x',h1,h2,h3,h4,B⟩:=qB d this (a+f.offset) o u y;exact⟨f.offset+j,cs',g,x',by omega,by omega,h3,h4,λk v hv=>by grind⟩
  .rename_i n e ht;obtain⟨i,hi,hm⟩:∃i,i<n/\(o,u)∈cH P d e (a+i*P.cellsOf e):=by grind
   obtain⟨m,x',h1,h2⟩:∃m x',p=m+1/\DataW.trod enc P w 0 spare held m e ((cs.drop (i*P.cellsOf e)).take (P.cellsOf e))=some x':=by
    cases p with
    |zero=>simp[DataW.trod]at h|succ m=>
     unfold DataW.trod at h;rw[ht]at h;simp only at h;split at h
     .rw[Uz]at h;obtain⟨xs,hx,_⟩:=h;have:=mapM_some_get hx i i (by grind);have hl:=mapM_some_length hx;have hlt:i<xs.length:=by grind
      rw[Tf hlt]at this;exact⟨m,_,rfl,this⟩
     cases h
   obtain⟨j,cs',g,A,h1,h2,h3,h4,B⟩:=qB d h2 _ o u hm;exact⟨i*P.cellsOf e+j,cs',g,A,by omega,by omega,h3,h4,λk v hv=>by grind⟩
  rename_i h1 h2;simp only[Ui,SU]at hm;obtain⟨rfl,rfl⟩:=hm;refine⟨0,cs,p,x,by omega,Tq _,?_,h,λk v hv=>by grind⟩;unfold isAgg;split;rename_i q hh;exact absurd hh (h1 q);rename_i n e hh;exact absurd hh (h2 n e);rfl
end
end Go.Sx
namespace Go.Sx
open Go.Xe Go.RowKit
inductive DW (P:Aw):Kd->Dat->Prop
 |int (k:IntKind) (n:Int) (h:k.min<=n/\n<=k.max):DW P (.int k) (.i n)
 |bool (b:Bool):DW P .bool (.b b)
 |str (s:Ae) (h:s.length<=maxLen):DW P .str (.s s)
 | sl (e : Ax) (rows : a8) (hl : rows.length ≤ maxLen) (hz : ∀ r ∈ rows, r.length = (kf P e).length)
   (h:∀(r k:Nat) (row:Ar) (kd:Kd) (d:Dat),rows[r]? =some row->row[k]? =some d->(kf P e)[k]? =some kd->DW P kd d):DW P (.sl e) (.l rows)
def layB (P:Aw)(e:Ax):Bool:=
 Nat.beq (cH P 20 e 0).length (kf P e).length&&Nat.beq (P.cellsOf e) (kf P e).length&&Nat.ble 1 (kf P e).length&&
  ((cH P 20 e 0).zipIdx.all λp=>Nat.beq p.1.1 p.2)&&((cH P 20 e 0).zip (kf P e)).all λp=>decide (kd1 P p.1.2=p.2)
def DH (P:Aw):Nat->Kd->Bool
 |_,.int _=>true|_,.bool=>true|_,.str=>true|n+1,.sl e=>layB P e&&(kf P e).all (DH P n)|_,_=>false
def PL (P:Aw)(S:Kd->Prop):Prop:=∀kd,S kd->match kd with
 | .int _=>True| .bool=>True| .str=>True| .sl e=>layB P e=true/\ ∀k∈kf P e,S k|_=>False
def inL (es:List Ax):Kd->Bool
 | .int _=>true| .bool=>true| .str=>true| .sl e=>V0 e es|_=>false
theorem OQ (P:Aw):PL P λkd=>∃m,DH P m kd=true:=by
 rintro kd ⟨m,h⟩;cases kd with
 |sl e=>
  cases m with
  |zero=>cases h
  |succ m=>simp only[DH,SR,Ty]at h;grind
 |_=>first|trivial| (cases m<;>cases h)
section
variable {H :Type}{enc:Ax×Av->H}{P:Aw}{w:Bc}{spare:Nat->Bool}{held:Bool}
theorem Mq {e:Ax}(h:layB P e=true):P.cellsOf e=(kf P e).length/\1<=(kf P e).length/\ ∀k kd,(kf P e)[k]? =some kd-> ∃u,(k,u)∈cH P 20 e 0/\kd1 P u=kd:=by
 simp only[layB,SR,TJ,TY]at h;obtain⟨⟨⟨⟨h1,h2⟩,h3⟩,h4⟩,d⟩:=h;refine⟨h2,h3,λk kd hk=>?_⟩;have hlt:=(SW.1 hk).1;have hl:k<(cH P 20 e 0).length:=by omega
 have hg:=Tf hl;rw[Ty]at h4 d;have g:=h4 ((cH P 20 e 0)[k],k) (by grind);have j:=d ((cH P 20 e 0)[k],kd) (Td (by rw[List.getElem?_zip_eq_some];exact⟨hg,hk⟩));simp at g j;grind
theorem Lc (a:Addr)(i j:Nat):(a.add i).add j=a.add (i+j):=by unfold Addr.add;grind
variable (P w) in
def yJ (kd:Kd)(v:Av)(d:Dat):Prop:=∃a,Bg w v=some a/\PV P (roF w) kd a d/\DW P kd d
theorem Dn {S:Kd->Prop}(hS:PL P S):∀(N t:Nat),t<N-> ∀(u:Ax) (cs:Af) (x:DataW H×List MemPlace),DataW.trod enc P w 0 spare held t u cs=some x->S (kd1 P u)-> ∃v d,cs=[v]/\yJ P w (kd1 P u) v d
 |0,_,h,_,_,_,_,_=>absurd h (Nat.not_lt_zero _)|N+1,t,hN,u,cs,x,ht,hg=>by
  unfold kd1 at hg⊢;split at hg;rename_i k G;clear hg;obtain⟨n,rfl,_,hw⟩:=DataW.trod_int G ht;refine⟨.int k n,.i n,rfl,.int k n,rfl,.int k n,.int k n ?_⟩;unfold Lit.wf at hw;grind;rename_i G;obtain⟨b,rfl,_⟩:=DataW.trod_bool G ht;exact⟨.bool b,.b b,rfl,.bool b,rfl,.bool b,.bool b⟩;rename_i G;obtain⟨s,rfl,_,hs⟩:=DataW.trod_string G ht;refine⟨.string s,.s s.data.toList,rfl,.string s,rfl,?_,.str _ ?_⟩;exact .str s.data.toList;simp_all
  .rename_i e G;obtain⟨ac,ao⟩:=hS _ hg;obtain⟨l1,l2,l3⟩:=Mq ac;rcases DataW.trod_slice G ht with⟨rfl,_⟩| ⟨a,len,cap,L,rest,n,rfl,rfl,_,_,ap,al,az,am,_,_⟩;exact⟨.slice none 0 0,.l [],rfl,.slice none 0 0,rfl,.nils e,.sl e [] (UJ _) (λr h=>by simp at h) (λr k row kd d h=>by simp at h)⟩
   .cases len with
    |zero=>refine⟨.slice (some a) 0 cap,.l [],rfl,.slice (some ⟨0,0,some 0⟩) 0 unk,?_,.vague e,.sl e [] (UJ _) (λr h=>by simp at h) (λr k row kd d h=>by simp at h)⟩;obtain⟨i,o,sp⟩:=a;cases sp<;>rfl
    |succ len=>
    have cell:∀r k,r<len+1->k<(kf P e).length-> ∀kd,(kf P e)[k]? =some kd-> ∃v d,w.cell? (a.add (r*P.cellsOf e+k))=some v/\yJ P w kd v d:=by
     intro r k hr hk kd g;have h1:=am r hr;have hlt:r<L.length:=by omega
     rw[Tf hlt,Option.bind_eq_some_iff]at h1;obtain⟨cs,ah,ai⟩:=h1;obtain⟨_,aw,aj⟩:=World.cells?_some ah;obtain⟨u',au,ad⟩:=l3 k kd g;obtain⟨j,cs',M,x',q1,q2,q3,q4,q5⟩:=qB 20 ai 0 k u' au;obtain⟨v,d,rfl,hv⟩:=Dn hS N M (by omega) u' cs' x' q4 (by rw[ad];exact ao kd (Td g));refine⟨v,d,?_,by rw[ad]at hv;exact hv⟩;have:=q5 0 v rfl;have hj:j=k:=by omega
     subst hj;rw[Uj]at this;rw[<-this,<-aj j (by omega)];congr 1;exact(Lc a _ _).symm
    have first:∃kd,(kf P e)[0]? =some kd:=⟨_,Tf (by omega)⟩
    obtain⟨av,ab⟩:=first
    obtain⟨v0,_,m,_⟩:=cell 0 0 (by omega) (by omega) av ab;obtain⟨i,o,sp⟩:=a;have aq:sp=none:=by
     cases sp with
     |none=>rfl|some q=>
      have hb:((⟨i,o,some q⟩:Addr).add (0*P.cellsOf e+0)).block=i:=by unfold Addr.add;split<;>rfl
      unfold World.cell? at m;rw[hb]at m;split at m
      .rename_i hh;have:((⟨i,o,some q⟩:Addr).add (0*P.cellsOf e+0)).spot.isSome=true:=by unfold Addr.add;simp
       grind
      cases m
    subst aq;have E:∀j,(⟨i,o,none⟩:Addr).add j=⟨i,o+j,none⟩:=λj=>UH _ _ _;obtain⟨C,e',f,hh⟩:∃C e' f,w.heap[i]? =some (.cells C e' f):=by rw[E]at m;unfold World.cell? at m;grind
    have J:∀r k,r<len+1->k<(kf P e).length-> ∀kd,(kf P e)[k]? =some kd-> ∃v d,C[o+r*(kf P e).length+k]? =some v/\yJ P w kd v d:=by intro r k hr hk kd g;obtain⟨v,d,h1,h2⟩:=cell r k hr hk kd g;refine⟨v,d,?_,h2⟩;rw[E,cell_of_row w i _ C e' f hh,l1]at h1;grind
    clear cell;have K:∀p:Nat×Nat,∃q:Av×Dat,p.1<len+1-> ∀kd,(kf P e)[p.2]? =some kd->C[o+p.1*(kf P e).length+p.2]? =some q.1/\yJ P w kd q.1 q.2:=by
     intro⟨r,k⟩;simp only;by_cases hr:r<len+1
     .cases hk:(kf P e)[k]? with
      |none=>exact⟨(undef,.i 0),λ_ kd h=>by cases h⟩|some kd=>obtain⟨v,d,h1,h2⟩:=J r k hr (SW.1 hk).1 kd hk;exact⟨(v,d),λ_ bb h=>by cases h;exact⟨h1,h2⟩⟩
     exact⟨(undef,.i 0),λh=>absurd h hr⟩
    obtain⟨ch,ax⟩:=Classical.axiomOfChoice K;obtain⟨vv,ba⟩:∃vv:Nat->Nat->Av,∀r k,vv r k=(ch (r,k)).1:=⟨λr k=>(ch (r,k)).1,λ_ _=>rfl⟩
    obtain⟨T,ay⟩:∃T:Nat->Nat->Dat,∀r k,T r k=(ch (r,k)).2:=⟨λr k=>(ch (r,k)).2,λ_ _=>rfl⟩
    have y:∀r k,r<len+1-> ∀kd,(kf P e)[k]? =some kd->C[o+r*(kf P e).length+k]? =some (vv r k)/\yJ P w kd (vv r k) (T r k):=by simp_all
    have z1:=l2;generalize hz:(kf P e).length=z at*;have Z:o+(len+1)*z<=C.size:=by have hk:(kf P e)[z-1]? =some ((kf P e)[z-1]'(by omega)):=Tf (by omega);have:=(y len (z-1) (by omega) _ hk).1;grind
    let rows:a8:=(List.range (len+1)).map λr=>(List.range z).map λk=>T r k
    have B:∀(r k:Nat) (row:Ar) (d:Dat),rows[r]? =some row->row[k]? =some d->r<len+1/\k<z/\d=T r k:=by grind
    have D:rows.length=len+1:=by simp[rows]
    have rz:∀r∈rows,r.length=z:=by intro r hr;simp only[rows,Uy]at hr;obtain⟨i,_,rfl⟩:=hr;simp
    have R:cap<unk:=by have:=al;unfold maxLen at this;unfold unk;omega
    have Y:Bg w (.slice (some ⟨i,o,none⟩) (len+1) cap)=some (.slice (some ⟨i+1,o,none⟩) (len+1) cap):=by unfold Bg;simp only[hh];rw[Tp ⟨ap,R⟩]
    have A:∀k,k<z-> ∃kd,(kf P e)[k]? =some kd:=λk hk=>⟨_,Tf (by omega)⟩
    have ae:∀p:Nat×Nat,∃a,p.1<len+1->p.2<z->Bg w (vv p.1 p.2)=some a:=by intro⟨r,k⟩;simp only;by_cases h:r<len+1/\k<z;obtain⟨kd,g⟩:=A k h.2;obtain⟨_,a,ha,_⟩:=y r k h.1 kd g;exact⟨a,λ_ _=>ha⟩;exact⟨undef,λh1 h2=>absurd ⟨h1,h2⟩ h⟩
    obtain⟨ca,ak⟩:=Classical.axiomOfChoice ae;obtain⟨aa,X⟩:∃aa:Nat->Nat->Av,∀r k,aa r k=ca (r,k):=⟨λr k=>ca (r,k),λ_ _=>rfl⟩
    have W:∀r k,r<len+1->k<z->Bg w (vv r k)=some (aa r k):=by intro r k h1 h2;rw[X];exact ak (r,k) h1 h2
    refine⟨_,.l rows,rfl,_,Y,?_,?_⟩
    .rw[<-D];refine .sl e (i+1) o cap (.ro (roT w 0 C.toList) C.size e' 0) (roT w 0 C.toList) C.size z (zb:=0) rows aa (Km hh) rfl ⟨.inl ⟨R,by omega⟩,λ_=>R,λh=>by cases h⟩ (by rw[D];exact Z) hz.symm rz ?_ ?_
     .intro r k row d h1 h2;obtain⟨O,V,rfl⟩:=B r k row d h1 h2;obtain⟨kd,g⟩:=A k V;have:=(y r k O kd g).1;rw[Cm,Tp (UJ _),Ux];have e1:C.toList[o+r*z+k]? =some (vv r k):=by rw[<-this];simp
      rw[e1];exact W r k O V
     intro r k row kd d h1 h2 g;obtain⟨O,V,rfl⟩:=B r k row d h1 h2;obtain⟨_,a,ha,hp,_⟩:=y r k O kd g;have:=W r k O V;rw[ha]at this;cases this;exact hp
    refine .sl e rows (by rw[D];omega) (λr hr=>by rw[hz];exact rz r hr) ?_;intro r k row kd d h1 h2 g;obtain⟨O,V,rfl⟩:=B r k row d h1 h2;exact(y r k O kd g).2.choose_spec.2.2
  rename_i e G;cases hb:Nat.beq e rgT<;>rw[hb]at hg<;>exact(hS _ hg).elim;exact(hS _ hg).elim
theorem OD {u:Ax}{v:Av}{d:DataW H}{ps:List MemPlace}(h:DataW.Trod enc P w 0 spare held u v d ps){m:Nat}(hg:DH P m (kd1 P u)=true)(hv:v.cells.toList=[v]):∃d,yJ P w (kd1 P u) v d:=by obtain⟨e,h⟩:=h;obtain⟨g,d,h1,h2⟩:=Dn (OQ P) (e+1) e (Ue _) u _ _ h ⟨m,hg⟩;grind
end
section
variable {P :Aw}{U:Ab}{ov:Aa}
def HR.roBelow {σ:Sg}{hp:Hp}{w w':Bc}(h:HR (BS.ro w) w σ hp w'):Below w.heap.size w w':=
 ⟨h.os,h.tape,h.output,h.size,h.kept⟩
end
open Go.Xe
inductive Lf where
 |g (k:G)
 |ptr (i z:Nat)
 |nilp
 |clo (g:Ay) (is:List (Nat×Nat))
 |cst (k:G) (e:E)
def Lf.so :Lf->Bb So
 | .g k=>k.so|_=>none
def Lf.na :Lf->Nat
 | .g k=>k.na|_=>0
def Lf.blk (x:Lf)(d:E):Bb B0:=match x with
 | .g k=>k.blk .any d|_=>none
def lvv (num:Nat->Nat)(x:Lf)(e:E)(nb:Nat):SV:=match x with
 | .g k=>tv k .any e nb| .ptr i z=>.ptr (num i) z (.int 0) 0| .nilp=>.nilp| .clo g is=>.fn (.func g) [] (is.map λp=>.ptr (num p.1) p.2 (.int 0) 0)| .cst k e=>tv k .any e nb
def Ei (x:Lf)(es:Au):Au:=match x.so with
 |some _=>tl1 es|none=>es
def Ly (num:Nat->Nat):List Lf->Au->Nat->As
 | [],_,_=>[]
 |x::l,es,nb=>lvv num x (hd1 es) nb::Ly num l (Ei x es) (nb+x.na)
def Y6 :List Lf->Au->Nat->List (Nat×Bb B0)
 | [],_,_=>[]
 |x::l,es,nb=>match x.blk (hd1 es)with
  |some X=>(nb,some X)::Y6 l (Ei x es) (nb+x.na)|none=>Y6 l (Ei x es) (nb+x.na)
def m8 :List Lf->List So
 | []=>[]
 |x::l=>W7 x.so (m8 l)
def H7 :List Lf->Nat
 | []=>0|x::l=>x.na+H7 l
section
variable (P :Aw)(U:Ab)
def MK (x:Lf)(v:SV):M SV:=match x with
 | .g k=>rC P U k v| .cst k _=>rC P U k v|_=>i5 v
def eqS (so:So)(d e:E):Bb E:=match so with
 | .i=>some (E9 d e)| .s=>some (mW d e)| .b=>some (Io d e)| .l=>match e with
  | .op .nil []=>some (E9 (A4 d) (.int 0))|_=>none
def zY :List Lf->As->M (As)
 |x::l,v::vs=>c8 (MK P U x v) λv'=>c8 (zY l vs) λvs'=>i5 (v'::vs')
 | [],[]=>i5 []|_,_=>b9 "contract: places"
def Mm (bl:Ah)(i b:Nat):Bool:=match bl[i]? with
 |some b'=>Nat.beq b b'|none=>false
def mtC (bl:Ah):List (Nat×Nat)->As->Bool
 | [],[]=>true|p::is,.ptr b z (.int m) f::l=>Mm bl p.1 b&&Nat.beq p.2 z&&decide (m=0)&&Nat.beq f 0&&mtC bl is l|_,_=>false
def JR (bl:Ah)(x:Lf)(v:SV):M (Bb E×Ai):=match x with
 | .g k=>mt1 U k .any v| .ptr i z=>match v with
  | .ptr b z' (.int m) f=>bif Mm bl i b&&Nat.beq z z'&&decide (m=0)&&Nat.beq f 0 then i5 (none,none)else b9 "contract: another pointer"|_=>b9 "contract: no pointer"
 | .nilp=>match v with
  | .nilp=>i5 (none,none)|_=>b9 "contract: not nil"
 | .clo g is=>match v with
  | .fn (.func g') [] l=>bif Nat.beq g g'&&mtC bl is l then i5 (none,none)else b9 "contract: another function"|_=>b9 "contract: no function"
 | .cst k e => bif Nat.beq k.na 0 then c8 (mt1 U k .any v) λr => match r.1, k.so with
   |some d,some so=>match eqS so d e with
    |some c=>c8 (l9 U c) λ_=>i5 (none,none)
    |none=>b9 "contract: known"
   |_,_=>b9 "contract: known"
  else b9 "contract: known"
def mtL (bl:Ah):List Lf->As->M (Au×Ah)
 |x::l,v::vs=>c8 (JR U bl x v) λr=>c8 (mtL bl l vs) λt=>i5 (W7 r.1 t.1,W7 r.2 t.2)
 | [],[]=>i5 ([],[])|_,_=>b9 "contract: places"
end
section
variable {P :Aw}{U:Ab}
variable {τ:Tau}{F:Ac}{hp:Hp}
def JV {s:SS}(x:Lf){v:SV}{u:Av}(hv:VD P U τ F v u)(hs:SD P U τ F s hp):OKh P U (MK P U x v) τ F s hp λd τ' F' hp'=>hp'=hp/\VD P U τ' F' d u:=by
 cases x with
 |g k=>exact uU k hv hs|cst k e=>exact uU k hv hs|_=>exact Vk ⟨rfl,hv⟩
theorem gI :∀(ps:List Lf) (vs:As) (xs:Af) (τ:Tau) (F:Ac) (s:SS) (hp:Hp),VDL P U τ F vs xs->SD P U τ F s hp->OKh P U (zY P U ps vs) τ F s hp λe τ' F' hp'=>hp'=hp/\VDL P U τ' F' e xs
 | [],[],xs,τ,F,s,hp,hv,hs=>Vk ⟨rfl,hv⟩| [],v::vs,xs,τ,F,s,hp,hv,hs=>Vi|p::ps,[],xs,τ,F,s,hp,hv,hs=>Vi|p::ps,v::vs,xs,τ,F,s,hp,hv,hs=>by obtain⟨y,ys,rfl,h1,h2⟩:=hv.uncons;refine(JV p h1 hs).bind λm τ1 F1 s1 hp1 ex hs1 ⟨k,g⟩=>(gI ps vs ys τ1 F1 s1 hp1 (h2.mono ex.t ex.f) hs1).bind λe τ2 j s2 hp2 d h ⟨k1,k2⟩=>Vk ⟨by grind,.cons (g.mono d.t d.f) k2⟩
theorem Rg {so:So}{d e c:E}(h:eqS so d e=some c)(hp:c.pr U):nL U so d e:=by unfold eqS at h;split at h;cases h;exact aN hp;cases h;rw[Va,T6]at hp;show(d.den U).toStr=(e.den U).toStr;grind;cases h;rw[Va,zQ]at hp;show(d.den U).toBool=(e.den U).toBool;grind;split at h;cases h;have:=aN hp;rw[i7,B4]at this;show d.toR U=_;have h0:d.toR U=[]:=List.length_eq_zero_iff.1 (by omega);rw[h0];rfl;cases h
variable (P U) in
def LOK (bl:Ah)(τ:Tau)(F:Ac)(s:SS)(x:Lf)(v:SV)(r:Bb E×Ai):Prop:=
 (∀so,x.so=some so-> ∃e,r.1=some e)/\(x.so=none->r.1=none)/\(x.na=0->r.2=none)/\
 (∀u,VD P U τ F v u-> ∀(τ2:Tau) (num:Nat->Nat) (nb:Nat) (d:E),(∀i b,bl[i]? =some b->τ2 (num i)=τ b)->(∀e so,r.1=some e->x.so=some so->nL U so e d)->(∀b,r.2=some b->τ2 nb=τ b)->VD P U τ2 F (lvv num x d nb) u)/\
 (x.na≠0-> ∃so,x.so=some so/\KW P U τ F s so x.blk r)
theorem Ir {bl:Ah}:∀ {is:List (Nat×Nat)} {l:As} {num:Nat->Nat},mtC bl is l=true->(is.map λp=>SV.ptr (num p.1) p.2 (.int 0) 0).length=l.length
 | [],[],num,_=>rfl| [],_::_,num,h=>by simp[mtC]at h|p::is,[],num,h=>by simp[mtC]at h|p::is,a::l,num,h=>by unfold mtC at h;split at h;grind;rename_i e d;cases d;simp at h;have:=Ir (num:=num) h.2;grind;cases h
theorem Iq {bl:Ah}{τ τ2:Tau}{F:Ac}{num:Nat->Nat}:∀ {is:List (Nat×Nat)} {l:As} {ys:Af},mtC bl is l=true->(∀i b,bl[i]? =some b->τ2 (num i)=τ b)->VDL P U τ F l ys-> ∀ {i:Nat} {a:SV} {x:Av},(is.map λp=>SV.ptr (num p.1) p.2 (.int 0) 0)[i]? =some a->ys[i]? =some x->VD P U τ2 F a x
 | [],l,ys,h,hb,hv,i,a,x,d,hx=>by grind|p::is,[],ys,h,hb,hv,i,a,x,d,hx=>by simp[mtC]at h|p::is,b0::l,ys,h,hb,hv,i,a,x,d,hx=>by
  unfold mtC at h;split at h;grind
  .rename_i e g;cases e;cases g;simp at h;obtain⟨⟨⟨⟨h1,h2⟩,h3⟩,h4⟩,j⟩:=h;subst h3;subst h4;obtain⟨y,n,rfl,k1,k2⟩:=hv.uncons;cases i with
   |zero=>
    simp at d hx;subst d;subst hx;unfold Mm at h1;split at h1
    .rename_i b' k;have:=SY h1;subst this;cases k1 with
     |ptr _ _ _ _ m o' h h0=>rw[h2];exact .ptr _ _ (.int 0) 0 m o' (by grind) h0
    grind
   |succ i=>exact Iq j hb k2 d hx
  cases h
theorem Pb {s:SS}(bl:Ah)(x:Lf)(v:SV):OKp U (JR U bl x v) s λr=>∀s',s'.h=s.h->LOK P U bl τ F s' x v r:=by
 cases x with
 |g k=>refine(Gy (P:=P) (τ:=τ) (F:=F) (λ_=>none) k .any v).mono λr h s' q=>?_;obtain⟨h1,h2,h3,h4,B⟩:=h s' q;refine⟨h1,h2,h3,λu j τ2 num nb d _ t hb=>h4 u j τ2 nb d (λb p e=>by grind) ⟨λ_=>none,undef,.any _⟩ t hb,λy=>B.1 y⟩
 |ptr i z=>
  simp only[JR];split
  .rename_i b K m f;cases hc:Mm bl i b&&Nat.beq z K&&decide (m=0)&&Nat.beq f 0 with
   |false=>exact Vl|true=>
    simp at hc;obtain⟨⟨⟨hi,rfl⟩,rfl⟩,rfl⟩:=hc;refine Vq λs' _=>⟨λso h=>(by cases h),λ_=>rfl,λ_=>rfl,λu j τ2 num nb d hb _ _=>?_,λh=>absurd rfl h⟩
    unfold Mm at hi;split at hi
    .rename_i b' D;have:=SY hi;subst this;cases j with
     |ptr _ _ _ _ G o' h h0=>exact .ptr (num i) z (.int 0) 0 G o' (by grind) h0
    grind
  exact Vl
 |clo g is=>
  simp only[JR];split
  .rename_i g' l;cases hc:Nat.beq g g'&&mtC bl is l with
   |false=>exact Vl|true=>
    rw[SR]at hc;have:=SY hc.1;subst this;refine Vq λs' _=>⟨λso h=>(by cases h),λ_=>rfl,λ_=>rfl,λu j τ2 num nb d hb _ _=>?_,λh=>absurd rfl h⟩
    cases j with
    |fn _ _ _ xs ys h1 h2 h3 h4=>exact .fn _ _ _ xs ys h1 (by grind) (by rw[<-h3];exact Ir hc.2) λi a x C hx=>Iq hc.2 hb ⟨h3,h4⟩ C hx
  exact Vl
 |nilp=>
  simp only[JR];split
  .refine Vq λs' _=>⟨λso h=>(by cases h),λ_=>rfl,λ_=>rfl,λu j τ2 num nb d _ _ _=>?_,λh=>absurd rfl h⟩
   cases j;exact .nilp
  exact Vl
 |cst k e=>
  simp only[JR];cases hn:Nat.beq k.na 0 with
  |false=>exact Vl|true=>have hn:=SY hn;rw[Tk];refine(Gy (P:=P) (τ:=τ) (F:=F) (λ_=>none) k .any v).bind λr s1 M _ hr=>?_;split;rename_i d so t A;split;rename_i c hc;refine OKp.need.bind λ_ s2 N E hp=>Vq λs' q=>?_;obtain⟨h1,h2,h3,h4,B⟩:=hr s' q;refine⟨λso h=>(by cases h),λ_=>rfl,λ_=>rfl,λu j τ2 num nb L _ _ _=>h4 u j τ2 nb e (λb p e=>by grind) ⟨λ_=>none,undef,.any _⟩ (λe' J he n=>?_) λb hb=>?_,λh=>absurd rfl h⟩;rw[t]at he;cases he;rw[A]at n;cases n;exact Rg hc hp;grind;exact Vl;exact Vl
variable (P U) in
def jJ (bl:Ah)(τ:Tau)(F:Ac)(s:SS):List Lf->As->Au->Ah->Prop
 | [],[],es,bs=>es=[]/\bs=[]
 |x::l,v::vs,es,bs=>∃r es' bs',es=W7 r.1 es'/\bs=W7 r.2 bs'/\LOK P U bl τ F s x v r/\jJ bl τ F s l vs es' bs'|_,_,_,_=>False
def uO {τ:Tau}{F:Ac}(bl:Ah):∀(ps:List Lf) (vs:As) (s:SS),OKp U (mtL U bl ps vs) s λr=>∀s',s'.h=s.h->jJ P U bl τ F s' ps vs r.1 r.2
 | [],[],s=>Vq λ_ _=>⟨rfl,rfl⟩
 | [],_::_,s=>Vl|_::_,[],s=>Vl|p::ps,v::vs,s=>by exact(Pb (P:=P) (τ:=τ) (F:=F) bl p v).bind λr s1 e _ h1=>(uO (τ:=τ) (F:=F) bl ps vs s1).bind λt s2 g _ h2=>Vq λs' d=>⟨r,t.1,t.2,rfl,rfl,h1 s' d,h2 s' (by rw[d,e.h])⟩
section
variable {bl :Ah}{τ:Tau}{F:Ac}{s:SS}
def Lf.blk_none {x:Lf}(h:x.na=0)(d:E):x.blk d=none:=by
 cases x with
 |g k=>exact G.blk_none h .any d|_=>rfl
theorem DT {x:Lf}{ps:List Lf}{v:SV}{r:Bb E×Ai}{n ds:Au}(h:LOK P U bl τ F s x v r)(m:cT U (m8 (x::ps)) (W7 r.1 n) ds):(∀e so,r.1=some e->x.so=some so->nL U so e (hd1 ds))/\cT U (m8 ps) n (Ei x ds)/\(∀b,r.2=some b->x.na=1)/\(x.na=0\/x.na=1):=by
 obtain⟨m1,q,t,u,y⟩:=h;have p:x.na=0\/x.na=1:=by
  cases x with
  |g k=>exact k.na_le|_=>exact .inl rfl
 refine⟨?_,?_,λb hb=>?_,p⟩
 .intro e so he j;unfold m8 at m;rw[j,he]at m;cases ds with
  |nil=>exact m.elim|cons d ds=>exact m.1
 .unfold m8 at m;cases j:x.so with
  |none=>rw[j,q j]at m;unfold Ei;rw[j];exact m|some so=>
   obtain⟨e,he⟩:=m1 so j;rw[j,he]at m;cases ds with
   |nil=>exact m.elim|cons d ds=>unfold Ei;rw[j];exact m.2
 grind
theorem jJ.vals :∀ {ps:List Lf} {vs:As} {es:Au} {bs:Ah} {ds:Au} {xs:Af} {τ2:Tau} {num:Nat->Nat} {nb:Nat},jJ P U bl τ F s ps vs es bs->cT U (m8 ps) es ds->(∀i b,bl[i]? =some b->τ2 (num i)=τ b)->(∀k b,bs[k]? =some b->τ2 (nb+k)=τ b)->VDL P U τ F vs xs->VDL P U τ2 F (Ly num ps ds nb) xs
 | [], [], es, bs, ds, xs, τ2, num, nb, h,  e, hk, hb, hx => by have:=SZ hx.1.symm;subst this;exact VM| [],_::_,es,bs,ds,xs,τ2,num,nb,h,e,hk,hb,hx=>h.elim|x::ps,[],es,bs,ds,xs,τ2,num,nb,h,e,hk,hb,hx=>h.elim|x::ps,v::vs,es,bs,ds,xs,τ2,num,nb,h,e,hk,hb,hx=>by obtain⟨r,m,j,rfl,rfl,hm,g⟩:=h;obtain⟨y,ys,rfl,h1,h2⟩:=hx.uncons;obtain⟨s1,s2,p,n⟩:=DT hm e;refine .cons (hm.2.2.2.1 y h1 τ2 num nb (hd1 ds) hk s1 λb hr=>?_) (jJ.vals g s2 hk (λk b d=>?_) h2);have:=hb 0 b (by rw[hr];rfl);grind;rcases n with h0|h0;rw[h0,Uj];have hr:=hm.2.2.1 h0;rw[hr]at hb;exact hb k b d;obtain⟨so,_,b',L,x',hr,_⟩:=hm.2.2.2.2 (by omega);rw[hr]at hb;have:=hb (k+1) b d;grind
theorem jJ.blks :∀ {ps:List Lf} {vs:As} {es:Au} {bs:Ah} {ds:Au} {nb:Nat},jJ P U bl τ F s ps vs es bs->cT U (m8 ps) es ds-> ∀b' y,lk (Y6 ps ds nb) b'=some y-> ∃k b X x',b'=nb+k/\bs[k]? =some b/\y=some X/\s.get b=some x'/\(∀(τ2:Tau) o z,BD P U τ F o x' z->BD P U τ2 F o X z)/\(E6 P U x'->E6 P U X)
 | [],vs,es,bs,ds,nb,h,j=>λb' y hy=>by simp[Y6,lk]at hy
 |x::ps,[],es,bs,ds,nb,h,j=>h.elim|x::ps,v::vs,es,bs,ds,nb,h,j=>by
  obtain⟨r,C,A,rfl,rfl,hm,m⟩:=h;obtain⟨s1,s2,K,G⟩:=DT hm j;intro b' y hy;have t:=jJ.blks (nb:=nb+x.na) m s2;by_cases e:x.na=0
  .have hr:=hm.2.2.1 e;have d:lk (Y6 ps (Ei x ds) (nb+x.na)) b'=some y:=by unfold Y6 at hy;rwa[Lf.blk_none e]at hy
   obtain⟨k,b,X,x',h1,h2⟩:=t b' y d;exact⟨k,b,X,x',by omega,by rw[hr];exact h2⟩
  .have D:=G.resolve_left e;obtain⟨so,p,b0,L,x',hr,n,hx,g⟩:=hm.2.2.2.2 e;obtain⟨u,J,k1,k2⟩:=g (hd1 ds) (s1 L so n p);have d:lk ((nb,some u)::Y6 ps (Ei x ds) (nb+x.na)) b'=some y:=by unfold Y6 at hy;grind
   rw[z6]at d;split at d;rename_i B;simp at d;exact⟨0,b0,_,x',B.symm,by rw[hr];rfl,d.symm,hx,k1,k2⟩;obtain⟨k,b,X,q,h1,h2,h3⟩:=t b' y d;exact⟨k+1,b,X,q,by omega,by rw[hr];exact h2,h3⟩
theorem jJ.live :∀ {ps:List Lf} {vs:As} {es:Au} {bs:Ah},jJ P U bl τ F s ps vs es bs-> ∀ {k b:Nat},bs[k]? =some b-> ∃x,s.get b=some x
 | [],[],es,bs,h,k,b,hb=>by rw[h.2]at hb;simp at hb| [],_::_,es,bs,h,k,b,hb=>h.elim|p::ps,[],es,bs,h,k,b,hb=>h.elim|p::ps,v::vs,es,bs,h,k,b,hb=>by
  obtain⟨r,j,g,rfl,rfl,hm,d⟩:=h;cases hr:r.2 with
  |none=>rw[hr]at hb;exact d.live hb|some b0=>
   rw[hr]at hb;cases k with
   |succ k=>exact d.live hb|zero=>
    have e:p.na≠0:=λh0=>by rw[hm.2.2.1 h0]at hr;cases hr
    obtain⟨so,_,m,L,x',h1,_,hx,_⟩:=hm.2.2.2.2 e;rw[hr]at h1;have e0:b0=b:=by simpa [W7]using hb
    grind
def jJ.len :∀ {ps:List Lf} {vs:As} {es:Au} {bs:Ah},jJ P U bl τ F s ps vs es bs->es.length=(m8 ps).length
 | [],[],es,bs,h=>by rw[h.1];rfl| [],_::_,es,bs,h=>h.elim|p::ps,[],es,bs,h=>h.elim|p::ps,v::vs,es,bs,h=>by
  obtain⟨r,m,k,rfl,rfl,hm,g⟩:=h;have j:=g.len;unfold m8;cases d:p.so with
  |none=>rw[hm.2.1 d];exact j|some so=>obtain⟨e,he⟩:=hm.1 so d;rw[he];simp only[W7,TM,j]
end
inductive Vs where
 |one (l:Lf)
 |agg (ls:List Lf)
def Vs.lfs :Vs->List Lf
 | .one l=>[l]
 | .agg ls=>ls
def Vs.fl :Vs->SV->Bb (As)
 | .one _,v=>some [v]| .agg ls,.agg l=>bif Nat.beq l.length ls.length then some l else none|_,_=>none
def hdV :As->SV
 | []=>.any|v::_=>v
def Vs.mk :Vs->As->SV
 | .one _,l=>hdV l| .agg _,l=>.agg l
def mN :List Vs->As->Bb (As)
 | [],[]=>some []|a::r,v::vs=>match a.fl v with
  |some l=>match mN r vs with
   |some m=>some (l++m)|none=>none
  |none=>none
 |_,_=>none
def E8 :List Vs->List Lf
 | []=>[]
 |a::r=>a.lfs++E8 r
def DX :List Vs->As->As
 | [],_=>[]
 |a::r,fl=>a.mk (fl.take a.lfs.length)::DX r (fl.drop a.lfs.length)
theorem VDL.split {d:As}{xs ys:Af}(h:VDL P U τ F d (xs++ys)):VDL P U τ F (d.take xs.length) xs/\VDL P U τ F (d.drop xs.length) ys:=by
 induction xs generalizing d with
 |nil=>exact⟨by simpa using VM,by grind⟩|cons x xs g=>
  cases d with
  |nil=>have:=h.1;simp at this|cons a d=>obtain⟨y,j,e,h1,h2⟩:=h.uncons;cases e;obtain⟨k1,k2⟩:=g h2;exact⟨.cons h1 k1,k2⟩
variable {l:As}
theorem Vs.fl_ok {a:Vs}{v:SV}{x:Av}(h:a.fl v=some l)(hv:VD P U τ F v x):∃xs,VDL P U τ F l xs/\xs.length=a.lfs.length/\ ∀(τ2:Tau) g d,VDL P U τ2 g d xs->VD P U τ2 g (a.mk d) x:=by
 cases a with
 |one k=>
  simp only[Vs.fl,SQ]at h;subst h;refine⟨[x],.cons hv .nil,rfl,λτ2 g d hg=>?_⟩;cases d with
  |nil=>have:=hg.1;simp at this|cons b d=>obtain⟨y,ys,e,h1,_⟩:=hg.uncons;cases e;exact h1
 |agg ls=>
  unfold Vs.fl at h;split at h;grind
  .rename_i j m hh;cases hh;cases hc:Nat.beq m.length ls.length with
   |false=>grind|true=>
    rw[hc,Tk,SQ]at h;subst h;cases hv with
    |agg _ xs h1 h2=>exact⟨xs,⟨h1,h2⟩,by rw[<-h1];exact SY hc,λτ2 g d hg=>.agg d xs hg.1 hg.2⟩
  cases h
def mO {τ:Tau}{F:Ac}:∀ {as:List Vs} {vs fl:As} {args:Af},mN as vs=some fl->VDL P U τ F vs args-> ∃g,VDL P U τ F fl g/\g.length=(E8 as).length/\ ∀(τ2:Tau) e j rest,VDL P U τ2 e j g->VDL P U τ2 e (DX as (j++rest)) args
 | [],[],fl,args,h,hv=>by simp only[mN,SQ]at h;subst h;have:=SZ hv.1.symm;subst this;exact⟨[],.nil,rfl,λ_ _ _ _ _=>.nil⟩| [],_::_,fl,args,h,hv=>by simp[mN]at h|_::_,[],fl,args,h,hv=>by simp[mN]at h|a::r,v::vs,fl,args,h,hv=>by
  unfold mN at h;split at h
  .rename_i l hl;split at h
   .rename_i m hm;cases h;obtain⟨y,ys,rfl,h1,h2⟩:=hv.uncons;obtain⟨xs,k1,k2,k3⟩:=Vs.fl_ok hl h1;obtain⟨g,p,q,t⟩:=mO hm h2;refine⟨xs++g,k1.append p,by simp[E8,k2,q],λτ2 e j rest hg=>?_⟩;obtain⟨k,n⟩:=hg.split;have d:xs.length<=j.length:=by rw[hg.1];simp
    unfold DX;rw[<-k2,List.take_append_of_le_length d,List.drop_append_of_le_length d];exact .cons (k3 τ2 e _ k) (t τ2 e _ rest n)
   cases h
  cases h
def Kj :List Vs->SV->Bb (As)
 | [_],a=>some [a]|_,.tup l=>some l|_,_=>none
def AB :List Vs->As->SV
 | [_],l=>hdV l|_,l=>.tup l
theorem IF {res:List Vs}{a:SV}{v:Av}(h:Kj res a=some l)(hv:VD P U τ F a v):∃xs,VDL P U τ F l xs/\ ∀(τ2:Tau) d j,VDL P U τ2 d j xs->VD P U τ2 d (AB res j) v:=by
 unfold Kj at h;split at h
 .simp at h;subst h;refine⟨[v],.cons hv .nil,λτ2 d g hg=>?_⟩;cases g with
  |nil=>have:=hg.1;simp at this|cons b g=>obtain⟨y,ys,e,h1,_⟩:=hg.uncons;cases e;exact h1
 .rename_i r m k;cases h;cases hv with
  |tup _ xs h1 h2=>refine⟨xs,⟨h1,h2⟩,λτ2 d g hg=>?_⟩;unfold AB;split;grind;exact .tup g xs hg.1 hg.2
 cases h
abbrev Z9:=Ax ×Nat×List Lf
def JJ :List Z9->List Lf
 | []=>[]
 |a::r=>a.2.2++JJ r
def oN (s:SS):List Z9->Ah->Bb (As)
 | [],[]=>some []|a::r,b::bs=>match s.get b with
  | some (.cells l e' z') => bif !(Nat.beq a.1 rgT) && Nat.beq a.1 e' && Nat.beq a.2.1 z' && Nat.beq l.length a.2.2.length then
    match oN s r bs with
    |some m=>some (l++m)|none=>none
   else none
  | some (.reg q L z) => bif Nat.beq q b && Nat.beq a.1 rgT && Nat.beq a.2.1 z && Nat.beq a.2.2.length 1 then
    match oN s r bs with
    |some m=>some (.rv L z::m)|none=>none
   else none
  |_=>none
 |_,_=>none
def mkB1 (n:Nat)(a:Z9)(fl:As):Bb B0:=bif Nat.beq a.1 rgT then match fl with
  | .rv L z::_=>bif Nat.beq z a.2.1&&Nat.ble 1 z then some (.reg n L z)else none|_=>none
 else some (.cells (fl.take a.2.2.length) a.1 a.2.1)
def rS (num:Nat->Nat):Nat->List Z9->As->List (Nat×Bb B0)
 |_,[],_=>[]
 |i,a::r,fl=>(num i,mkB1 (num i) a fl)::rS num (i+1) r (fl.drop a.2.2.length)
def BX (τ:Tau)(hp:Hp):List Z9->Ah->Af->Prop
 | [],[],fx=>fx=[]
 | a :: r, b :: bs, fx => ∃ xs ys, fx = xs ++ ys ∧ xs.length = a.2.2.length ∧ (a.1 ≠ rgT ∧ (∃ i o cs n, τ b = some (some (i, o)) ∧ hp.m.get i = some (.cells cs n a.1 a.2.1) ∧ o + xs.length ≤ n ∧ ∀ (j : Nat) x, xs[j]? = some x → cs.get (o + j) = some x) ∨
   a.1=rgT/\τ b=some (some (0,0))/\ ∃(cs:Ao) (n:Nat) (vs:Af),hp.m.get 0=some (.reg cs n rgT a.2.1)/\xs=[.func (.func 0) vs.toArray #[]]/\vs.length=n*a.2.1/\ ∀(j:Nat) x,vs[j]? =some x->cs.get j=some x)/\BX τ hp r bs ys
 |_,_,_=>False
def BX.mono {τ':Tau}(ht:Tle τ τ'):∀ {r:List Z9} {bs:Ah} {d:Af},BX τ hp r bs d->BX τ' hp r bs d
 | [],[],d,h=>h| [],_::_,d,h=>h.elim|_::_,[],d,h=>h.elim|a::r,b::bs,d,h=>by obtain⟨xs,ys,h1,h2,⟨h0,i,o,cs,n,h3,h4⟩| ⟨h0,h3,h4⟩,e⟩:=h;exact⟨xs,ys,h1,h2,.inl ⟨h0,i,o,cs,n,ht _ _ h3,h4⟩,e.mono ht⟩;exact⟨xs,ys,h1,h2,.inr ⟨h0,ht _ _ h3,h4⟩,e.mono ht⟩
theorem BX.len :∀ {r:List Z9} {bs:Ah} {d:Af},BX τ hp r bs d->bs.length=r.length/\d.length=(JJ r).length
 | [],[],d,h=>by subst h;exact⟨rfl,rfl⟩| [],_::_,d,h=>h.elim|_::_,[],d,h=>h.elim|a::r,b::bs,d,h=>by obtain⟨xs,ys,rfl,h2,_,e⟩:=h;obtain⟨k1,k2⟩:=e.len;exact⟨by grind,by simp[JJ,h2,k2]⟩
theorem mJ {τ:Tau}{F:Ac}{s:SS}{hp:Hp}(hs:SD P U τ F s hp):∀ {r:List Z9} {bs:Ah} {fl:As},oN s r bs=some fl-> ∃t,VDL P U τ F fl t/\BX τ hp r bs t
 | [],[],fl,h=>by simp only[oN,SQ]at h;subst h;exact⟨[],.nil,rfl⟩| [],_::_,fl,h=>by simp[oN]at h|_::_,[],fl,h=>by simp[oN]at h|a::r,b::bs,fl,h=>by
  unfold oN at h;split at h
  .rename_i l e' W hb;cases hc: !(Nat.beq a.1 rgT)&&Nat.beq a.1 e'&&Nat.beq a.2.1 W&&Nat.beq l.length a.2.2.length with
   |false=>grind|true=>
    rw [hc, Tk] at h;simp only [SR,TJ,TP] at hc;obtain ⟨⟨⟨g,rfl⟩,rfl⟩,B⟩:=hc;have g : a.1 ≠ rgT:=λe=>by rw [e,u7 rfl] at g; cases g
    split at h
    .rename_i m hm;cases h;obtain⟨t,T,V⟩:=mJ hs hm;rcases hs.live b _ hb with⟨i,o,y,h1,h2,h3,cs,n,rfl,h4,h5⟩| ⟨_,L,e',W,ph,h2,_⟩
     .have u:∀j,∃x,∀p,l[j]? =some p->cs.get (o+j)=some x/\VD P U τ F p x:=by
       intro j;cases hj:l[j]? with
       |none=>exact⟨undef,λp e=>by cases e⟩|some p=>simp_all
      obtain⟨ch,J⟩:=Classical.axiomOfChoice u;let xs:=(List.range l.length).map ch
      have A:xs.length=l.length:=by simp[xs]
      have O:∀(j:Nat) x,xs[j]? =some x-> ∃p,l[j]? =some p/\x=ch j:=by
       intro j x hx;have hj:j<l.length:=by grind
       refine⟨l[j],Tf hj,?_⟩;grind
      have hv:VDL P U τ F l xs:=⟨A.symm,λj p x Z hx=>by obtain⟨_,_,rfl⟩:=O j x hx;exact(J j p Z).2⟩
      refine⟨xs++t,hv.append T,xs,t,rfl,by rw[A];exact B,.inl ⟨g,i,o,cs,n,h1,h2,by rw[A];exact h4,λj x hx=>?_⟩,V⟩;grind
     cases h2
    cases h
  .rename_i q L z hb;cases hc:Nat.beq q b&&Nat.beq a.1 rgT&&Nat.beq a.2.1 z&&Nat.beq a.2.2.length 1 with
   |false=>grind|true=>
    rw[hc,Tk]at h;simp only[SR,TJ]at hc;obtain⟨⟨⟨rfl,h1⟩,h2⟩,h3⟩:=hc;split at h
    .rename_i m hm;cases h;obtain⟨t,T,V⟩:=mJ hs hm;rcases hs.live q _ hb with⟨i,o,y,k1,k2,k3,k4,X,cs,k6,k7,k8,Y,E⟩| ⟨_,L,e',W,ph,h2,_⟩
     .rw[X]at k1;cases k1;subst k6;let N:=(L.toR U).length*z
      let vs:=(List.range N).map λj=>(cs.get j).getD undef
      have D:vs.length=N:=by simp[vs]
      have ab:∀(j:Nat),j<N->vs[j]? =some ((cs.get j).getD undef):=λj hj=>by simp only[vs,TU,List.getElem?_range hj,TO]
      have R:∀j,j<N-> ∃x,cs.get j=some x:=by
       intro j hj;have hz:0<z:=by grind
       have hr:j/z<(L.toR U).length:=(Nat.div_lt_iff_lt_mul hz).2 hj;have C:(L.toR U)[j/z]? =some (L.toR U)[j/z]:=by simp[hr]
       have hl:=Y _ (List.getElem_mem hr);have hk:j % z<z:=Nat.mod_lt _ hz;obtain⟨x,G,_⟩:=E _ _ _ _ C (Tf (by rw[hl];exact hk));exact⟨x,by rw[<-G];congr 1;rw[TA,Nat.mul_comm];exact(Nat.div_add_mod j z).symm⟩
      have K:RowsIn P F z vs (L.toR U):=by
       refine⟨D,k8,Y,λr k row d hr hk=>?_⟩;obtain⟨x,G,e2⟩:=E r k row d hr hk;rw[TA]at G;have M:=(SW.1 hr).1;have aa:k<z:=by grind
       have:=Tg z (show r+1<=(L.toR U).length from M);grind
      refine⟨.func (.func 0) vs.toArray #[]::t,.cons (.rv L z vs K) T,[_],t,rfl,h3.symm,.inr ⟨h1,X,cs,_,vs,by rw[h2];exact k2,rfl,by rw[h2];exact D,λj x hx=>?_⟩,V⟩;grind
     cases h2
    cases h
  cases h
theorem BN {τ τ2:Tau}{F:Ac}{hp:Hp}{num:Nat->Nat}{rest:As}:∀ {r:List Z9} {bs:Ah} {B:Af} {p:As} {i0:Nat},BX τ hp r bs B->VDL P U τ2 F p B->(∀j b,bs[j]? =some b->τ2 (num (i0+j))=τ b)-> ∀ {b:Nat} {X:B0},lk (rS num i0 r (p++rest)) b=some (some X)-> ∃j D i o Y,b=num (i0+j)/\bs[j]? =some D/\ ¬E6 P U X/\τ D=some (some (i,o))/\hp.m.get i=some Y/\BD P U τ2 F o X Y
 | [],[],B,p,i0,h,hv,hn,b,y,hy=>by simp[rS,lk]at hy| [],_::_,B,p,i0,h,hv,hn,b,y,hy=>h.elim|_::_,[],B,p,i0,h,hv,hn,b,y,hy=>h.elim|a::r,b0::bs,B,p,i0,h,hv,hn,b,y,hy=>by
  obtain⟨xs,ys,rfl,h2,t,W⟩:=h;obtain⟨G,R⟩:=hv.split;have q:xs.length<=p.length:=by rw[hv.1];simp
  unfold rS at hy;rw[<-h2,List.drop_append_of_le_length q,z6]at hy;split at hy
  .rename_i e;simp only[SQ]at hy;rcases t with⟨h0,i,o,cs,n,h3,h4,J,V⟩| ⟨h0,h3,cs,n,vs,h4,rfl,J,V⟩;unfold mkB1 at hy;rw[z4 h0,Tl,<-h2,List.take_append_of_le_length q,SQ]at hy;subst hy;refine⟨0,b0,i,o,_,e.symm,rfl,?_,h3,h4,?_⟩;rintro ⟨L,e',z',ph,hh,_⟩;cases hh;refine⟨cs,n,rfl,by rw[G.1];exact J,λj a' Z=>?_⟩;obtain⟨x,hx,aa⟩:=G.get Z;grind
   .have hh:=G;cases p with
    |nil=>grind|cons g T=>
     obtain⟨_,_,E,hg,_⟩:=hv.uncons;cases E;unfold mkB1 at hy;rw[h0,u7 rfl,Tk]at hy;split at hy
     .rename_i L z _ K;cases K;cases hc:Nat.beq z a.2.1&&Nat.ble 1 z with
      |false=>grind|true=>
       rw[hc,Tk,SQ]at hy;subst hy;simp only[SR,TJ,TY]at hc;obtain⟨hz,M⟩:=hc;refine⟨0,b0,0,0,_,e.symm,rfl,?_,h3,h4,rfl,(hn 0 b0 rfl).trans h3,cs,?_,?_⟩;rintro ⟨L',e',z',ph,hh,_⟩;cases hh
       .generalize u:Value.func (.func 0) vs.toArray #[]=fv at hg;cases hg with
        |rv _ _ xs A=>
         injection u with _ C _;have C:vs=xs:=by grind
         subst C;have:=A.1;rw[J,<-hz]at this;rw[Nat.eq_of_mul_eq_mul_right M this,hz]
       .generalize u:Value.func (.func 0) vs.toArray #[]=fv at hg;cases hg with
        |rv _ _ xs A=>
         injection u with _ C _;have C:vs=xs:=by grind
         subst C;obtain⟨k1,k2,k3,k4⟩:=A;refine⟨by omega,k2,k3,λr k row d hr hk=>?_⟩;grind
     cases hy
  obtain⟨j,D,i',o',Y,E,N,O⟩:=BN W R (λj b hb=>by have:=hn (j+1) b hb;rw[show i0+1+j=i0+(j+1) by omega];exact this) hy;exact⟨j+1,D,i',o',Y,by rw[E];congr 1;omega,N,O⟩
theorem uL {num:Nat->Nat}:∀ {r:List Z9} {fl:As} {i0 j:Nat},j<r.length->num (i0+j)∈(rS num i0 r fl).map Prod.fst
 | [],fl,i0,j,h=>by grind|a::r,fl,i0,0,h=>by simp[rS]|a::r,fl,i0,j+1,h=>by simp only[rS,TV,TH];have:=uL (num:=num) (fl:=fl.drop a.2.2.length) (i0:=i0+1) (by simpa using h);grind
end
structure Con where
 name:String
 args:List Vs
 blks:List Z9
 find:As->SS->Bb (Ah)
 pre:Ar->Prop
 res:List Vs
 post:List Z9
 find':SV->SS->Bb (Ah)
 rel:Ar->Ar->Prop
def Con.inL (c:Con):List Lf:=E8 c.args++JJ c.blks
def Con.outL (c:Con):List Lf:=E8 c.res++JJ c.post
def X9 :Nat->Nat->Ah
 |_,0=>[]
 |i,n+1=>i::X9 (i+1) n
def D7 :∀(n i:Nat),(X9 i n).length=n
 |0,_=>rfl|n+1,i=>by simp[X9,D7 n]
theorem gJ :∀(n i k:Nat),(X9 i n)[k]? =if k<n then some (i+k)else none
 |0,i,k=>rfl|n+1,i,0=>rfl|n+1,i,k+1=>by simp only[X9,Te,gJ n (i+1) k];grind
def idN :Nat->Nat:=λi=>i
def mS (c:Con)(es:Au):As:=Ly idN c.inL es c.blks.length
def fB (c:Con)(es:Au):As:=DX c.args (mS c es)
def gst (c:Con)(es:Au)(fv:Nat):SS:=⟨rS idN 0 c.blks ((mS c es).drop (E8 c.args).length)++Y6 c.inL es c.blks.length,c.blks.length+H7 c.inL,[],fv,[]⟩
def rX (τ:Tau)(ns:Ah):Tau:=λb=>match ns[b]? with
 |some b'=>τ b'|none=>none
def jN (c:Con)(bl:Ah)(n:Nat)(i:Nat):Nat:=bif Nat.ble (i+1) c.blks.length then bl.getD i 0 else n+(i-c.blks.length)
def mR (c:Con)(es:Au)(s:SS)(bl:Ah):As:=Ly (jN c bl s.nx) c.outL es (s.nx+(c.post.length-c.blks.length))
def fst_ (c:Con)(es:Au)(s:SS)(bl kill:Ah):SS:=
 ⟨rS (jN c bl s.nx) 0 c.post ((mR c es s bl).drop (E8 c.res).length)++(Y6 c.outL es (s.nx+(c.post.length-c.blks.length))++(fC (kill++(bl++ [s.nx]))++s.h)),s.nx+(c.post.length-c.blks.length)+H7 c.outL,s.fc,s.fv+(m8 c.outL).length,s.fz⟩
def uD (s:SS)(b:Nat):Bool:=(s.get b).isSome
section
variable (P :Aw)(U:Ab)
def cfin (c:Con)(es:Au)(a:SV):M Unit:=v8 λs=>match Kj c.res a with
 |none=>b9 "contract: result"|some l=>match mN c.res l with
  |none=>b9 "contract: results"|some fl1=>match c.find' a s with
   |none=>b9 "contract: new blocks"|some nw=>match oN s c.post (X9 0 c.blks.length++nw)with
    |none=>b9 "contract: blocks behind"|some fl2=>c8 (zY P U c.outL (fl1++fl2)) λvs=>c8 (mtL U (X9 0 c.blks.length++nw) c.outL vs) λt=>v8 λs2=>
     bif (X9 0 c.blks.length++nw).all (uD s2)&&cD (nw++t.2)&&nw.all (Nat.ble (c.blks.length+H7 c.inL))&&t.2.all (Nat.ble c.blks.length)&&Nat.beq t.2.length (H7 c.outL)&&Nat.beq (nw.length+c.blks.length) c.post.length then
      λ_=>.need (.pt (c.name++ "Rel") [(m8 c.inL).zip es,(m8 c.outL).zip t.1]) (c.rel (u5 U (m8 c.inL) es) (u5 U (m8 c.outL) t.1)) .done
     else b9 "contract: the end"
def cvc (c:Con)(run:As->M SV):Tr (Unit×SS):=
 Dk (m8 c.inL) 0 λes=>.asm (.pt (c.name++ "Pre") [(m8 c.inL).zip es]) (c.pre (u5 U (m8 c.inL) es)) ((c8 (run (fB c es)) (cfin P U c es)) (gst c es (m8 c.inL).length))
def Gj (c:Con)(args:As):M SV:=v8 λs0=>match mN c.args args with
 |none=>b9 "contract: arguments"|some fl1=>match c.find args s0 with
  |none=>b9 "contract: no blocks"|some bl=>match oN s0 c.blks bl with
   |none=>b9 "contract: blocks"|some fl2=>c8 (zY P U c.inL (fl1++fl2)) λvs=>c8 (mtL U bl c.inL vs) λt=>v8 λs1=>
    bif bl.all (uD s1)&&cD (bl++t.2)&&Nat.beq t.2.length (H7 c.inL)&&Nat.ble c.blks.length c.post.length then
     λ_=>.need (.pt (c.name++ "Pre") [(m8 c.inL).zip t.1]) (c.pre (u5 U (m8 c.inL) t.1)) (Dk (m8 c.outL) s1.fv λds=>.asm (.pt (c.name++ "Rel") [(m8 c.inL).zip t.1,(m8 c.outL).zip ds]) (c.rel (u5 U (m8 c.inL) t.1) (u5 U (m8 c.outL) ds))
      (.ret (AB c.res (DX c.res (mR c ds s1 bl)),fst_ c ds s1 bl t.2)))
    else b9 "contract: the start"
end
section
variable {P :Aw}{U:Ab}{ov:Aa}
def oY {s:SS}{b:Nat}(h:uD s b=true):∃x,s.get b=some x:=Option.isSome_iff_exists.1 h
def P3 {τ:Tau}{d:Ah}{b b':Nat}(h:d[b]? =some b'):rX τ d b=τ b':=by unfold rX;rw[h]
variable {c:Con}
theorem Mg {τ:Tau}{F:Ac}{s:SS}{hp:Hp}{vs:As}{u A:Af}{bl d:Ah}{es ds:Au}{fv:Nat}(hs:SD P U τ F s hp)(hv:VDL P U τ F vs (u++A))(h1:u.length=(E8 c.args).length)(hb:BX τ hp c.blks bl A)(hm:jJ P U bl τ F s c.inL vs es d)(hd:cD (bl++d)=true)(p:∀b∈bl,∃x,s.get b=some x)(hn:d.length=H7 c.inL)(J:cT U (m8 c.inL) es ds):SD P U (rX τ (bl++d)) F (gst c ds fv) hp/\VDL P U (rX τ (bl++d)) F (mS c ds) (u++A)/\ ∀b x,(gst c ds fv).get b=some x-> ∃b' x',(bl++d)[b]? =some b'/\s.get b'=some x':=by
 have aa:bl.length=c.blks.length:=hb.len.1;have T:∀i b,bl[i]? =some b->(bl++d)[i]? =some b:=λi b h=>by rw[Tc (SW.1 h).1];exact h
 have V:∀k b,d[k]? =some b->(bl++d)[c.blks.length+k]? =some b:=λk b h=>by grind
 have r:VDL P U (rX τ (bl++d)) F (mS c ds) (u++A):=hm.vals J (λi b h=>P3 (T i b h)) (λk b h=>P3 (V k b h)) hv;obtain⟨_,Z⟩:=r.split;rw[h1]at Z;have X:=hm.blks (nb:=c.blks.length) J;have C:∀b x,(gst c ds fv).get b=some x->
   (∃b' i o Y,bl[b]? =some b'/\ ¬E6 P U x/\τ b'=some (some (i,o))/\hp.m.get i=some Y/\BD P U (rX τ (bl++d)) F o x Y)\/
   (∃k b' x',b=c.blks.length+k/\d[k]? =some b'/\s.get b'=some x'/\(∀(τ2:Tau) o z,BD P U τ F o x' z->BD P U τ2 F o x z)/\(E6 P U x'->E6 P U x)):=by
  intro b x g;have n:(match lk (rS idN 0 c.blks ((mS c ds).drop (E8 c.args).length)++Y6 c.inL ds c.blks.length) b with|some x=>x|none=>none)=some x:=g;rw[K2]at n;cases N:lk (rS idN 0 c.blks ((mS c ds).drop (E8 c.args).length)) b with
  |some y=>
   rw[N]at n;simp only at n;subst n;rw[<-UF ((mS c ds).drop (E8 c.args).length)]at N;obtain⟨j,bj,i,o,Y,t,B,L,M,e6,e7⟩:=BN hb Z (λj b hj=>by rw[TA];exact P3 (T j b hj)) N;have:b=j:=by rw[t];show 0+j=j;omega
   grind
  |none=>grind
 have src:∀b x,(gst c ds fv).get b=some x-> ∃b' x',(bl++d)[b]? =some b'/\s.get b'=some x':=by intro b x g;rcases C b x g with⟨b',i,o,Y,t,_⟩| ⟨k,b',x',rfl,B,D,_⟩;obtain⟨x',K⟩:=p b' (Td t);grind;grind
 refine⟨⟨λb x g=>?_,λb W x y i o j q g O R t B=>?_,hs.frz,λb i o h=>?_,hs.flt,λb G=>?_,(λ_ _ h=>by cases h),λ_ h=>by cases h⟩,r,src⟩;rcases C b x g with⟨b',i,o,Y,t,B,D,L,M⟩| ⟨k,b',x',rfl,B,D,L,M⟩;obtain⟨x',K⟩:=p b' (Td t);rcases hs.live b' x' K with⟨i',o',y',k1,_,k3,_⟩| ⟨k1,_⟩;rw[D]at k1;cases k1;exact .inl ⟨i,o,Y,by rw[P3 (T b b' t)];exact D,L,k3,M⟩;grind;rcases hs.live b' x' D with⟨i,o,y,k1,k2,k3,k4⟩| ⟨k1,k2⟩;exact .inl ⟨i,o,y,by rw[P3 (V k b' B)];exact k1,k2,k3,L _ o y k4⟩;exact .inr ⟨by rw[P3 (V k b' B)];exact k1,M k2⟩;obtain⟨b',x',k1,k2⟩:=src b x g;obtain⟨c',y',k3,k4⟩:=src W y O;rw[P3 k1]at t;rw[P3 k3]at B;refine hs.inj b' c' x' y' i o j q k2 k4 (λe=>?_) t B;subst e;exact R (cE hd b W b' k1 k3);unfold rX at h;split at h;exact hs.lt _ i o h;cases h;have G:c.blks.length+H7 c.inL<=b:=G;unfold rX;grind
variable (P U) in
def RX (c:Con)(X:Af->Hp->Av->Hp->Prop)(es:Au)(τ:Tau)(F:Ac)(hp:Hp)(xs:Af):Prop:=
 ∃v τ' F' s' hp' vs fx1 fx2 es' nw accs,X xs hp v hp'/\Ext τ F (gst c (F7 U (m8 c.inL) 0 es) (m8 c.inL).length) hp τ' F' s' hp'/\SD P U τ' F' s' hp'/\VDL P U τ' F' vs (fx1++fx2)/\fx1.length=(E8 c.res).length/\
  (∀(τ2:Tau) F2 gl rest,VDL P U τ2 F2 gl fx1->VD P U τ2 F2 (AB c.res (DX c.res (gl++rest))) v)/\BX τ' hp' c.post (X9 0 c.blks.length++nw) fx2/\jJ P U (X9 0 c.blks.length++nw) τ' F' s' c.outL vs es' accs/\
  (∀b∈X9 0 c.blks.length++nw,∃x,s'.get b=some x)/\cD (nw++accs)=true/\(∀b∈nw,c.blks.length+H7 c.inL<=b)/\(∀b∈accs,c.blks.length<=b)/\accs.length=H7 c.outL/\nw.length+c.blks.length=c.post.length/\
  c.rel (u5 U (m8 c.inL) es) (u5 U (m8 c.outL) es')
variable (P U) in
def QH (c:Con)(Pm:Af->Prop)(X:Af->Hp->Av->Hp->Prop):Prop:=∀(es:Au),es.length=(m8 c.inL).length->c.pre (u5 U (m8 c.inL) es)-> ∀τ F hp xs,SD P U τ F (gst c (F7 U (m8 c.inL) 0 es) (m8 c.inL).length) hp->VDL P U τ F (fB c (F7 U (m8 c.inL) 0 es)) xs->Pm xs->RX P U c X es τ F hp xs
variable (P U ov) in
def j2 (c:Con)(g:Ay):Prop:=∀(es:Au),es.length=(m8 c.inL).length->c.pre (u5 U (m8 c.inL) es)-> ∀τ F hp xs,SD P U τ F (gst c (F7 U (m8 c.inL) 0 es) (m8 c.inL).length) hp->VDL P U τ F (fB c (F7 U (m8 c.inL) 0 es)) xs->RX P U c (V6 P ov g) es τ F hp xs
def Kk {run:As->M SV}{Pm:Af->Prop}{X:Af->Hp->Av->Hp->Prop}(u:∀es τ F hp xs,VDL P U τ F (fB c es) xs->Pm xs->SD P U τ F (gst c es (m8 c.inL).length) hp->OKh P U (run (fB c es)) τ F (gst c es (m8 c.inL).length) hp λa τ' F' hp'=>∃v,X xs hp v hp'/\VD P U τ' F' a v)(aa:(cvc P U c run).vc U λ_=>True):QH P U c Pm X:=by
 intro es e r τ F hp xs hs hx W;unfold RX;have hq:=iG _ _ _ aa es e;have hq:=hq (by rw[J2 _ _ _ e];exact r);generalize hds:F7 U (m8 c.inL) 0 es=ds at*;rw[A5]at hq;obtain⟨a,s1,hq,τ1,F1,hp1,D,hs1,v,j,Z⟩:=u _ τ F hp xs hx W hs _ hq hs;simp only[cfin,v8]at hq;cases z:Kj c.res a with
 |none=>rw[z]at hq;exact hq.elim|some l=>
 rw[z]at hq;simp only at hq;cases A:mN c.res l with
 |none=>rw[A]at hq;exact hq.elim|some E=>
 rw[A]at hq;cases c3:c.find' a s1 with
 |none=>rw[c3]at hq;exact hq.elim|some nw=>
 rw[c3]at hq;simp only at hq;cases B:oN s1 c.post (X9 0 c.blks.length++nw)with
 |none=>rw[B]at hq;exact hq.elim|some G=>
 rw[B]at hq;obtain⟨us,R,T⟩:=IF z Z;obtain⟨n,L,N,O⟩:=mO A R;obtain⟨p,J,K⟩:=mJ hs1 B;rw[A5]at hq;obtain⟨vs,s2,hq,τ2,F2,hp2,m,k,rfl,ab⟩:=gI c.outL (E++G) (n++p) τ1 F1 s1 hp1 (L.append J) hs1 _ hq hs1;rw[A5]at hq;obtain⟨⟨C,d⟩,s3,hq,o3,q,V⟩:=uO (X9 0 c.blks.length++nw) c.outL vs s2 _ hq k.fc;simp only[v8]at hq;cases y:(X9 0 c.blks.length++nw).all (uD s3)&&cD (nw++d)&&nw.all (Nat.ble (c.blks.length+H7 c.inL))&&d.all (Nat.ble c.blks.length)&&Nat.beq d.length (H7 c.outL)&&Nat.beq (nw.length+c.blks.length) c.post.length with
 |false=>rw[y]at hq;exact hq.elim|true=>
 rw[y]at hq;simp only[SR,Ty,TY,TJ]at y;obtain⟨⟨⟨⟨⟨k1,k2⟩,k3⟩,k4⟩,k5⟩,k6⟩:=y;have g:=hq.1;have hd:u5 U (m8 c.inL) ds=u5 U (m8 c.inL) es:=by rw[<-hds];exact J2 _ _ _ e
 rw[hd]at g;have Y:=k.only o3 q;exact⟨v,τ2,F2,s3,hp2,vs,n,p,C,nw,d,j,D.trans (m.trans (Vc k o3)),Y,ab,N,λx F3 gl rest hg=>T x F3 _ (O x F3 gl rest hg),K.mono m.t,V s3 o3.h,
  λb hb=>oY (k1 b hb),k2,k3,k4,k5,k6,g⟩
def AG {run:As->M SV}{g:Ay}(h:C3 P U ov run g)(j:(cvc P U c run).vc U λ_=>True):j2 P U ov c g:=
 λes d e τ F hp xs hs hx=>Kk (Pm:=λ_=>True) (λes τ F hp xs hl _ hs=>h _ xs τ F _ hp hl hs) j es d e τ F hp xs hs hx trivial
end
section
variable {P :Aw}{U:Ab}{ov:Aa}
variable {c:Con}{bl:Ah}
def sE {n i b:Nat}(hi:i<c.blks.length)(h:bl[i]? =some b):jN c bl n i=b:=by unfold jN;rw[Ta hi,Tk,List.getD,h];rfl
theorem sD {n k:Nat}:jN c bl n (c.blks.length+k)=n+k:=by
 unfold jN;have:Nat.ble (c.blks.length+k+1) c.blks.length=false:=by
  cases h:Nat.ble (c.blks.length+k+1) c.blks.length with
  |false=>rfl|true=>simp_all;omega
 grind
theorem Rk {τ1:Tau}{F1:Ac}{s1:SS}{hp1:Hp}{kill:Ah}{J:Au}{fv:Nat}{τ':Tau}{F':Ac}{s':SS}{hp':Hp}{vs:As}{aa ab:Af}{es ds:Au}{nw d:Ah}(hs1:SD P U τ1 F1 s1 hp1)(bq:bl.length=c.blks.length)(bu:kill.length=H7 c.inL)(av:∀b∈bl++kill,∃x,s1.get b=some x)(_:cD (bl++kill)=true)(bi:∀b x,(gst c J fv).get b=some x-> ∃b' x',(bl++kill)[b]? =some b'/\s1.get b'=some x')(ex:Ext (rX τ1 (bl++kill)) F1 (gst c J fv) hp1 τ' F' s' hp')(hs:SD P U τ' F' s' hp')(hv:VDL P U τ' F' vs (aa++ab))(bt:aa.length=(E8 c.res).length)(hb:BX τ' hp' c.post (X9 0 c.blks.length++nw) ab)(hm:jJ P U (X9 0 c.blks.length++nw) τ' F' s' c.outL vs es d)(hl:∀b∈X9 0 c.blks.length++nw,∃x,s'.get b=some x)(hd:cD (nw++d)=true)(ci:∀b∈nw,c.blks.length+H7 c.inL<=b)(ce:∀b∈d,c.blks.length<=b)(bw:d.length=H7 c.outL)(cg:nw.length+c.blks.length=c.post.length)(bh:cT U (m8 c.outL) es ds):SD P U (Q8 τ1 τ' s1.nx (nw++d)) F' (fst_ c ds s1 bl kill) hp'/\Ext τ1 F1 s1 hp1 (Q8 τ1 τ' s1.nx (nw++d)) F' (fst_ c ds s1 bl kill) hp'/\VDL P U (Q8 τ1 τ' s1.nx (nw++d)) F' (mR c ds s1 bl) (aa++ab):=by
 obtain⟨T,hT⟩:∃T,T=Q8 τ1 τ' s1.nx (nw++d):=⟨_,rfl⟩;obtain⟨M,hM⟩:∃M,M=rS (jN c bl s1.nx) 0 c.post ((mR c ds s1 bl).drop (E8 c.res).length):=⟨_,rfl⟩;rw[<-hT];have bg:c.post.length-c.blks.length=nw.length:=by omega
 have az:(gst c J fv).nx=(bl++kill).length:=by show c.blks.length+H7 c.inL=_;rw[Tv,bq,bu]
 have aq:∀b x,s1.get b=some x->b<s1.nx:=λb x h=>hs1.bound h;have ax:∀b p,τ1 b=some p->b<s1.nx:=λb p hb=>Nat.lt_of_not_le λad=>by rw[hs1.new b ad]at hb;cases hb
 have lo:∀b,b<s1.nx->T b=τ1 b:=λb hb=>hT▸eE hb;have bn:∀k b,(bl++kill)[k]? =some b->b<s1.nx/\τ' k=τ1 b:=by intro k b h;obtain⟨x,hx⟩:=av b (Td h);exact⟨aq b x hx,by rw[ex.st k (by rw[az];exact(SW.1 h).1),P3 h]⟩
 have R:∀i b,(X9 0 c.blks.length++nw)[i]? =some b->T (jN c bl s1.nx i)=τ' b:=by
  intro i b h;by_cases hi:i<c.blks.length
  .rw[Tc (by rw[D7];exact hi),gJ,Tp hi,TA]at h;cases h;have ac:bl[i]? =some (bl[i]'(by omega)):=Tf (by omega);have bz:(bl++kill)[i]? =some (bl[i]'(by omega)):=by grind
   obtain⟨k1,k2⟩:=bn i _ bz;rw[sE hi ac,lo _ k1,k2]
  .rw[Tb (by rw[D7];omega),D7]at h;obtain⟨k,rfl⟩:∃k,i=c.blks.length+k:=⟨i-c.blks.length,by omega⟩
   rw[Uq]at h;rw[sD,hT];exact jA (by rw[Tc (SW.1 h).1];exact h)
 have ba:∀k b,d[k]? =some b->T (s1.nx+(c.post.length-c.blks.length)+k)=τ' b:=by intro k b h;rw[bg,Ud,hT];exact jA (by rw[Tb (by omega),Uq];exact h)
 have W:VDL P U (T) F' (mR c ds s1 bl) (aa++ab):=hm.vals bh R ba hv;obtain⟨_,v2⟩:=W.split;rw[bt]at v2;have bc:=hm.blks (nb:=s1.nx+(c.post.length-c.blks.length)) bh;have V:Tle τ1 (T):=λb p hb=>by rw[lo b (ax b p hb)];exact hb
 have B:∀k b,(X9 0 c.blks.length++(nw++d))[k]? =some b->T (jN c bl s1.nx k)=τ' b:=by
  intro k b h;by_cases hi:k<c.blks.length;refine R k b ?_;rw[Tc (by rw[D7];exact hi)]at h⊢;exact h
  .rw[Tb (by rw[D7];omega),D7]at h;obtain⟨j,rfl⟩:∃j,k=c.blks.length+j:=⟨k-c.blks.length,by omega⟩
   rw[Uq]at h;rw[sD,hT];exact jA h
 have ay:∀(k k':Nat) b,(X9 0 c.blks.length++(nw++d))[k]? =some b->(X9 0 c.blks.length++(nw++d))[k']? =some b->k=k':=by
  have hge:∀b∈nw++d,c.blks.length<=b:=λb hb=>by grind
  intro k k' b h h';by_cases hk:k<c.blks.length;rw[Tc (by rw[D7];exact hk),gJ,Tp hk,TA]at h;cases h;by_cases N:k'<c.blks.length;rw[Tc (by rw[D7];exact N),gJ,Tp N,TA]at h';grind;rw[Tb (by rw[D7];omega)]at h';have:=hge k (Td h');omega;rw[Tb (by rw[D7];omega)]at h;by_cases N:k'<c.blks.length;rw[Tc (by rw[D7];exact N),gJ,Tp N,TA]at h';cases h';have:=hge k' (Td h);omega;rw[Tb (by rw[D7];omega)]at h';have:=cE hd _ _ b h h';rw[D7]at this;omega
 have K:∀b x,(fst_ c ds s1 bl kill).get b=some x->
   (∃k b',b=jN c bl s1.nx k/\(X9 0 c.blks.length++(nw++d))[k]? =some b'/\(∃x',s'.get b'=some x')/\
    ((∃i o Y,τ' b'=some (some (i,o))/\hp'.m.get i=some Y/\F' i=none/\BD P U (T) F' o x Y)\/(τ' b'=some none/\E6 P U x)))\/
   (b<s1.nx/\b∉bl/\b∉kill/\s1.get b=some x):=by
  intro b x D;have g:(match lk (M++(Y6 c.outL ds (s1.nx+(c.post.length-c.blks.length))++(fC (kill++(bl++ [s1.nx]))++s1.h))) b with|some x=>x|none=>none)=some x:=by rw[hM];exact D
  rw[K2,K2,K2]at g;cases c1:lk M b with
  |some y=>
   rw[c1]at g;subst g;rw[hM,<-UF ((mR c ds s1 bl).drop (E8 c.res).length)]at c1;obtain⟨j,bj,i,o,Y,Z,C,_,e5,e6,e7⟩:=BN hb v2 (λj b hj=>by rw[TA];exact R j b hj) c1;left;obtain⟨x',ak⟩:=hl bj (Td C);have hF:F' i=none:=by rcases hs.live bj x' ak with⟨i',o',y',k1,_,k3,_⟩| ⟨k1,_⟩;grind;grind
   refine⟨j,bj,by rw[Z,TA],?_,⟨x',ak⟩,.inl ⟨i,o,Y,e5,e6,hF,e7⟩⟩;rw[<-Th,Tc (SW.1 C).1];exact C
  | none =>
   rw[c1]at g;cases c2:lk (Y6 c.outL ds (s1.nx+(c.post.length-c.blks.length))) b with
   |some y=>rw[c2]at g;subst g;obtain⟨k,b',X,x',Z,C,e3,e4,e5,e6⟩:=bc b _ c2;cases e3;left;refine⟨c.blks.length+(nw.length+k),b',by rw[sD,Z,bg,Ud],?_,⟨x',e4⟩,?_⟩;rw[Tb (by rw[D7];omega),D7,Uq,Tb (by omega),Uq];exact C;rcases hs.live b' x' e4 with⟨i,o,y,k1,k2,k3,k4⟩| ⟨k1,k2⟩;exact .inl ⟨i,o,y,k1,k2,k3,e5 _ o y k4⟩;exact .inr ⟨k1,e6 k2⟩
   |none=>
    rw[c2,R3]at g;simp only at g;by_cases hk:b∈kill++(bl++ [s1.nx])
    rw[Tp hk]at g;cases g
    .rw[Tn hk]at g;have t:s1.get b=some x:=g;refine .inr ⟨aq b x t,λL=>?_,λh=>hk (UL _ h),t⟩;obtain⟨i,hi⟩:=TZ.1 L;have hlt:i<c.blks.length:=by have:=(SW.1 hi).1;omega
     have:=uL (num:=jN c bl s1.nx) (r:=c.post) (fl:=(mR c ds s1 bl).drop (E8 c.res).length) (i0:=0) (j:=i) (by omega);rw[TA,sE hlt hi,<-hM]at this;exact absurd this (BK c1)
 obtain⟨lg,a1,a2,a3,a4,_⟩:=ex.hh;have A:∀b0 x i o,(gst c J fv).get b0=some x->rX τ1 (bl++kill) b0=some (some (i,o))-> ∃b' x',b'∈bl++kill/\s1.get b'=some x'/\τ1 b'=some (some (i,o)):=by intro b0 x i o h0 ht;obtain⟨b',x',k1,k2⟩:=bi b0 x h0;rw[P3 k1]at ht;exact⟨b',x',Td k1,k2,ht⟩
 have bm:∀b i o,b<(gst c J fv).nx->τ' b=some (some (i,o))-> ∃b' x',b'∈bl++kill/\s1.get b'=some x'/\τ1 b'=some (some (i,o)):=by intro b i o hb ht;rw[az]at hb;have hg:=Tf hb;obtain⟨_,k2⟩:=bn b _ hg;obtain⟨x,hx⟩:=av _ (Td hg);rw[k2]at ht;exact⟨_,x,Td hg,hx,ht⟩
 have al:∀b i o,τ' b=some (some (i,o))->hp1.nx<=i\/ ∃b' x' o',b'∈bl++kill/\s1.get b'=some x'/\τ1 b'=some (some (i,o')):=by intro b i o ht;by_cases hb:b<(gst c J fv).nx;obtain⟨b',x',h1,h2,h3⟩:=bm b i o hb ht;exact .inr ⟨b',x',o,h1,h2,h3⟩;rcases a3 b i o (Uv hb) ht with h| ⟨b0,x,o0,h1,h2,_⟩;omega;obtain⟨b',x',k1,k2,k3⟩:=A b0 x i o0 h1 h2;exact .inr ⟨b',x',o0,k1,k2,k3⟩
 have apart:∀b x i o c' y o',s1.get b=some x->b∉bl->b∉kill->τ1 b=some (some (i,o))->c'∈bl++kill->s1.get c'=some y->τ1 c'=some (some (i,o'))->False:=by
  intro b x i o c' y o' h1 h2 h3 h4 h5 h6 h7;have ah:b≠c':=λe=>by subst e;rcases TG.1 h5 with h|h;exact h2 h;exact h3 h
  exact hs1.inj b c' x y i o i o' h1 h6 ah h4 h7 rfl
 have aw:∀b∈bl,b∈M.map Prod.fst:=by
  intro b L;obtain⟨i,hi⟩:=TZ.1 L;have hlt:i<c.blks.length:=by have:=(SW.1 hi).1;omega
  have:=uL (num:=jN c bl s1.nx) (r:=c.post) (fl:=(mR c ds s1 bl).drop (E8 c.res).length) (i0:=0) (j:=i) (by omega);rw[TA,sE hlt hi,<-hM]at this;exact this
 have keys:∀b∈bl++kill,b∈(M++(Y6 c.outL ds (s1.nx+(c.post.length-c.blks.length))++fC (kill++(bl++ [s1.nx])))).map Prod.fst:=by intro b L;simp only[TQ,TG];rcases TG.1 L with h|h;exact .inl (aw b h);exact .inr (.inr (Uy.2 ⟨(b,none),Z1 (by rw[R3,Tp (UL _ h)]),rfl⟩))
 have u:∀b x i o,s1.get b=some x->b∉bl->b∉kill->τ1 b=some (some (i,o))->hp'.m.get i=hp1.m.get i:=by intro b x i o h1 h2 h3 h4;refine a2 i (hs1.lt b i o h4) λb0 x0 o0 k1 k2 _=>?_;obtain⟨b',x',q1,q2,q3⟩:=A b0 x0 i o0 k1 k2;exact apart b x i o b' x' o0 h1 h2 h3 h4 q1 q2 q3
 refine⟨⟨λb x D=>?_,λb G x y i o j q D be ah Z C=>?_,hs.frz,λb i o h=>?_,hs.flt,λb ad=>?_,hs1.fc,λr hr=>(hs1.fz r hr).mono V ex.f⟩,⟨V,ex.f,ex.nx,?_,λb hb=>lo b hb,λb x D hlt=>?_,⟨M++(Y6 c.outL ds (s1.nx+(c.post.length-c.blks.length))++fC (kill++(bl++ [s1.nx]))),?_,λi hi aj=>?_,λb i o bb ht=>?_,λi y hi hy=>?_,λhp=>absurd rfl (hp (s1.nx,none) (UA _ (UA _ (Z1 (by rw[R3,Tp (UA _ (by simp))])))))⟩,⟨[],rfl⟩,⟨M++(Y6 c.outL ds (s1.nx+(c.post.length-c.blks.length))++fC (kill++(bl++ [s1.nx]))),?_,λb c' e z i o cs n bb ca cf hg bv=>⟨cs,?_,λ_ _=>rfl⟩⟩⟩,W⟩
 rotate_right 2
 rw[hM,Th,Th];rfl
 .have aj:b∉kill++(bl++ [s1.nx]):=λq=>by obtain⟨_,q',_⟩:=bv none (UA _ (UA _ (Z1 (by rw[R3,Tp q]))));cases q'
  rw[u b _ i o bb (λq=>aj (UA _ (UL _ q))) (λq=>aj (UL _ q)) ca];exact hg
 .rcases K b x D with⟨k,b',rfl,C,_,h⟩| ⟨hlt,ae,ai,t⟩;rcases h with⟨i,o,Y,h1,h2,h3,h4⟩| ⟨h1,h2⟩;exact .inl ⟨i,o,Y,by rw[B k b' C];exact h1,h2,h3,h4⟩;exact .inr ⟨by rw[B k b' C];exact h1,h2⟩
  .rcases hs1.live b x t with⟨i,o,y,h1,h2,h3,h4⟩| ⟨h1,h2⟩
   .refine .inl ⟨i,o,y,by rw[lo b hlt];exact h1,by rw[u b x i o t ae ai h1];exact h2,?_,h4.mono V ex.f⟩;cases hF:F' i with
    |none=>rfl|some y'=>exfalso;rcases a4 i y' (hs1.lt b i o h1) hF with h5| ⟨b0,o0,h5,_⟩;rw[h3]at h5;cases h5;rcases al b0 i o0 h5 with h6| ⟨b',x',o',h6,h7,h8⟩;have:=hs1.lt b i o h1;omega;exact apart b x i o b' x' o' t ae ai h1 h6 h7 h8
   exact .inr ⟨by rw[lo b hlt];exact h1,h2⟩
 .have mixed:∀ {b G x y i o j q} {k b':Nat},(X9 0 c.blks.length++(nw++d))[k]? =some b'->T (jN c bl s1.nx k)=some (some (i,o))->b=jN c bl s1.nx k->s1.get G=some y->G<s1.nx->G∉bl->G∉kill->
    T G=some (some (j,q))->i≠j/\(x:B0)=x:=by
   intro b G x y i o j q k b' k1 k2 _ k3 k4 k5 k6 k7;refine⟨λe=>?_,rfl⟩;subst e;rw[B k b' k1]at k2;rw[lo G k4]at k7;rcases al b' i o k2 with h| ⟨bp,cd,cb,h1,h2,h3⟩;have:=hs1.lt G i q k7;omega;exact apart G y i q bp cd cb k3 k5 k6 k7 h1 h2 h3
  rcases K b x D with⟨k,b',rfl,k1,⟨x',ak⟩,_⟩| ⟨hlt,ae,ai,t⟩;rcases K G y be with⟨k',ap,rfl,k2,⟨y',bk⟩,_⟩| ⟨O,am,ao,au⟩;rw[B k b' k1]at Z;rw[B k' ap k2]at C;refine hs.inj b' ap x' y' i o j q ak bk (λe=>?_) Z C;subst e;exact ah (by rw[ay k k' b' k1 k2]);exact(mixed (b:=jN c bl s1.nx k) (x:=x) k1 Z rfl au O am ao C).1;rcases K G y be with⟨k',ap,rfl,k2,⟨y',bk⟩,_⟩| ⟨O,am,ao,au⟩;exact Ne.symm (mixed (b:=jN c bl s1.nx k') (x:=x) k2 C rfl t hlt ae ai Z).1;rw[lo b hlt]at Z;rw[lo G O]at C;exact hs1.inj b G x y i o j q t au ah Z C
 by_cases hlt:b<s1.nx;rw[lo b hlt]at h;exact TX (hs1.lt b i o h) ex.nx;rw[hT]at h;unfold Q8 at h;rw[Tn hlt]at h;split at h;exact hs.lt _ i o h;cases h;have ad:s1.nx+(c.post.length-c.blks.length)+H7 c.outL<=b:=ad;rw[hT];unfold Q8;rw[Tn (by omega),US (by rw[Tv,bw];omega)];show s1.nx<=s1.nx+(c.post.length-c.blks.length)+H7 c.outL;omega
 .rcases K b x D with⟨k,b',rfl,k1,_⟩| ⟨_,_,_,t⟩
  .by_cases hk:k<c.blks.length;have ac:bl[k]? =some (bl[k]'(by omega)):=Tf (by omega);rw[sE hk ac]at hlt⊢;exact av _ (UL _ (Td ac))
   .obtain⟨j,rfl⟩:∃j,k=c.blks.length+j:=⟨k-c.blks.length,by omega⟩
    rw[sD]at hlt;omega
  exact⟨x,t⟩
 rw[hM,Th,Th];rfl;refine a2 i hi λb0 x0 o0 k1 k2 _=>?_;obtain⟨b',x',q1,q2,q3⟩:=A b0 x0 i o0 k1 k2;exact aj b' x' o0 q2 q3 (keys b' q1);rw[hT]at ht;unfold Q8 at ht;rw[Tn (by omega)]at ht;split at ht;rcases al _ i o ht with h| ⟨b',x',o',h1,h2,h3⟩;exact .inl h;exact .inr ⟨b',x',o',h2,h3,keys b' h1⟩;cases ht;rcases a4 i y hi hy with h| ⟨b0,o0,h5,_⟩;exact .inl h;rcases al b0 i o0 h5 with h6| ⟨b',x',o',h6,h7,h8⟩;omega;exact .inr ⟨b',o',by rw[lo b' (aq b' x' h7)];exact h8,keys b' h6⟩
theorem OX {g:Ay}(hg:j2 P U ov c g):C3 P U ov (Gj P U c) g:=by
 intro l args τ F s hp hl hs Q hq _;simp only[Gj,v8]at hq;cases K:mN c.args l with
 |none=>rw[K]at hq;exact hq.elim|some M=>
 rw[K]at hq;cases c2:c.find l s with
 |none=>rw[c2]at hq;exact hq.elim|some bl=>
 rw[c2]at hq;simp only at hq;cases L:oN s c.blks bl with
 |none=>rw[L]at hq;exact hq.elim|some N=>
 rw[L]at hq;obtain⟨z,V,W,X⟩:=mO K hl;obtain⟨O,R,T⟩:=mJ hs L;rw[A5]at hq;obtain⟨vs,s2,hq,τ2,G,hp2,y,r,rfl,aa⟩:=gI c.inL (M++N) (z++O) τ F s hp (V.append R) hs _ hq hs;rw[A5]at hq;obtain⟨⟨es,e⟩,u,hq,o3,C,Z⟩:=uO (P:=P) (τ:=τ2) (F:=G) bl c.inL vs s2 _ hq r.fc;simp only[v8]at hq;cases E:bl.all (uD u)&&cD (bl++e)&&Nat.beq e.length (H7 c.inL)&&Nat.ble c.blks.length c.post.length with
 |false=>rw[E]at hq;exact hq.elim|true=>
 rw[E]at hq;simp at E;obtain⟨⟨⟨k1,k2⟩,k3⟩,k4⟩:=E;have D:=r.only o3 C;have hm:=Z u o3.h;have j:=hm.len;have m:=hq.1;have q:∀b∈bl,∃x,u.get b=some x:=λb hb=>oY (k1 b hb);have B:=T.mono y.t;obtain⟨g1,g2,g3⟩:=Mg D aa W B hm k2 q k3 (M2 (m8 c.inL) 0 es j);have p:VDL P U (rX τ2 (bl++e)) G (fB c (F7 U (m8 c.inL) 0 es)) args:=by obtain⟨w1,_⟩:=g2.split;have:=X _ _ _ ((mS c (F7 U (m8 c.inL) 0 es)).drop z.length) w1;rwa[UI]at this
 obtain⟨v,τ',F',s',hp',ak,A,aj,n,nw,J,r1,r2,r3,r4,r5,r6,r7,r8,r9,ab,ac,ad,ae,ah,ai⟩:=hg es j m _ G hp2 args g1 p;have d:=r8.len;have hQ:=iG _ _ _ (hq.2 m) n d (by rw[J2 _ _ _ d];exact ai);have Y:∀b∈bl++e,∃x,u.get b=some x:=λb hb=>by rcases TG.1 hb with h|h;grind;obtain⟨k,hk⟩:=TZ.1 h;exact hm.live hk
 obtain⟨f1,f2,f3⟩:=Rk D B.len.1 k3 Y k2 g3 r2 r3 r4 r5 r7 r8 r9 ab ac ad ae ah (M2 (m8 c.outL) u.fv n d);refine⟨_,_,hQ,_,F',hp',(y.trans (Vc r o3)).trans f2,f1,v,r1,?_⟩;obtain⟨w1,_⟩:=f3.split;have:=r6 _ _ _ ((mR c (F7 U (m8 c.outL) u.fv n) u bl).drop A.length) w1;simp_all
end
def jV (P:Aw)(U:Ab):List (Ay×Con)->Ay->Bb (As->M SV)
 | [],_=>none|p::l,g=>bif Nat.beq p.1 g then some (Gj P U p.2)else jV P U l g
section
variable {P :Aw}{U:Ab}{ov:Aa}
variable (P U ov) in
def O6 :List (Ay×Con)->Prop
 | []=>True|p::l=>j2 P U ov p.2 p.1/\O6 l
def Du :∀ {l:List (Ay×Con)},O6 P U ov l-> ∀g k,jV P U l g=some k->C3 P U ov k g
 | [],_,g,k,h=>by cases h
 |p::l,d,g,k,h=>by
  unfold jV at h;cases hb:Nat.beq p.1 g with
  |true=>rw[hb,Tk,SQ]at h;rw[<-h,<-SY hb];exact OX d.1|false=>rw[hb,Tl]at h;exact Du d.2 g k h
def noT {C:Ay->Prop}:∀g,isT (noOv g)=true->C g:=λ_ h=>Bool.noConfusion (show false=true from h)
theorem JY {a:Ay}{t:Ax}{rest:Aa}(h:isT (some t)=false)(hr:∀g,isT (rest g)=false):∀g,isT (BZ a t rest g)=false:=by intro g;unfold BZ;grind
theorem z9 {L:Ay}{rest:Aa}{con:Ay->Bb (As->M SV)}(h:(con L).isSome=true)(hr:∀g,isT (rest g)=false:=by first|exactλ_=>rfl|exact JY rfl (λ_=>rfl)|exact JY rfl (JY rfl (λ_=>rfl))|exact JY rfl (JY rfl (JY rfl (λ_=>rfl)))):∀g,isT (BZ L kD rest g)=true->con g≠none:=by
 intro g hg e;unfold BZ at hg;cases hb:Nat.beq g L with
 |true=>simp_all|false=>grind
end
section
variable {P :Aw}{U:Ab}{ov:Aa}
end
inductive JK where
 |i (k:IntKind)
 |b
 |rp
structure Jn where
 name:String
 gh:As->SS->List (So×E)
 one:Bool
 res:List JK
 rel:Ar->Ar->Prop
section
variable {P :Aw}{U:Ab}{ov:Aa}
end
section
variable {P :Aw}{U:Ab}
def yesM :As->M SV:=λl=>match l with
 | []=>i5 (.bool (.bool true))|_=>b9 "an argument"
def OA (_ e:Ar):Prop:=e=[.b true]
def cq (n:String):Con:=⟨n,[],[],λ_ _=>some [],λd=>d=[],[.one (.g .bool)],[],λ_ _=>some [],OA⟩
theorem KV {ov:Aa}{L:Ay}(h:isT (ov L)=true)(n:String):j2 P U ov (cq n) L:=by
 refine AG (run:=yesM) (λl args τ F s hp hl hs=>?_) λ_=>⟨rfl,λ_=>trivial⟩
 cases l with
 |cons a l=>exact Vi|nil=>
  obtain rfl:args=[]:=SZ hl.1.symm;refine Vk ⟨Value.bool true,⟨1,λm hm=>?_⟩,VD.bool (.bool true)⟩;obtain⟨m,rfl⟩:∃k,m=k+1:=⟨m-1,by omega⟩
  show(bif isT (ov L)&&([]:Af).isEmpty then some (Value.bool true,hp)else _)=some (Value.bool true,hp);grind
end
abbrev cI (L:a8)(i:Int)(j:Nat):Int:=(z8 L i j).toInt
abbrev cS (L:a8)(i:Int)(j:Nat):Ae:=(z8 L i j).toStr
abbrev cB (L:a8)(i:Int)(j:Nat):Bool:=(z8 L i j).toBool
abbrev cL (L:a8)(i:Int)(j:Nat):a8:=(z8 L i j).rows
abbrev ln {α:Type}(l:List α):Int:=(l.length:Int)
abbrev Nr (x:Int)(q:Prop):Prop:=Nd (x=x) q
abbrev Ni (x:Int)(q:Prop):Prop:=Nd (¬x<x) q
def byteAt (s:Ae)(i:Int):Int:=((s.getD i.toNat 0).toNat:Int)
theorem uR {p q:Prop}:(p/\(p->p/\(p->q)))↔(p/\(p->q)):=(by grind)
def uQ {p q:Prop}:(p->p/\(p->q))↔(p->q):=⟨λh x=>(h x).2 x,λh x=>⟨x,h⟩⟩
def jD (n:Int):(Dat.i n).toInt=n:=rfl
def C7 (s:Ae):(Dat.s s).toStr=s:=rfl
def cR (l:a8):(Dat.l l).rows=l:=rfl
section
variable {α :Type}{f:α->Ar}
theorem d9 {T:List α}{i:Int}{s:α}(h:T[i.toNat]? =some s)(j:Nat):z8 (T.map f) i j=(f s).getD j (.i 0):=by unfold z8;grind
def get_at {T:List α}{i:Int}(h0:0<=i)(h1:i<(T.length:Int)):∃o,T[i.toNat]? =some o:=⟨_,Tf (by omega)⟩
def O9 {l:List α}{a n:Int}:pQ (l.map f) a n=((l.drop a.toNat).take n.toNat).map f:=by unfold pQ;rw[<-List.map_drop,<-List.map_take]
theorem uI {d:Type}{f:α->d}(hf:∀a b,f a=f b->a=b):∀ {l m:List α},l.map f=m.map f->l=m
 | [],[],_=>rfl| [],b::m,h=>by grind|a::l,[],h=>by grind|a::l,b::m,h=>by simp at h;rw[hf a b h.1,uI hf h.2]
end
def P4 {k:IntKind}{n:Int}(h0:k.min<=n)(h1:n<=k.max):IntKind.wrap k n=n:=by cases k<;>simp[IntKind.min,IntKind.max,IntKind.signed,IntKind.bits,IntKind.wrap]at h0 h1⊢ <;>omega
def E1 {α:Type}{l:List α}{k:Nat}{a:α}(h:l[k]? =some a):l.take (k+1)=l.take k++ [a]:=by rw[List.take_add_one,h];rfl
def Ic {α:Type}{l:List α}{k:Nat}{a:α}(h:l[k]? =some a):l.drop k=a::l.drop (k+1):=by have hk:=(SW.1 h).1;rw[List.drop_eq_getElem_cons hk,(SW.1 h).2]
def eG {k:Int}(h:0<=k):(k+1).toNat=k.toNat+1:=by omega
def numK :Kd->Bool
 | .int _=>true| .bool=>true| .str=>true|_=>false
def PV.num {P:Aw}{F F':Ac}{k:Kd}{v:Av}{d:Dat}(hk:numK k=true)(p:PV P F k v d):PV P F' k v d:=by
 cases p with
 |int k n=>exact .int k n|bool b=>exact .bool b|str s=>exact .str s|nils e=>cases hk
 |vague e=>cases hk
 |_=>cases hk
section
variable {P :Aw}{U:Ab}{ov:Aa}
def pT :SV->Bool
 | .int _ _=>true| .bool _=>true| .str _=>true|_=>false
def IQ (a:SV):Bool:=match a with
 | .tup l=>l.all pT|a=>pT a
variable {F F':Ac}{v:Av}
def IM {τ τ':Tau}{a:SV}(h:pT a=true)(hv:VD P U τ F a v):VD P U τ' F' a v:=by
 cases hv with
 |int k e=>exact .int k e|bool e=>exact .bool e|str e=>exact .str e|_=>cases h
theorem Nz {τ τ':Tau}{a:SV}(h:IQ a=true)(hv:VD P U τ F a v):VD P U τ' F' a v:=by
 unfold IQ at h;split at h
 .cases hv with
  |tup _ xs h1 h2=>rw[Ty]at h;exact .tup _ xs h1 λi a x d hx=>IM (by grind) (h2 i a x d hx)
 exact IM h hv
def Qx (P:Aw)(s:SS)(a:SV)(s1:SS):Tr (SV×SS):=match a,s1.h with
 | .sl b z o n c,(k,some (.rows L e z' ph))::(k2,none)::h=>
  bif Nat.beq h.length s.h.length&&Nat.beq k2 k&&Nat.ble s.nx k&&(kf P e).all numK then .ret (.sl b z o n c,⟨(k,some (.rows L e z' ph))::s.h,s1.nx,s1.fc,s1.fv,s.fz⟩)else .ret (.sl b z o n c,s1)
 |a,(k2,none)::h=>bif IQ a&&Nat.beq h.length s.h.length&&Nat.ble s.nx k2 then .ret (a,⟨s.h,s1.nx,s1.fc,s1.fv,s.fz⟩)else .ret (a,s1)|a,_=>.ret (a,s1)
def MZ (P:Aw)(run:As->M SV):As->M SV:=λl s=>(run l s).bind λr=>Qx P s r.1 r.2
theorem Na {run:As->M SV}{g:Ay}(hr:C3 P U ov run g):C3 P U ov (MZ P run) g:=by
 intro l args τ F s hp hl hs Q hq _;unfold MZ at hq;rw[VH]at hq;obtain⟨a,s1,h1,τ1,F1,hp1,ex,hs1,v,hx,hv⟩:=hr l args τ F s hp hl hs _ hq hs;simp only at h1;unfold Qx at h1;split at h1
 .rename_i b z o n c k L e E ph k2 h hh;cases hc:Nat.beq h.length s.h.length&&Nat.beq k2 k&&Nat.ble s.nx k&&(kf P e).all numK with
  |false=>rw[hc]at h1;exact⟨_,_,h1,τ1,F1,hp1,ex,hs1,v,hx,hv⟩|true=>
   rw[hc]at h1;simp only[SR,TJ,TY,Ty]at hc;obtain⟨⟨⟨K,c2⟩,Y⟩,c4⟩:=hc;subst k2;obtain⟨T,B,C,J,W,X⟩:=ex.hh;rw[hh]at B;have u: [(k,some (B0.rows L e E ph)),(k,none)]++h=T++s.h:=B;obtain⟨D,G⟩:=List.append_inj' u K;subst D;subst G;have get:∀b,(⟨(k,some (.rows L e E ph))::s.h,s1.nx,s1.fc,s1.fv,s.fz⟩:SS).get b=s1.get b:=λb=>by unfold SS.get;rw[hh,z6,z6,z6];by_cases hb:k=b;rw[Tp hb,Tp hb];rw[Tn hb,Tn hb,Tn hb]
   have old:∀b x,s1.get b=some x->k≠b->s.get b=some x:=λb x hb A=>by rw[<-get]at hb;unfold SS.get at hb⊢;rwa[z6,Tn A]at hb
   have new:∀b x,s.get b=some x->b∈ [(k,some (B0.rows L e E ph)),(k,none)].map Prod.fst->False:=λb x hb hm=>by have:=hs.bound hb;simp only[TV,List.map_nil,TH,List.not_mem_nil,or_false,or_self]at hm;omega
   refine⟨_,_,h1,τ1,F,hp1,⟨ex.t,Vd F,ex.nx,ex.snx,ex.st,λb x hb hlt=>ex.low b x (by grind) hlt,⟨[(k,some (.rows L e E ph))],rfl,λi hi R=>C i hi λb x o p1 p2 m=>new b x p1 m,λb i o hb ht=>?_,λi y hi hy=>.inl hy,λ_ i y hy=>hy⟩,ex.hf,?_⟩,
    ⟨λb x hb=>?_,λb c x y i o j q hb hc=>hs1.inj b c x y i o j q (by grind) (by grind),λi b hF=>hs1.frz i b (ex.f i b hF),hs1.lt,λi b hF=>hs1.flt i b (ex.f i b hF),hs1.new,hs1.fc,λr hr=>(hs.fz r hr).mono ex.t (Vd F)⟩,v,hx,?_⟩
   rcases J b i o hb ht with h| ⟨b0,x,o0,h1,h2,h3⟩;exact .inl h;exact(new b0 x h1 h3).elim;exact(by grind)
   .rw[get]at hb;by_cases hk:k=b
    .subst hk;have hx:x= .rows L e E ph:=by rw[<-get]at hb;unfold SS.get at hb;rw[z6,Tp rfl]at hb;exact(Tu hb).symm
     subst hx;rcases hs1.live k _ hb with⟨i,o,y,p1,p2,m,cs,n,q1,⟨r1,r2,r3,r4⟩,q3⟩|p
     .refine .inl ⟨i,o,y,p1,p2,?_,cs,n,q1,⟨r1,r2,r3,λr j row d hr Z=>?_⟩,q3⟩
      .cases hF:F i with
       |none=>rfl|some y'=>rw[ex.f i y' hF]at m;cases m
      obtain⟨x,t1,t2⟩:=r4 r j row d hr Z;exact⟨x,t1,λkd O=>(t2 kd O).num (by grind)⟩
     exact .inr p
    have N:=old b x hb hk;rcases hs.live b x N with⟨i,o,y,p1,p2,m,V⟩| ⟨p1,p2⟩;exact .inl ⟨i,o,y,ex.t _ _ p1,by rw[C i (hs.lt b i o p1) λb x o p1 p2 m=>new b x p1 m];exact p2,m,V.mono ex.t (Vd F)⟩;exact .inr ⟨ex.t _ _ p1,p2⟩
   .cases hv with
    |sl _ _ _ _ _ i o c h h0 h1 hc=>exact .sl _ _ _ _ _ i o c h h0 h1 hc|sl0 _ _ _ _ _ h h0 h1 hc=>exact .sl0 _ _ _ _ _ h h0 h1 hc
 .rename_i a _ _ k2 h hh;cases hc:IQ a&&Nat.beq h.length s.h.length&&Nat.ble s.nx k2 with
  |false=>rw[hc]at h1;exact⟨_,_,h1,τ1,F1,hp1,ex,hs1,v,hx,hv⟩|true=>
   rw[hc]at h1;simp only[SR,TJ,TY]at hc;obtain⟨⟨c0,K⟩,Y⟩:=hc;obtain⟨T,B,C,J,W,X⟩:=ex.hh;rw[hh]at B;have u: [(k2,none)]++h=T++s.h:=B;obtain⟨D,G⟩:=List.append_inj' u K;subst D;have new:∀b x,s.get b=some x->b∈ [(k2,(none:Bb B0))].map Prod.fst->False:=λb x hb hm=>by have:=hs.bound hb;simp only[TV,List.map_nil,TH,List.not_mem_nil,or_false]at hm;omega
   refine⟨_,_,h1,τ1,F,hp1,⟨ex.t,Vd F,ex.nx,ex.snx,ex.st,λb x hb _=>⟨x,hb⟩,⟨[],rfl,λi hi R=>C i hi λb x o p1 p2 m=>new b x p1 m,λb i o hb ht=>?_,λi y hi hy=>.inl hy,λ_ i y hy=>hy⟩,ex.hf,(by grind)⟩,
    ⟨λb x hb=>?_,λb c x y i o j q hb hc A D G=>hs.inj b c x y i o j q hb hc A (by rw[<-ex.st b (hs.bound hb)];exact D) (by rw[<-ex.st c (hs.bound hc)];exact G),λi b hF=>hs1.frz i b (ex.f i b hF),hs1.lt,λi b hF=>hs1.flt i b (ex.f i b hF),hs1.new,hs1.fc,λr hr=>(hs.fz r hr).mono ex.t (Vd F)⟩,v,hx,Nz c0 hv⟩
   rcases J b i o hb ht with h| ⟨b0,x,o0,h1,h2,h3⟩;exact .inl h;exact(new b0 x h1 h3).elim;rcases hs.live b x hb with⟨i,o,y,p1,p2,m,V⟩| ⟨p1,p2⟩;exact .inl ⟨i,o,y,ex.t _ _ p1,by rw[C i (hs.lt b i o p1) λb x o p1 p2 m=>new b x p1 m];exact p2,m,V.mono ex.t (Vd F)⟩;exact .inr ⟨ex.t _ _ p1,p2⟩
 exact⟨_,_,h1,τ1,F1,hp1,ex,hs1,v,hx,hv⟩
variable (P U) in
def conP (l:List (Ay×Con))(g:Ay):Bb (As->M SV):=match jV P U l g with
 |some k=>some (MZ P k)|none=>none
end
def Con.below (c:Con)(mu:Ar->Nat)(n:Nat):Con:= {c with pre:=λd=>c.pre d/\mu d<n}
section
variable {P :Aw}{U:Ab}{ov:Aa}
theorem GQ {c:Con}{mu:Ar->Nat}{g:Ay}(h:∀n,j2 P U ov (c.below mu n) g->j2 P U ov (c.below mu (n+1)) g):j2 P U ov c g:=by
 have all:∀n,j2 P U ov (c.below mu n) g:=λn=>by
  induction n with
  |zero=>intro es _ d;exact absurd d.2 (Nat.not_lt_zero _)
  |succ n j=>grind
 intro es e d;exact all (mu (u5 U (m8 c.inL) es)+1) es e ⟨d,Ue _⟩
