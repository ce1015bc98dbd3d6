/- The symbolic engine, parts 23, 24, 25, 26, 27, 28, 29, 30, 31, 32, 33, 34, 35, 36, 37, 38, 39, 40.
  Conditions: none. -/
import Derived.Test.YtoegfalhkackeaaGreatSm2
import Derived.OpenShut
set_option linter.all false
noncomputable section
namespace Go.Sx
open Go.Xe
def T7 :Nat->List (Nat×Bb B4)->Ah
 |0,_=>[]
 |_+1,[]=>[]
 |n+1,(k,_)::l=>k::T7 n l
def rA (l h:List (Nat×Bb B4)):T7 l.length (l++h)=l.map Prod.fst:=by
 induction l with
 |nil=>rfl|cons a l d=>simp only[Ue,Uw,T7,Um,d]
def rY {α:Type}{b:Nat}:∀(l h:List (Nat×α)),b∉l.map Prod.fst->lk (l++h) b=lk h b
 | [],_,_=>rfl| (k,x)::l,h,hb=>by simp only[Um,TZ,not_or]at hb;rw[Uw,A0,TH (fun e=>hb.1 e.symm)];exact rY l h hb.2
def qZ :Nat->List (Nat×Bb B4)->Bool
 |0,_=>false|_+1,[]=>false|n+1,(_,x)::l=>match x with
  |none=>true|some _=>qZ n l
theorem JS (l h:List (Nat×Bb B4))(hf:qZ l.length (l++h)=false):∀p∈l,p.2≠none:=by
 induction l with
 |nil=>exact fun p hp=>by grind
 |cons a l d=>intro p hp;simp only[Ue,Uw,qZ]at hf;grind
def quiet {α:Type}(m:M α):M α:=fun s=>(m s).bind fun r=>bif Nat.beq r.2.h.length s.h.length&&Nat.beq r.2.nx s.nx then i3 r.1 r.2 else a8 "a region: an operation that should leave the memory alone" r.2
def Mp {α:Type}(n:Nat)(m:M α):M (α×Ah×Bool):=fun s=>(m s).bind fun r=>i3 (r.1,T7 (r.2.h.length-n) r.2.h,qZ (r.2.h.length-n) r.2.h) r.2
def mpend :M Nat:=fun s=>i3 s.nx (Ex s)
def ML (pd:List Pd):M Unit:=fun s=>i3 () (fQ s pd)
def liveR (r:Rd):M Unit:=match r with
 | .blk b=>p9 fun s=>match s.get b with
  |some _=>i3 ()|none=>a8 "a region: read"
 | .mlk _ b=>p9 fun s=>match s.get b with
  |some _=>i3 ()|none=>a8 "a region: read"
 |_=>i3 ()
def mC (P:Aw)(s0:SS)(f:Fm):Op->Rd
 |_=>
  have _:=P;have _:=s0;have _:=f
  .free
def Mn (o:Oper):Bool:=Nat.beq (i4 o.op) 3
section
variable (P :Aw)(U:Ab)
def sgo (call:J2)(nt:Nat)(all:An):List (Oper×Nat)->Nat->Fm->List Pd->List En->M (Fm×List Pd)
 | [],_,f,pd,_=>i3 (f,pd)| (o,pre)::rest,i,f,pd,es=>
  bif B6 nt o.dst&&Nat.blt pre (2^i)then
   b9 (sK U all f o) fun t =>
   bif t then
    bif Nat.beq (i4 o.op) 0 then b9 (quiet (sop P U call (Z7 all f o t) o.op)) fun v=>sgo call nt all rest (i+1) (gB (Z7 all f o t) o.dst v) pd (⟨i,pre,false,false,.free,[],false⟩::es)
    else bif Nat.beq (i4 o.op) 1 then p9 fun sr=>b9 (quiet (sop P U call (Z7 all f o t) o.op)) fun v=>b9 (liveR (rS P (rgB sr) (Z7 all f o t) o.op)) fun _=>
      bif vok 1000 v&&es.all (eL pre (rS P (rgB sr) (Z7 all f o t) o.op))then sgo call nt all rest (i+1) (gB (Z7 all f o t) o.dst v) pd (⟨i,pre,false,true,rS P (rgB sr) (Z7 all f o t) o.op,[],false⟩::es)
      else a8 "a region: a read"
    else bif Nat.beq (i4 o.op) 2 then match snw P (Z7 all f o t) o.op with
     |some (x,mk)=>b9 mpend fun b=>sgo call nt all rest (i+1) (gB (Z7 all f o t) o.dst (mk b)) (⟨b,i,x⟩::pd) (⟨i,pre,false,false,.free,[],false⟩::es)
     |none=>a8 "a region: a new block"
    else bif pd.all (fun p=>pre.testBit p.i)then
      p9 fun s0=>b9 (ML pd) fun _=>b9 (Mp s0.h.length (sop P U call (Z7 all f o t) o.op)) fun r=>b9 (liveR (mC P s0 (Z7 all f o t) o.op)) fun _=>
       bif es.all (fP pre r.2.1 (mC P s0 (Z7 all f o t) o.op))then sgo call nt all rest (i+1) (gB (Z7 all f o t) o.dst r.1) [] (⟨i,pre,true,false,mC P s0 (Z7 all f o t) o.op,r.2.1,r.2.2⟩::es)else a8 "a region: a write"
     else a8 "a region: blocks that wait"
   else bif Mn o&& !(es.all (fP pre [] .free))then a8 "a region: not wanted" else
    sgo call nt all rest (i+1) (gB (Z7 all f o t) o.dst (.tup [])) pd (⟨i,pre,Mn o,false,.free,[],false⟩::es)
  else a8 "a region: slot"
def GJ (call:J2)(nt:Nat):kD:=fun all f=>
 bif stat all (H2 all [])then b9 (sgo P U call nt all (all.zip (H2 all [])) 0 f [] []) fun r=>b9 (ML r.2) fun _=>i3 r.1
 else a8 "a region: order"
def NF (call:J2)(nt:Nat):kD:=fun all f=>GJ P U call nt all f
end
section
variable {P :Aw}{U:Ab}{ov:Aa}{nt:Nat}
variable {call :i8}{all:An}{nx0:Nat}{o:Oper}{pre:Nat}{rest:List (Oper×Nat)}{i:Nat}{tm:Ao}{S:Hp}{I:Nat}{es:List Ent}
def Ta (d:B6 nt o.dst=true)(e:t7 all tm o=false):xgo P call nt all nx0 ((o,pre)::rest) i tm S I es=xgo P call nt all nx0 rest (i+1) (y6 tm o.dst undef) S I (⟨i,o,pre,tm,S,S,I,false,undef,none⟩::es):=by rw[xgo,d,TE,e,TF]
variable {v:Av}{S':Hp}
theorem xgo_0 (d:B6 nt o.dst=true)(e:t7 all tm o=true)(hk:i4 o.op=0)(hx:xop P call tm S o.op=some (v,S')):xgo P call nt all nx0 ((o,pre)::rest) i tm S I es=xgo P call nt all nx0 rest (i+1) (y6 tm o.dst v) S I (⟨i,o,pre,tm,S,S,I,true,v,none⟩::es):=by rw[xgo,d,TE,e,TE,hk];grind
theorem xgo_1 (d:B6 nt o.dst=true)(e:t7 all tm o=true)(hk:i4 o.op=1)(hx:xrd P tm S o.op=some v):xgo P call nt all nx0 ((o,pre)::rest) i tm S I es=xgo P call nt all nx0 rest (i+1) (y6 tm o.dst v) S I (⟨i,o,pre,tm,S,S,I,true,v,none⟩::es):=by rw[xgo,d,TE,e,TE,hk];grind
theorem xgo_2 (d:B6 nt o.dst=true)(e:t7 all tm o=true)(hk:i4 o.op=2){n:Nw}(hx:xnw P tm o.op=some n):xgo P call nt all nx0 ((o,pre)::rest) i tm S I es=xgo P call nt all nx0 rest (i+1) (y6 tm o.dst (n.val (nx0+i))) S I (⟨i,o,pre,tm,S,S,I,true,n.val (nx0+i),some n⟩::es):=by rw[xgo,d,TE,e,TE,hk];grind
theorem xgo_3 (d:B6 nt o.dst=true)(e:t7 all tm o=true)(hk:i4 o.op=3)(hx:xop P call tm (takes nx0 (lV pre I) es S) o.op=some (v,S')):xgo P call nt all nx0 ((o,pre)::rest) i tm S I es=xgo P call nt all nx0 rest (i+1) (y6 tm o.dst v) S' (I|||pre) (⟨i,o,pre,tm,S,S',I,true,v,none⟩::es):=by rw[xgo,d,TE,e,TE,hk];grind
def A5 {α d:Type}{m:M α}{k:α->M d}{s:SS}{Q:d×SS->Prop}:(b9 m k s).vc U Q↔(m s).vc U fun r=>(k r.1 r.2).vc U Q:=by exact VZ _ _ _ _
def DT {α:Type}{m:M α}{s:SS}{Q:α×SS->Prop}(h:(quiet m s).vc U Q):(m s).vc U fun r=>Q r/\r.2.h.length=s.h.length/\r.2.nx=s.nx:=by
 unfold quiet at h;rw[VZ]at h;refine Tr.vc_mono _ _ (fun r hr=>?_) h;cases hb:Nat.beq r.2.h.length s.h.length&&Nat.beq r.2.nx s.nx with
 |false=>rw[hb]at hr;exact hr.elim|true=>rw[hb]at hr;rw[Tl]at hb;exact⟨hr,Tp hb.1,Tp hb.2⟩
variable {τ :Tau}{F:Ac}{s:SS}
theorem Ext.quiet {τ':Tau}{F':Ac}{s':SS}(ex:Ext τ F s S τ' F' s' S')(hs:SD P U τ F s S)(e:SD P U τ' F' s' S')(m:S'=S)(hh:s'.h.length=s.h.length)(hn:s'.nx=s.nx):τ'=τ/\F'=F/\s'.h=s.h:=by
 obtain⟨l,g,_,_,k,_⟩:=ex.hh;have hl:l=[]:=by simp_all
 subst hl;refine⟨funext fun b=>?_,funext fun j=>?_,by grind⟩;by_cases hb:b<s.nx;exact ex.st b hb;rw[hs.new b (by omega),e.new b (by omega)]
 ·cases hq:F' j with
  |none=>
   cases d:F j with
   |none=>rfl|some y=>rw[ex.f j y d]at hq;cases hq
  |some y=>grind
def KB {s0:SS}{f:Fm}{o:Op}{t:Ax}{b:Nat}(h:mC P s0 f o= .mlk t b)(ht:TD P U τ F f tm)(hs:SD P U τ F s S)(hb:s.get b=s0.get b)(hx:xop P call tm S o=some (v,S')):∃x j q,s0.get b=some x/\τ b=some (some (j,q))/\MS P t j S S':=by unfold mC at h;cases h
variable (P U ov nt) in
def Lg (all:An)(τ0:Tau)(F0:Ac)(s0:SS)(hp0:Hp)(rest:List (Oper×Nat))(i:Nat)(tm:Ao)(S:Hp)(I:Nat)(esX:List Ent)(f:Fm)(Q:(Fm×List Pd)×SS->Prop):Prop:=
 ∃f' pd' s',Q ((f',pd'),s')/\ ∃τ' F' out es',(EV fun m=>xgo P (D8 P ov m) nt all hp0.nx rest i tm S I esX=some out)/\
  DA P U τ0 F0 s0 hp0 all.length all.length τ' F' s' out.S f' out.tm pd' out.es out.I/\DB P ⟨hp0.m,hp0.nx+all.length⟩ all.length τ' F' s' out.S es' out.es/\ ∃pr,f'=pr++f
theorem pX {call:J2}(z:E6 P U ov call){all:An}{τ0:Tau}{F0:Ac}{s0:SS}{hp0:Hp}:∀(rest:List (Oper×Nat)) (i:Nat) (τ:Tau) (F:Ac) (s:SS) (S:Hp) (f:Fm) (tm:Ao) (pd:List Pd) (es:List En) (esX:List Ent) (I:Nat),DA P U τ0 F0 s0 hp0 all.length i τ F s S f tm pd esX I->DB P ⟨hp0.m,hp0.nx+all.length⟩ i τ F s S es esX->i+rest.length=all.length-> ∀Q,(sgo P U call nt all rest i f pd es s).vc U Q->Lg P U ov nt all τ0 F0 s0 hp0 rest i tm S I esX f Q
 | [],i,τ,F,s,S,f,tm,pd,es,esX,I,d,hb,hi,Q,hq=>by
  have e:i=all.length:=by grind
  subst e;exact⟨f,pd,s,hq,τ,F,⟨tm,S,I,esX⟩,es,Vr fun m=>rfl,d,hb,[],rfl⟩
 | (o,pre)::rest,i,τ,F,s,S,f,tm,pd,es,esX,I,d,hb,hi,Q,hq=>by
  have az:i<all.length:=by grind
  have M:i+1+rest.length=all.length:=by grind
  unfold sgo at hq;cases V:B6 nt o.dst&&Nat.blt pre (2^i)with
  |false=>rw[V]at hq;exact hq.elim|true=>
   rw[V,TE,A5]at hq;rw[Tl]at V;have al:pre<2^i:=To V.2;obtain⟨t,s1,hq,C,aw,hw⟩:=vR d.td all o (s:=s) _ hq d.sd.fc;have d:=d.fr (It d.td hw);obtain⟨p0,X⟩:=DV all f o t;have W:Lg P U ov nt all τ0 F0 s0 hp0 ((o,pre)::rest) i tm S I esX (Z7 all f o t) Q->Lg P U ov nt all τ0 F0 s0 hp0 ((o,pre)::rest) i tm S I esX f Q:=
    fun⟨f',ak,s',h1,τ',F',out,Y,h2,h3,h4,pr,h5⟩=>⟨f',ak,s',h1,τ',F',out,Y,h2,h3,h4,pr++p0,by rw[h5,X,Tz]⟩
   refine W ?_;clear W X p0;generalize Z7 all f o t=f at hq d⊢;have A:=d.sd.only C aw;have K:∀ {a:SV} {v:Av} {S':Hp} {I':Nat} {eX:Ent},(EV fun m=>xgo P (D8 P ov m) nt all hp0.nx ((o,pre)::rest) i tm S I esX=xgo P (D8 P ov m) nt all hp0.nx rest (i+1) (y6 tm o.dst v) S' I' (eX::esX))->
     Lg P U ov nt all τ0 F0 s0 hp0 rest (i+1) (y6 tm o.dst v) S' I' (eX::esX) (gB f o.dst a) Q->Lg P U ov nt all τ0 F0 s0 hp0 ((o,pre)::rest) i tm S I esX f Q:=by
    intro a v S' I' eX he ⟨f',ak,s',h1,τ',F',out,Y,h2,h3,h4,pr,h5⟩;obtain⟨p,hp⟩:=DR f o.dst a;exact⟨f',ak,s',h1,τ',F',out,Y,(he.and h2).mono fun m ⟨k1,k2⟩=>by rw[k1];exact k2,h3,h4,pr++p,by rw[h5,hp,Tz]⟩
   have ab:∀b x,s.get b=some x->τ b=τ b:=fun _ _ _=>rfl;cases t with
   |false=>
    rw[TF]at hq;cases hc:Mn o&& !(es.all (fP pre [] .free))with
    |true=>rw[hc]at hq;exact hq.elim|false=>
     rw[hc,TF]at hq;have hk:∀h:Mn o=true,es.all (fP pre [] .free)=true:=fun h=>by grind
     have hg:∀b,s1.get b=s.get b:=C.get;have E:=d.keep hb.xi (eX:=⟨i,o,pre,tm,S,S,I,false,undef,none⟩) A (d.td.put (.tup [] [] rfl (fun i a x h _=>by simp at h)) o.dst) C.h C.nx (Vt d.sd C) rfl rfl;have G:=hb.step (en:=⟨i,pre,Mn o,false,.free,[],false⟩) (eX:=⟨i,o,pre,tm,S,S,I,false,undef,none⟩) (τ':=τ) (F':=F) (s':=s1) (S':=S) (VY τ) (Vu F) ab d.sd.frz (fun _ _ _ h=>h)
      (fun b _=>hg b) (fun _ _ _ _ _ _ _=>rfl) rfl rfl rfl rfl rfl (fun _=>⟨rfl,rfl⟩) hk (fun _ _ _ h=>by cases h) (fun h _=>by cases h)
     exact K (Vr fun m=>Ta V.1 hw) (pX z rest (i+1) τ F s1 S _ _ pd _ _ I E G M Q hq)
   |true=>
    rw[TE]at hq;have ba:i4 o.op=0\/i4 o.op=1\/i4 o.op=2\/i4 o.op=3:=by have:=nM o.op;omega
    rcases ba with hk|hk|hk|hk<;>rw[hk]at hq
    ·rw[show Nat.beq 0 0=true from rfl,TE,A5]at hq;obtain⟨a,s2,⟨hq,h1,h2⟩,τ',F',S',ex,B,v,hx,hv⟩:=BK z (d.td) A o.op _ (DT hq) A;obtain⟨O,D⟩:=hx;have D:∀m,O<=m->xop P (D8 P ov m) tm S o.op=some (v,S'):=D;obtain⟨r,hr⟩:=wQ (P:=P) (call:=D8 P ov O) (tm:=tm) hk;have hS:S'=S:=by have:=D O (TK _);rw[hr]at this;exact(l6 this).2
     obtain⟨rfl,rfl,h3⟩:=ex.quiet A B hS h1 h2;subst hS;have hh:s2.h=s.h:=by rw[h3,C.h]
     have hn:s2.nx=s.nx:=by rw[h2,C.nx]
     have hg:∀b,s2.get b=s.get b:=fun b=>by unfold SS.get;rw[hh]
     have E:=d.keep hb.xi (eX:=⟨i,o,pre,tm,S',S',I,true,v,none⟩) B (d.td.put hv o.dst) hh hn ((Vt d.sd C).trans ex) rfl rfl;have G:=hb.step (en:=⟨i,pre,false,false,.free,[],false⟩) (eX:=⟨i,o,pre,tm,S',S',I,true,v,none⟩) (τ':=τ') (F':=F') (s':=s2) (S':=S') (VY _) (Vu _) ab d.sd.frz (fun _ _ _ h=>h)
      (fun b _=>hg b) (fun _ _ _ _ _ _ _=>rfl) rfl rfl rfl (by show false=isW _;unfold isW;rw[show i4 o.op=0 from hk];rfl) rfl (fun _=>⟨rfl,rfl⟩) (fun h=>by unfold isW at h;rw[show i4 o.op=0 from hk]at h;cases h) (fun h=>by cases h) (fun _ h=>by rw[show i4 o.op=0 from hk]at h;cases h)
     exact K ⟨O,fun m hm=>xgo_0 V.1 hw hk (D m hm)⟩ (pX z rest (i+1) _ _ s2 S' _ _ pd _ _ I E G M Q hq)
    ·rw[show Nat.beq 1 0=false from rfl,show Nat.beq 1 1=true from rfl,TF,TE]at hq;unfold p9 at hq;rw[A5]at hq;obtain⟨a,s2,⟨hq,h1,h2⟩,τ',F',S',ex,B,v,hx,hv⟩:=BK z (d.td) A o.op _ (DT hq) A;obtain⟨O,D⟩:=hx;obtain⟨hS,be⟩:=Th hk (D O (TK _));obtain⟨rfl,rfl,h3⟩:=ex.quiet A B hS h1 h2;subst hS;have hh:s2.h=s.h:=by rw[h3,C.h]
     have hn:s2.nx=s.nx:=by rw[h2,C.nx]
     have hg:∀b,s2.get b=s.get b:=fun b=>by unfold SS.get;rw[hh]
     have bg:=PB d.td A (D O (TK _));rw[A5]at hq;have J:(∀b,(rS P (rgB s1) f o.op= .blk b\/ ∃t,rS P (rgB s1) f o.op= .mlk t b)-> ∃x,s.get b=some x)/\Tr.vc U ((bif vok 1000 a&&es.all (eL pre (rS P (rgB s1) f o.op))then sgo P U call nt all rest (i+1) (gB f o.dst a) pd (⟨i,pre,false,true,rS P (rgB s1) f o.op,[],false⟩::es)
      else a8 "a region: a read") s2) Q:=by
      cases ae:rS P (rgB s1) f o.op with
      |blk b=>
       rw[ae]at hq;simp only[liveR,p9]at hq;cases n:s2.get b with
       |none=>rw[n]at hq;exact hq.elim|some x=>rw[n]at hq;exact⟨fun b' e=>by rcases e with e| ⟨_,e⟩<;>cases e;exact⟨x,by rw[<-hg];exact n⟩,hq⟩
      |mlk tt b=>
       rw[ae]at hq;simp only[liveR,p9]at hq;cases n:s2.get b with
       |none=>rw[n]at hq;exact hq.elim|some x=>rw[n]at hq;exact⟨fun b' e=>by rcases e with e| ⟨_,e⟩<;>cases e;exact⟨x,by rw[<-hg];exact n⟩,hq⟩
      |_=>rw[ae]at hq;exact⟨fun b' e=>(by rcases e with e| ⟨_,e⟩<;>cases e),hq⟩
     obtain⟨J,hq⟩:=J;cases hc:vok 1000 a&&es.all (eL pre (rS P (rgB s1) f o.op))with
     |false=>rw[hc]at hq;exact hq.elim|true=>
      rw[hc,TE]at hq;rw[Tl]at hc;have E:=d.keep hb.xi (eX:=⟨i,o,pre,tm,S',S',I,true,v,none⟩) B (d.td.put hv o.dst) hh hn ((Vt d.sd C).trans ex) rfl rfl;have G:=hb.step (en:=⟨i,pre,false,true,rS P (rgB s1) f o.op,[],false⟩) (eX:=⟨i,o,pre,tm,S',S',I,true,v,none⟩) (τ':=τ') (F':=F') (s':=s2) (S':=S') (VY _) (Vu _) ab d.sd.frz (fun _ _ _ h=>h)
       (fun b _=>hg b) (fun _ _ _ _ _ _ _=>rfl) rfl rfl rfl (by show false=isW _;unfold isW;rw[show i4 o.op=1 from hk];rfl) rfl (fun _=>⟨rfl,rfl⟩) (fun h=>by unfold isW at h;rw[show i4 o.op=1 from hk]at h;cases h) (fun h=>by cases h)
       (fun _ _=>⟨EF 1000 a v hc.1 hv,rfl,rfl,bg,J,hc.2⟩)
      refine K ⟨O,fun m hm=>xgo_1 V.1 hw hk be⟩ (pX z rest (i+1) _ _ s2 S' _ _ pd _ _ I E G M Q hq)
    ·rw[show Nat.beq 2 0=false from rfl,show Nat.beq 2 1=false from rfl,show Nat.beq 2 2=true from rfl,TF,TF,TE]at hq;cases ad:snw P f o.op with
     |none=>rw[ad]at hq;exact hq.elim|some xm=>
      obtain⟨x,mk⟩:=xm;rw[ad]at hq;obtain⟨nw,hx,au,aq⟩:=SF (U:=U) d.td ad;have hq:(sgo P U call nt all rest (i+1) (gB f o.dst (mk s1.nx)) (⟨s1.nx,i,x⟩::pd) (⟨i,pre,false,false,.free,[],false⟩::es) (Ex s1)).vc U Q:=hq;have L:DA P U τ0 F0 s0 hp0 all.length i τ F s1 S f tm pd esX I:=
       ⟨A,d.td,d.ext.trans (Vt d.sd C),d.room,d.ib,d.xd,d.pn,fun p hp=>let k:=d.pds p hp;⟨k.lt,k.un,by rw[C.get];exact k.g,k.lo,by rw[C.nx];exact k.hi,k.t,k.f,k.u,k.e⟩,d.cl,d.tk⟩
      have h0:τ s1.nx=none:=A.new _ (TK _);have ac:=cJ (τ:=τ) (some (hp0.nx+i,0)) h0;have E:=L.pend hb.xi az (eX:=⟨i,o,pre,tm,S,S,I,true,nw.val (hp0.nx+i),some nw⟩) (x:=x) (nw:=nw) ((d.td.mono ac (Vu F)).put (aq _ s1.nx (hp0.nx+i) (t6 _ _ _)) o.dst) (au _ ac) rfl rfl;have G:=hb.step (en:=⟨i,pre,false,false,.free,[],false⟩) (eX:=⟨i,o,pre,tm,S,S,I,true,nw.val (hp0.nx+i),some nw⟩) (τ':=put τ s1.nx (some (hp0.nx+i,0))) (F':=F) (s':=Ex s1) (S':=S) ac (Vu _)
       (fun b y hb=>B8 τ _ (by have:=d.sd.bound hb;rw[C.nx];omega)) d.sd.frz (fun _ _ _ h=>h)
       (fun b _=>C.get b) (fun _ _ _ _ _ _ _=>rfl) rfl rfl rfl (by show false=isW _;unfold isW;rw[show i4 o.op=2 from hk];rfl) rfl (fun _=>⟨rfl,rfl⟩) (fun h=>by unfold isW at h;rw[show i4 o.op=2 from hk]at h;cases h) (fun h=>by cases h) (fun _ h=>by rw[show i4 o.op=2 from hk]at h;cases h)
      exact K (Vr fun m=>xgo_2 V.1 hw hk hx) (pX z rest (i+1) _ _ _ S _ _ _ _ _ I E G M Q hq)
    ·rw[show Nat.beq 3 0=false from rfl,show Nat.beq 3 1=false from rfl,show Nat.beq 3 2=false from rfl,TF,TF,TF]at hq;cases hc:pd.all (fun p=>pre.testBit p.i)with
     |false=>rw[hc]at hq;exact hq.elim|true=>
      rw[hc,TE]at hq;rw[TS]at hc;have L:DA P U τ0 F0 s0 hp0 all.length i τ F s1 S f tm pd esX I:=
       ⟨A,d.td,d.ext.trans (Vt d.sd C),d.room,d.ib,d.xd,d.pn,fun p hp=>let k:=d.pds p hp;⟨k.lt,k.un,by rw[C.get];exact k.g,k.lo,by rw[C.nx];exact k.hi,k.t,k.f,k.u,k.e⟩,d.cl,d.tk⟩
      have ap:∀e∈esX,e.nw≠none->(lV pre I e.i=true↔ ∃p∈pd,p.i=e.i):=by intro e he bc;unfold lV;rw[Tl,Uh];constructor;rintro ⟨_,h2⟩;exact d.tk e he bc h2;rintro ⟨p,hp,h2⟩;rw[<-h2];exact⟨hc p hp,(d.pds p hp).un⟩
      obtain⟨t1,t2,t3,t4⟩:=L.take (lV pre I) ap;simp only[p9]at hq;rw[A5]at hq;generalize ah:mC P s1 f o.op=so at hq;have hq:(b9 (Mp s1.h.length (sop P U call f o.op)) (fun r=>b9 (liveR so) fun _=>bif es.all (fP pre r.2.1 so)then sgo P U call nt all rest (i+1) (gB f o.dst r.1) [] (⟨i,pre,true,false,so,r.2.1,r.2.2⟩::es)else a8 "a region: a write") (fQ s1 pd)).vc U Q:=hq;rw[A5]at hq;unfold Mp at hq;rw[VZ]at hq;obtain⟨a,s2,hq,τ',F',S',ex,B,v,hx,hv⟩:=BK z d.td t1 o.op _ hq t1;obtain⟨l,a1,a2,a3,a4,a5⟩:=ex.hh;have aa:T7 (s2.h.length-s1.h.length) s2.h=(l++tkl pd).map Prod.fst:=by
       have:s2.h=(l++tkl pd)++s1.h:=by rw[a1,Tz];rfl
       rw[this,TO,Nat.add_sub_cancel,rA]
      have hq:(b9 (liveR so) (fun _=>bif es.all (fP pre (T7 (s2.h.length-s1.h.length) s2.h) so)then sgo P U call nt all rest (i+1) (gB f o.dst a) [] (⟨i,pre,true,false,so,T7 (s2.h.length-s1.h.length) s2.h,qZ (s2.h.length-s1.h.length) s2.h⟩::es)else a8 "a region: a write") s2).vc U Q:=hq;rw[A5]at hq;have J:(∀t b,so= .mlk t b-> ∃x,s2.get b=some x)/\((bif es.all (fP pre (T7 (s2.h.length-s1.h.length) s2.h) so)then sgo P U call nt all rest (i+1) (gB f o.dst a) [] (⟨i,pre,true,false,so,T7 (s2.h.length-s1.h.length) s2.h,qZ (s2.h.length-s1.h.length) s2.h⟩::es)else a8 "a region: a write") s2).vc U Q:=by
       cases so with
       |blk b=>
        simp only[liveR,p9]at hq;cases n:s2.get b with
        |none=>rw[n]at hq;exact hq.elim|some x=>rw[n]at hq;exact⟨fun _ _ e=>(by cases e),hq⟩
       |mlk tt b=>
        simp only[liveR,p9]at hq;cases n:s2.get b with
        |none=>rw[n]at hq;exact hq.elim|some x=>rw[n]at hq;exact⟨fun _ _ e=>(by cases e;exact⟨x,n⟩),hq⟩
       |free=>exact⟨fun _ _ e=>(by cases e),hq⟩|frz=>exact⟨fun _ _ e=>(by cases e),hq⟩|bad=>exact⟨fun _ _ e=>(by cases e),hq⟩
      obtain⟨J,hq⟩:=J;rw[aa]at hq;cases R:es.all (fP pre ((l++tkl pd).map Prod.fst) so)with
      |false=>rw[R]at hq;exact hq.elim|true=>
       rw[R,TE]at hq;have E:=L.write hb.xi al hc t3 t2 ex B ((d.td.mono ex.t ex.f).put hv o.dst) (eX:=⟨i,o,pre,tm,S,S',I,true,v,none⟩) rfl rfl;have ay:∀b,b∉(l++tkl pd).map Prod.fst->s2.get b=s.get b:=by
        intro b hb;have:s2.h=(l++tkl pd)++s.h:=by rw[a1,Tz,<-C.h];rfl
        unfold SS.get;rw[this,rY _ _ hb]
       have bh:∀b x j q,s.get b=some x->τ b=some (some (j,q))->b∉(l++tkl pd).map Prod.fst->S'.m.get j=S.m.get j:=by
        intro b x j q n aj bk;have N:∀p∈pd,b≠p.b:=by intro p hp e;rw[e,(d.pds p hp).g]at n;cases n
        have Z:∀p∈pd,j≠hp0.nx+p.i:=by intro p hp e;subst e;exact N p hp ((d.pds p hp).u b q aj)
        have ax:(fQ s1 pd).get b=some x:=by rw[bP N,C.get];exact n
        rw[a2 j (by rw[t3];exact d.sd.lt b j q aj) (fun b' y q' e1 e2 e3=>?_),t4 j Z];by_cases eb:b'=b;grind;exact t1.inj b' b y x j q' j q e1 ax eb e2 aj rfl
       have av:(isW (⟨i,o,pre,tm,S,S',I,true,v,none⟩:Ent)=true->qZ (s2.h.length-s1.h.length) s2.h=false)-> ∀j y,F' j=some y->F j=some y:=fun hq=>by
        have hn:=hq (by unfold isW;rw[show i4 o.op=3 from hk];rfl);have e2:s2.h=(l++tkl pd)++s1.h:=by rw[a1,Tz];rfl
        rw[e2,TO,Nat.add_sub_cancel]at hn;exact a5 fun p hp=>JS _ _ hn p (Va _ hp)
       obtain⟨O,D⟩:=hx;have ai:∀tt b,rH so (.mlk tt b)=true-> ∃x x' j q,s.get b=some x/\s2.get b=some x'/\τ b=some (some (j,q))/\MS P tt j S S':=by
        intro tt b ao;have e:so= .mlk tt b:=by
         clear ah hq J R;cases so with
         |mlk t2 b2=>simp only[rH,Tl,Ub]at ao;grind|_=>cases ao
        obtain⟨x',bi⟩:=J tt b e;have bb:∃x,s1.get b=some x:=by
         rw[<-ah]at e;unfold mC at e
         repeat' split at e
         all_goals grind
        obtain⟨x1,bj⟩:=bb;have N:∀p∈pd,b≠p.b:=by intro p hp e;have:=(L.pds p hp).g;rw[<-e,bj]at this;cases this
        obtain⟨x,j,q,g1,g2,g3⟩:=KB (s0:=s1) (ah.trans e) d.td t1 (by rw[bP N]) (D O (TK _));have Z:∀p∈pd,j≠hp0.nx+p.i:=by intro p hp e;subst e;exact N p hp ((d.pds p hp).u b q g2)
        exact⟨x,x',j,q,by rw[<-C.get];exact g1,bi,g2,(MS.of (t4 j Z)).trans g3⟩
       have G:=hb.step (en:=⟨i,pre,true,false,so,(l++tkl pd).map Prod.fst,qZ (s2.h.length-s1.h.length) s2.h⟩) (eX:=⟨i,o,pre,tm,S,S',I,true,v,none⟩) (τ':=τ') (F':=F') (s':=s2) (S':=S') ex.t ex.f
        (fun b y n=>ex.st b (by have:=d.sd.bound n;show b<s1.nx;rw[C.nx];exact this)) B.frz av ay bh rfl rfl rfl (by show true=isW _;unfold isW;rw[show i4 o.op=3 from hk];rfl) rfl
        (fun h=>by unfold isW at h;rw[show i4 o.op=3 from hk]at h;cases h) (fun _=>R) (fun _=>ai) (fun _ h=>by rw[show i4 o.op=3 from hk]at h;cases h)
       exact K ⟨O,fun m hm=>xgo_3 V.1 hw hk (D m hm)⟩ (pX z rest (i+1) _ _ _ S' _ _ _ _ _ _ E G M Q hq)
theorem Kt {call:J2}(r:E6 P U ov call)(all:An)(f:Fm)(τ:Tau)(F:Ac)(s:SS)(hp:Hp)(tm:Ao)(ht:TD P U τ F f tm)(hs:SD P U τ F s hp):OKh P U (GJ P U call nt all f) τ F s hp fun z τ' F' hp'=>∃tm',(EV fun n=>U4 P (D8 P ov n) nt all tm hp=some (tm',hp'))/\TD P U τ' F' z tm'/\ ∃pre,z=pre++f:=by
 intro Q hq _;unfold GJ at hq;cases q:stat all (H2 all [])with
 |false=>rw[q]at hq;exact hq.elim|true=>
  rw[q,TE,A5]at hq;have L:(all.zip (H2 all [])).length=all.length:=by have:=q;simp only[stat,Tl]at this;simp_all
  have J:SD P U τ F s ⟨hp.m,hp.nx+all.length⟩:=⟨hs.live,hs.inj,hs.frz,fun b i o h=>Uo (hs.lt b i o h) (Nat.le_add_right _ _),fun i b h=>Uo (hs.flt i b h) (Nat.le_add_right _ _),hs.new,hs.fc,hs.fz⟩
  have B:Ext τ F s hp τ F s ⟨hp.m,hp.nx+all.length⟩:=⟨VY τ,Vu F,Nat.le_add_right _ _,TK _,fun _ _=>rfl,fun b x hb _=>⟨x,hb⟩,
   ⟨[],rfl,fun _ _ _=>rfl,fun b i o hb ht=>(by rw[hs.new b hb]at ht;cases ht),fun _ _ _ h=>.inl h,fun _ _ _ h=>h⟩,⟨[],rfl⟩,⟨[],rfl,fun _ _ _ _ _ _ cs _ _ _ _ hg _=>⟨cs,hg,fun _ _=>rfl⟩⟩⟩
  have N:DA P U τ F s hp all.length 0 τ F s ⟨hp.m,hp.nx+all.length⟩ f tm [] [] 0:=by
   refine⟨J,ht,B,TK _,fun j _=>Nat.zero_testBit j,.nil,.nil,fun p hp=>by grind,fun j _ _=>⟨fun c o hc=>?_,?_⟩,fun e he=>by grind⟩;have:=hs.lt c _ o hc;omega
   ·cases hF:F (hp.nx+j)with
    |none=>rfl|some y=>have:=hs.flt _ y hF;omega
  have hb:DB P ⟨hp.m,hp.nx+all.length⟩ 0 τ F s ⟨hp.m,hp.nx+all.length⟩ [] []:=by refine⟨fun e he=>by grind,fun e he=>by grind,fun e he=>by grind,fun e he=>by grind,fun k Sk d b x j o _ _ _=>?_,fun k Sk d _ j y hj=>?_,fun e he=>by grind,fun t k Sk d b x j o _ _ _=>?_⟩;rcases d with⟨_,rfl⟩| ⟨x,hx,_⟩;rfl;grind;rcases d with⟨_,rfl⟩| ⟨x,hx,_⟩;exact hs.frz j y hj;grind;rcases d with⟨_,rfl⟩| ⟨x,hx,_⟩;exact MS.of rfl;grind
  obtain⟨z,K,s',G,τ',F',out,M,⟨R,C⟩,g,A,pr,E⟩:=pX r (all.zip (H2 all [])) 0 τ F s _ f tm [] [] [] 0 N hb (by omega) _ hq;obtain⟨t1,t2,_,_⟩:=g.take (iD out.I) (fun e he D=>by unfold iD;rw[Uh];constructor;exact g.tk e he D;rintro ⟨p,hp,e1⟩;rw[<-e1];exact(g.pds p hp).un);have u:dyn P ⟨hp.m,hp.nx+all.length⟩ out.es=true:=by
   unfold dyn;rw[TS];intro e he;cases hc:e.wt&&Nat.beq (i4 e.o.op) 1 with
   |false=>rfl|true=>
    rw[TE];rw[Tl]at hc;have look:=A.look e he hc.1 (Tp hc.2);rw[Tl];refine⟨(look 0 _ (.inl ⟨rfl,rfl⟩)).look,?_⟩;rw[TS];intro x hx;cases O:isW x with
    |false=>rfl|true=>exact(look _ _ (.inr ⟨x,hx,O,rfl,rfl⟩)).look
  refine⟨z,fQ s' K,G,τ',F',takes hp.nx (iD out.I) out.es out.S,t2,t1,out.tm,⟨R,fun m hm=>?_⟩,g.td,pr,E⟩;have e:=C m hm;show U4 P (D8 P ov m) nt all tm hp=_;unfold U4;rw[q,TE,e];simp only[u,TE]
def Ek {call:J2}(d:E6 P U ov call):cT P U ov nt (NF P U call nt):=by intro all f τ F s hp tm ht hs Q hq e;obtain⟨g,s',h1,τ',F',hp',h2,h3,tm',h4,h5⟩:=Kt d all f τ F s hp tm ht hs Q hq e;exact⟨g,s',h1,τ',F',hp',h2,h3,tm',h4.mono fun n k=>by unfold u7;rw[k],h5⟩
end
section
variable {P :Aw}{U:Ab}
variable {τ1 τ2:Tau}{F0 F1:Ac}{a:SV}
theorem VD.re {τ0:Tau}{r u:Av}(h0:VD P U τ0 F0 a r)(h1:VD P U τ1 F1 a u)(d:∀b p,τ0 b=some p->τ2 b=τ1 b):VD P U τ2 F1 a u:=by
 induction h1 generalizing r with
 |any v=>exact .any v|int k e=>exact .int k e|bool e=>exact .bool e|str e=>exact .str e|nilp=>exact .nilp|ptr b z row fld i o k h=>
  cases h0 with
  |ptr _ _ _ _ A o' k' _=>exact .ptr b z row fld i o (by rw[d b _ k'];exact k) h
 |pptr t L row fld i o l c k h h'=>exact .pptr t L row fld i o l c k h h'|rp row fld h=>exact .rp row fld h|rpq e v h=>exact .rpq e v h|rv L z xs h=>exact .rv L z xs h|nils=>exact .nils|sl b z off len cap i o c k h h' hc=>
  have hb:∃p,τ0 b=some p:=by cases h0<;>exact⟨_,by assumption⟩
  obtain⟨p,hp⟩:=hb;exact .sl b z off len cap i o c (by rw[d b _ hp];exact k) h h' hc
 |sl0 b z off len cap k h h' hc=>
  have hb:∃p,τ0 b=some p:=by cases h0<;>exact⟨_,by assumption⟩
  obtain⟨p,hp⟩:=hb;exact .sl0 b z off len cap (by rw[d b _ hp];exact k) h h' hc
 |lst t L clip v k hc=>exact .lst t L clip v k hc|agg l xs e1 _ n=>
  cases h0 with
  |agg _ ys e2 h2=>refine .agg l xs e1 fun i a x j hx=>?_;grind
 |tup l xs e1 _ n=>
  cases h0 with
  |tup _ ys e2 h2=>refine .tup l xs e1 fun i a x j hx=>?_;grind
 |fn f l m xs ys e1 _ e2 _ B C=>
  cases h0 with
  |fn _ _ _ E G e3 k3 e4 k4=>refine .fn f l m xs ys e1 (fun i a x j hx=>?_) e2 (fun i a x j hx=>?_);grind;grind
 |nilf=>exact .nilf|map b i o k=>
  cases h0 with
  |map _ A o' k'=>exact .map b i o (by rw[d b _ k'];exact k)
 |nilm=>exact .nilm|iface t v x _ n=>
  cases h0 with
  |iface _ _ x' h'=>exact .iface t v x (n h')
 |nili=>exact .nili|yld ks vs g nt ps as bo i tms pr db hF hp _ n=>
  cases h0 with
  |yld _ _ _ _ _ _ _ i0 q D y _ _ k0=>exact .yld ks vs g nt ps as bo i tms pr db hF hp fun k a j=>n k a j (k0 k a j)
def BD.re {τ0:Tau}{x:B4}{o0 k:Nat}{t m:Blk}(h0:BD P U τ0 F0 o0 x t)(h1:BD P U τ1 F1 k x m)(d:∀b p,τ0 b=some p->τ2 b=τ1 b):BD P U τ2 F1 k x m:=by
 cases x with
 |cells l e z=>obtain⟨q,n0,_,_,k0⟩:=h0;obtain⟨cs,n,e1,e2,k1⟩:=h1;refine⟨cs,n,e1,e2,fun j a h=>?_⟩;obtain⟨x,hx,hv⟩:=k1 j a h;obtain⟨x0,_,g⟩:=k0 j a h;exact⟨x,hx,g.re hv d⟩
 |rows L e z ph=>exact h1|map L kt vt=>exact h1|iter s p=>exact h1|reg r L z=>obtain⟨_,k0,_⟩:=h0;obtain⟨e0,k1,k2⟩:=h1;exact⟨e0,(d _ _ k0).trans k1,k2⟩
def E9 (P:Aw)(U:Ab)(x:B4):Prop:=∃L e z ph,x= .rows L e z ph/\L.toR U=[]/\z=(kf P e).length/\ph.toI U<=0
theorem SD.rebase {F:Ac}{s1 s2:SS}{hp:Hp}(hs:SD P U τ1 F s1 hp)(g:Nat->Nat)(h:∀b x,s2.get b=some x-> ∃x',s1.get (g b)=some x'/\τ2 b=τ1 (g b)/\(∀i o y,τ1 (g b)=some (some (i,o))->hp.m.get i=some y->BD P U τ1 F o x' y->BD P U τ2 F o x y)/\(E9 P U x'->E9 P U x))(hg:∀b c x y,s2.get b=some x->s2.get c=some y->b≠c->g b≠g c)(hlt:∀b i o,τ2 b=some (some (i,o))->i<hp.nx)(hn:∀b,s2.nx<=b->τ2 b=none)(hf:FT U s2.fc)(hz:∀r∈s2.fz,Jj P U τ2 F r):SD P U τ2 F s2 hp:=by refine⟨fun b x hb=>?_,fun b c x y i o j q hb hc d e1 e2=>?_,hs.frz,hlt,hs.flt,hn,hf,hz⟩;obtain⟨x',h1,h2,h3,h4⟩:=h b x hb;rcases hs.live _ _ h1 with⟨i,o,y,k1,k2,k3,k4⟩| ⟨k1,k2⟩;grind;exact .inr ⟨by grind,h4 k2⟩;obtain⟨x',h1,h2,_⟩:=h b x hb;obtain⟨e,k1,k2,_⟩:=h c y hc;rw[h2]at e1;rw[k2]at e2;exact hs.inj _ _ x' e i o j q h1 k1 (hg b c x y hb hc d) e1 e2
inductive G where
 |keep
 |any
 |int (k:IntKind)
 |bool
 |str
 |lst (t:Ax)
 |acc (e:Ax) (z:Nat)
 |clp (t:Ax)
 |itr (s:E)
 |cel (k:IntKind) (t:Ax)
 |mac (kt vt:Ax)
 |rwk (b:Nat) (e:Ax) (z:Nat) (ph:E)
 |rpt
 |rgk (b z:Nat)
 |rgl (z:Nat)
 |pp (t:Ax)
def G.so :G->Bb So
 | .int _=>some .i| .bool=>some .b| .str=>some .s| .lst _=>some .l| .clp _=>some .l| .acc _ _=>some .l| .itr _=>some .i| .cel _ _=>some .i| .mac _ _=>some .l| .rwk _ _ _ _=>some .l| .rpt=>some .i| .rgk _ _=>some .l| .rgl _=>some .l| .pp _=>some .l|_=>none
def G.na :G->Nat
 | .acc _ _=>1| .itr _=>1| .cel _ _=>1| .mac _ _=>1|_=>0
def wk1 :E->Cp->Cp
 | .int 1,.ex (.int 1)=>.un|_,c=>c
def gM :SV->Cp
 | .nils=>.ge| .sl _ _ _ n (.ex c)=>wk1 n (.ex c)| .sl _ _ _ _ .ge=>.ge|_=>.un
def phOf (L:E):Cp->E
 | .ex c=>c| .ge=>A7 L| .un=>A7 L
def tv (g:G)(a:SV)(e:E)(b:Nat):SV:=match g with
 | .keep=>a| .any=>.any| .int k=>.int k e| .bool=>.bool e| .str=>.str e| .lst t=>.lst t e false| .clp t=>.lst t e true| .acc _ z=>.sl b z (.int 0) (A7 e) (gM a)| .itr _=>.ptr b 1 (.int 0) 0| .cel _ _=>.ptr b 1 (.int 0) 0| .mac _ _=>.map b| .rwk _ _ _ _=>.any| .rpt=>.rpq e| .rgk _ _=>.any| .rgl z=>.rv e z| .pp t=>.pptr t e (.int 0) 0
def G.blk (g:G)(a:SV)(d:E):Bb B4:=match g with
 | .acc e z=>some (.rows d e z (phOf d (gM a)))| .itr s=>some (.iter s d)| .cel k t=>some (.cells [.int k d] t 1)| .mac kt vt=>some (.map d kt vt)|_=>none
def G.fix (g:G)(d:E):Bb (Nat×B4):=match g with
 | .rwk b e z ph=>some (b,.rows d e z ph)| .rgk b z=>some (b,.reg b d z)|_=>none
def hd1 :Au->E
 | []=>.int 0|e::_=>e
def tl1 :Au->Au
 | []=>[]
 |_::l=>l
def pop (g:G)(es:Au):Au:=match g.so with
 |some _=>tl1 es|none=>es
inductive At where
 |tmp (t:Nat)
 |cell (b j:Nat)
 |no
structure Pl where
 at_:At
 g:G
 a:SV
def cZ :List Pl->Au->Nat->List (At×SV)
 | [],_,_=>[]
 |p::l,es,b=>(p.at_,tv p.g p.a (hd1 es) b)::cZ l (pop p.g es) (b+p.g.na)
def fX :List Pl->Au->Nat->List (Nat×Bb B4)
 | [],_,_=>[]
 |p::l,es,b=>match p.g.blk p.a (hd1 es)with
  |some X=>(b,some X)::fX l (pop p.g es) (b+p.g.na)|none=>match p.g.fix (hd1 es)with
   |some q=>(q.1,some q.2)::fX l (pop p.g es) (b+p.g.na)|none=>fX l (pop p.g es) (b+p.g.na)
def LN {U:Ab}{len:E}{cap:Cp}{c:Nat}(h:mY U len cap c):mY U len (wk1 len cap) c:=by unfold wk1;split;obtain⟨_,h1,h2,_⟩:=h;exact .inl ⟨h2,h1,by show(1:Int)<=67108864;decide⟩;exact h
def SW {len e:E}{cap:Cp}(h:wk1 len cap= .ex e):cap= .ex e:=by unfold wk1 at h;split at h;cases h;exact h
def VD.wk1 {P:Aw}{U:Ab}{τ:Tau}{F:Ac}{b z:Nat}{off len:E}{cap:Cp}{x:Av}(h:VD P U τ F (.sl b z off len cap) x):VD P U τ F (.sl b z off len (wk1 len cap)) x:=by
 cases h with
 |sl _ _ _ _ _ i o c k h0 h1 hc=>exact .sl b z off len _ i o c k h0 h1 (LN hc)|sl0 _ _ _ _ _ k h0 h1 hc=>exact .sl0 b z off len _ k h0 h1 fun e he=>hc e (SW he)
def rC (P:Aw)(U:Ab)(g:G)(v:SV):M SV:=match g with
 | .lst t=>b9 (wY P U 20 (.sl t) v) fun e=>i3 (.lst t e false)
 | .clp t=>match v with
  | .lst t' L c=>bif c then i3 (.lst t' L c)else a8 "a list with room behind it"| .nils=>i3 (.lst t (.op .nil []) true)| .sl b z off len (.ex c)=>b9 (l8 U (F7 c len)) fun _=>b9 (wY P U 20 (.sl t) (.sl b z off len (.ex c))) fun e=>i3 (.lst t e true)
  |_=>a8 "a slice with room behind it"
 | .acc e z=>match v with
  | .sl b z' off len cap=>b9 (yP P b) fun _=>i3 (.sl b z' off len (wk1 len cap))
  | .nils=>bif Nat.beq z (kf P e).length then b9 (cM (.rows (.op .nil []) e z (.int 0))) fun b=>i3 (.sl b z (.int 0) (.int 0) .ge)else a8 "loop: cells"
  |_=>a8 "loop: no slice"
 | .pp t=>match v with
  | .ptr b z (.int 0) 0=>p9 fun s=>match s.get b with
   |some (.cells _ _ _)=>b9 (wY P U 20 (.sl t) (.sl b z (.int 0) (.int 1) (.ex (.int 1)))) fun e=>b9 (l8 U (F7 (A7 e) (.int 1))) fun _=>i3 (.pptr t e (.int 0) 0)
   |_=>i3 v
  |_=>i3 v
 |_=>i3 v
def norm (P:Aw)(U:Ab):List Pl->As->M (As)
 |p::l,v::vs=>b9 (rC P U p.g v) fun v'=>b9 (norm P U l vs) fun vs'=>i3 (v'::vs')
 | [],[]=>i3 []|_,_=>a8 "loop: places"
def svp :SV->SV->Bool
 | .ptr b z (.int m) f,.ptr b' z' (.int m') f'=>Nat.beq b b'&&Nat.beq z z'&&decide (m=m')&&Nat.beq f f'| .nilp,.nilp=>true| .nilf,.nilf=>true| .nilm,.nilm=>true| .nili,.nili=>true| .nils,.nils=>true| .map b,.map b'=>Nat.beq b b'| .int k (.int m),.int k' (.int m')=>decide (k=k')&&decide (m=m')|_,_=>false
def Of :As->As->Bool
 | [],[]=>true|a::l,b::m=>svp a b&&Of l m|_,_=>false
def svk (a v:SV):Bool:=svp a v||match a,v with
 | .fn f l m,.fn g l' m'=>decide (f=g)&&Of l l'&&Of m m'|_,_=>false
def Oe {v:SV}(h:svp a v=true):a=v:=by
 unfold svp at h;split at h<;>first
  |rfl
  |cases h
  | (simp at h
     obtain⟨⟨⟨rfl,rfl⟩,rfl⟩,rfl⟩:=h;rfl)
  | (simp at h
     rfl)
  | (rw[Tp h])
def BW :∀ {l m:As},Of l m=true->l=m
 | [],[],_=>rfl| [],_::_,h=>by cases h
 |_::_,[],h=>by cases h
 |a::l,b::m,h=>by unfold Of at h;rw[Tl]at h;rw[Oe h.1,BW h.2]
def SO {v:SV}(h:svk a v=true):a=v:=by unfold svk at h;rw[UK]at h;rcases h with h|h;exact Oe h;split at h;simp at h;rw[h.1.1,BW h.1.2,BW h.2];cases h
def mt1 (U:Ab)(g:G)(a v:SV):M (Bb E×Ai):=match g with
 | .keep=>bif svk a v then i3 (none,none)else a8 "loop: a place that has changed"| .any=>i3 (none,none)| .int k=>match v with
  | .int k' e=>bif decide (k=k')then i3 (some e,none)else a8 "loop: kind"|_=>a8 "loop: no int"
 | .bool=>match v with
  | .bool e=>i3 (some e,none)|_=>a8 "loop: no bool"
 | .str=>match v with
  | .str e=>i3 (some e,none)|_=>a8 "loop: no string"
 | .lst t=>match v with
  | .lst t' L _=>bif Nat.beq t t' then i3 (some L,none)else a8 "loop: type"|_=>a8 "loop: no list"
 | .clp t=>match v with
  | .lst t' L c=>bif c&&Nat.beq t t' then i3 (some L,none)else a8 "loop: type"|_=>a8 "loop: no list"
 | .acc e z=>match v with
  | .sl b z' (.int m) len cap=>p9 fun s=>match s.get b with
   | some (.rows L e' z'' ph) => bif Nat.beq e e' && Nat.beq z z' && Nat.beq z z'' && decide (m = 0) then
     b9 (l8 U (y5 (y8 (A7 L) len))) fun _=>b9 (Z0 U L (.int 0) len) fun d=>match gM a,cap with
      | .un,.ge=>i3 (some d,some b)| .un,.un=>i3 (some d,some b)| .ge,.ge=>i3 (some d,some b)| .un,.ex c'=>b9 (l8 U (F7 c' len)) fun _=>b9 (l8 U (y8 len (.int 67108865))) fun _=>i3 (some d,some b)
      | .ex c,.ex c'=>b9 (l8 U (F7 c' c)) fun _=>b9 (l8 U (y5 (y8 ph c))) fun _=>i3 (some d,some b)
      |_,_=>a8 "loop: capacity"
    else a8 "loop: slice"
   |_=>a8 "loop: block"
  |_=>a8 "loop: no slice"
 | .itr s0=>match v with
  | .ptr b z (.int m) f=>p9 fun s=>match s.get b with
   |some (.iter s' pos)=>bif Nat.beq z 1&&decide (m=0)&&Nat.beq f 0 then b9 (l8 U (nL s' s0)) fun _=>i3 (some pos,some b)else a8 "loop: iterator"
   |_=>a8 "loop: block"
  |_=>a8 "loop: no iterator"
 | .cel k t=>match v with
  | .ptr b z (.int m) f=>p9 fun s=>match s.get b with
   |some (.cells [.int k' e] t' z')=>bif Nat.beq z 1&&decide (m=0)&&Nat.beq f 0&&Nat.beq z' 1&&Nat.beq t t'&&decide (k=k')then i3 (some e,some b)else a8 "loop: cell"|_=>a8 "loop: block"
  |_=>a8 "loop: no cell"
 | .mac kt vt=>match v with
  | .map b=>p9 fun s=>match s.get b with
   |some (.map L kt' vt')=>bif Nat.beq kt kt'&&Nat.beq vt vt' then i3 (some L,some b)else a8 "loop: map"|_=>a8 "loop: block"
  |_=>a8 "loop: no map"
 | .rwk b e z ph=>p9 fun s=>match s.get b with
  |some (.rows L e' z' ph')=>bif Nat.beq e e'&&Nat.beq z z' then b9 (l8 U (y5 (y8 ph' ph))) fun _=>i3 (some L,none)else a8 "loop: rows"
  |_=>a8 "loop: no rows"
 | .rpt=>match v with
  | .rpq e=>i3 (some e,none)| .rp e 0=>i3 (some e,none)| .nilp=>i3 (some (.int (-1)),none)|_=>a8 "loop: no pointer to a row"
 | .pp t=>match v with
  | .pptr t' L row 0=>bif Nat.beq t t' then i3 (some (.op .part [L,row,.int 1]),none)else a8 "pointer: type"|_=>a8 "no pointer to a value"
 | .rgl z=>match v with
  | .rv L z'=>bif Nat.beq z z' then i3 (some L,none)else a8 "rows: size"|_=>a8 "rows"
 | .rgk b z=>p9 fun s=>match s.get b with
  |some (.reg r L z')=>bif Nat.beq r b&&Nat.beq z z' then i3 (some L,none)else a8 "loop: rows"|_=>a8 "loop: no rows"
variable (U) in
def nX :So->E->E->Prop
 | .i,e,d=>e.toI U=d.toI U| .b,e,d=>(e.den U).toBool=(d.den U).toBool| .s,e,d=>(e.den U).toStr=(d.den U).toStr| .l,e,d=>e.toR U=d.toR U
variable {τ :Tau}{F:Ac}{s:SS}{hp:Hp}
variable (P U) in
def Le (τ:Tau)(F:Ac)(s:SS)(so:So)(mk:E->Bb B4)(r:Bb E×Ai):Prop:=
 ∃b L x',r.2=some b/\r.1=some L/\s.get b=some x'/\ ∀d,nX U so L d-> ∃X,mk d=some X/\
  (∀(τ2:Tau) o y,BD P U τ F o x' y->BD P U τ2 F o X y)/\(E9 P U x'->E9 P U X)
variable (P U) in
def Ra (τ:Tau)(F:Ac)(s:SS)(g:G)(r:Bb E×Ai):Prop:=
 ∀d0 p,g.fix d0=some p->g.so=some .l/\ ∃L x',r.1=some L/\s.get p.1=some x'/\ ∀d,nX U .l L d-> ∃X,g.fix d=some (p.1,X)/\
  (∀(τ2:Tau) o y,τ2 p.1=τ p.1->BD P U τ F o x' y->BD P U τ2 F o X y)/\(E9 P U x'->E9 P U X)
variable (P U) in
def MtOK (τ0:Tau)(τ:Tau)(F:Ac)(s:SS)(g:G)(a v:SV)(r:Bb E×Ai):Prop:=
 (∀so,g.so=some so-> ∃e,r.1=some e)/\(g.so=none->r.1=none)/\(g.na=0->r.2=none)/\
 (∀x,VD P U τ F v x-> ∀(τ2:Tau) (nb:Nat) (d:E),(∀b p,τ0 b=some p->τ2 b=τ b)->(∃F0 x0,VD P U τ0 F0 a x0)->(∀e so,r.1=some e->g.so=some so->nX U so e d)->(∀b,r.2=some b->τ2 nb=τ b)->VD P U τ2 F (tv g a d nb) x)/\
 (g.na≠0-> ∃so,g.so=some so/\Le P U τ F s so (g.blk a) r)/\Ra P U τ F s g r
theorem Gi (τ0:Tau)(g:G)(a v:SV):OKp U (mt1 U g a v) s fun r=>∀s',s'.h=s.h->MtOK P U τ0 τ F s' g a v r:=by
 cases g with
 |keep=>
  simp only[mt1];cases h:svk a v with
  |false=>exact VE|true=>have:=SO h;subst this;exact VJ fun s' _=>⟨fun so h=>(by cases h),fun _=>rfl,fun _=>rfl,fun x hx τ2 nb d hk ⟨F0,x0,h0⟩ _ _=>h0.re hx hk,fun h=>absurd rfl h,fun A p h=>(by cases h)⟩
 |any=>simp only[mt1];exact VJ fun s' _=>⟨fun so h=>(by cases h),fun _=>rfl,fun _=>rfl,fun x hx τ2 nb d hk _ _ _=>.any x,fun h=>absurd rfl h,fun A p h=>(by cases h)⟩
 |int k=>
  simp only[mt1];split
  ·rename_i k' e;cases h:decide (k=k')with
   |false=>exact VE|true=>
    rw[TI]at h;subst h;refine VJ fun s' _=>⟨fun so h=>⟨e,rfl⟩,fun h=>(by cases h),fun _=>rfl,fun x hx τ2 nb d hk _ q _=>?_,fun h=>absurd rfl h,fun A p h=>(by cases h)⟩
    have:=q e .i rfl rfl;cases hx;show VD P U τ2 F (.int k d) _;rw[show e.toI U=d.toI U from this];exact .int k d
  exact VE
 |bool=>
  simp only[mt1];split
  ·rename_i e;refine VJ fun s' _=>⟨fun so h=>⟨e,rfl⟩,fun h=>(by cases h),fun _=>rfl,fun x hx τ2 nb d hk _ q _=>?_,fun h=>absurd rfl h,fun A p h=>(by cases h)⟩
   have:=q e .b rfl rfl;cases hx;show VD P U τ2 F (.bool d) _;rw[show(e.den U).toBool=(d.den U).toBool from this];exact .bool d
  exact VE
 |str=>
  simp only[mt1];split
  ·rename_i e;refine VJ fun s' _=>⟨fun so h=>⟨e,rfl⟩,fun h=>(by cases h),fun _=>rfl,fun x hx τ2 nb d hk _ q _=>?_,fun h=>absurd rfl h,fun A p h=>(by cases h)⟩
   have:=q e .s rfl rfl;cases hx;show VD P U τ2 F (.str d) _;rw[show(e.den U).toStr=(d.den U).toStr from this];exact .str d
  exact VE
 |lst t=>
  simp only[mt1];split
  ·rename_i t' L clip;cases h:Nat.beq t t' with
   |false=>exact VE|true=>
    have:=Tp h;subst this;refine VJ fun s' _=>⟨fun so h=>⟨L,rfl⟩,fun h=>(by cases h),fun _=>rfl,fun x hx τ2 nb d hk _ q _=>?_,fun h=>absurd rfl h,fun A p h=>(by cases h)⟩
    have:=q L .l rfl rfl;cases hx with
    |lst _ _ _ _ hp hc=>exact .lst t d false x (by rw[<-show L.toR U=d.toR U from this];exact hp) (fun h=>by cases h)
  exact VE
 |clp t=>
  simp only[mt1];split
  ·rename_i t' L clip;cases h:clip&&Nat.beq t t' with
   |false=>exact VE|true=>
    rw[Tl]at h;obtain⟨rfl,h⟩:=h;have:=Tp h;subst this;refine VJ fun s' _=>⟨fun so h=>⟨L,rfl⟩,fun h=>(by cases h),fun _=>rfl,fun x hx τ2 nb d hk _ q _=>?_,fun h=>absurd rfl h,fun A p h=>(by cases h)⟩
    have:=q L .l rfl rfl;cases hx with
    |lst _ _ _ _ hp hc=>exact .lst t d true x (by rw[<-show L.toR U=d.toR U from this];exact hp) hc
  exact VE
 |itr s0=>
  simp only[mt1];split
  ·rename_i b z m f;refine VI ?_;split
   ·rename_i s' pos hb;cases hc:Nat.beq z 1&&decide (m=0)&&Nat.beq f 0 with
    |false=>exact VE|true=>
     simp only[Tl,Ub,TI]at hc;obtain⟨⟨rfl,rfl⟩,rfl⟩:=hc;refine OKp.need.bind fun _ s1 o1 _ n1=>VJ fun s2 N=>?_;have ac:(s'.den U).toStr=(s0.den U).toStr:=by have:=(Vq U _).1 n1;rw[V6]at this;grind
     refine⟨fun so h=>⟨pos,rfl⟩,fun h=>(by cases h),fun h=>(by cases h),fun x hx τ2 nb d hk _ q B=>?_,fun _=>⟨.i,rfl,b,pos,.iter s' pos,rfl,rfl,by unfold SS.get;rw[N];exact hb,fun d q=>⟨_,rfl,?_,?_⟩⟩,fun A p h=>(by cases h)⟩
     ·cases hx with
      |ptr _ _ _ _ i o h h0=>exact .ptr nb 1 (.int 0) 0 i o (by rw[B b rfl];exact h) h0
     rintro τ2 o y ⟨e0,n,e1,e2⟩;exact⟨e0,n,by rw[<-ac];exact e1,by rw[<-e2];exact q.symm⟩;rintro ⟨L,e,z,ph,h,_⟩;cases h
   exact VE
  exact VE
 |mac kt vt=>
  simp only[mt1];split
  ·rename_i b;refine VI ?_;split
   ·rename_i L aj al hb;cases hc:Nat.beq kt aj&&Nat.beq vt al with
    |false=>exact VE|true=>
     simp only[Tl,Ub]at hc;obtain⟨rfl,rfl⟩:=hc;refine VJ fun s2 N=>?_;refine⟨fun so h=>⟨L,rfl⟩,fun h=>(by cases h),fun h=>(by cases h),fun x hx τ2 nb d hk _ q B=>?_,fun _=>⟨.l,rfl,b,L,.map L kt vt,rfl,rfl,by unfold SS.get;rw[N];exact hb,fun d q=>⟨_,rfl,?_,?_⟩⟩,fun A p h=>(by cases h)⟩
     ·cases hx with
      |map _ i o h=>exact .map nb i o (by rw[B b rfl];exact h)
     rintro τ2 o y ⟨h0,es,reg,h1,h2⟩;exact⟨h0,es,reg,h1,by rw[<-show L.toR U=d.toR U from q];exact h2⟩;rintro ⟨L,e,z,ph,h,_⟩;cases h
   exact VE
  exact VE
 |cel k t=>
  simp only[mt1];split
  ·rename_i b z m f;refine VI ?_;split
   ·rename_i k' e t' K hb;cases hc:Nat.beq z 1&&decide (m=0)&&Nat.beq f 0&&Nat.beq K 1&&Nat.beq t t'&&decide (k=k')with
    |false=>exact VE|true=>
     simp only[Tl,Ub,TI]at hc;obtain⟨⟨⟨⟨⟨rfl,rfl⟩,rfl⟩,rfl⟩,rfl⟩,rfl⟩:=hc;refine VJ fun s2 N=>?_;refine⟨fun so h=>⟨e,rfl⟩,fun h=>(by cases h),fun h=>(by cases h),fun x hx τ2 nb d hk _ q B=>?_,fun _=>⟨.i,rfl,b,e,.cells [.int k e] t 1,rfl,rfl,by unfold SS.get;rw[N];exact hb,fun d q=>⟨_,rfl,?_,?_⟩⟩,fun A p h=>(by cases h)⟩
     ·cases hx with
      |ptr _ _ _ _ i o h h0=>exact .ptr nb 1 (.int 0) 0 i o (by rw[B b rfl];exact h) h0
     ·rintro τ2 o y ⟨cs,n,e0,e1,e2⟩;refine⟨cs,n,e0,e1,fun j a u=>?_⟩;have hj:j=0:=by grind
      subst hj;obtain⟨x,h1,h2⟩:=e2 0 (.int k e) rfl;simp at u;subst u;refine⟨x,h1,?_⟩;cases h2;rw[show e.toI U=d.toI U from q];exact .int k d
     rintro ⟨L,e,z,ph,h,_⟩;cases h
   exact VE
  exact VE
 |rpt=>
  simp only[mt1];split
  ·rename_i e;refine VJ fun s' _=>⟨fun so h=>⟨e,rfl⟩,fun h=>(by cases h),fun _=>rfl,fun x hx τ2 nb d hk _ q _=>?_,fun h=>absurd rfl h,fun A p h=>(by cases h)⟩
   have:=q e .i rfl rfl;cases hx with
   |rpq _ _ h=>exact .rpq d x (by rw[<-show e.toI U=d.toI U from this];exact h)
  ·rename_i e;refine VJ fun s' _=>⟨fun so h=>⟨e,rfl⟩,fun h=>(by cases h),fun _=>rfl,fun x hx τ2 nb d hk _ q _=>?_,fun h=>absurd rfl h,fun A p h=>(by cases h)⟩
   have:=q e .i rfl rfl;cases hx with
   |rp _ _ h0=>exact .rpq d _ (by rw[<-show e.toI U=d.toI U from this,show e.toI U=((e.toN U:Nat):Int) by show e.toI U=((e.toI U).toNat:Int);omega];exact .rp _)
  ·refine VJ fun s' _=>⟨fun so h=>⟨_,rfl⟩,fun h=>(by cases h),fun _=>rfl,fun x hx τ2 nb d hk _ q _=>?_,fun h=>absurd rfl h,fun A p h=>(by cases h)⟩
   have:=q _ .i rfl rfl;cases hx with
   |nilp=>exact .rpq d _ (by rw[<-show(-1:Int)=d.toI U from this];exact .rpn)
  exact VE
 |pp t=>
  simp only[mt1];split
  ·rename_i t' L row;cases h:Nat.beq t t' with
   |false=>exact VE|true=>
    have:=Tp h;subst this;refine VJ fun s' _=>⟨fun so h=>⟨_,rfl⟩,fun h=>(by cases h),fun _=>rfl,fun x hx τ2 nb d hk _ q _=>?_,fun h=>absurd rfl h,fun A p h=>(by cases h)⟩
    have q:=q _ .l rfl rfl;have q:pQ (L.toR U) (row.toI U) 1=d.toR U:=q;cases hx with
    |pptr _ _ _ _ i o l c hp h0 h1=>
     generalize ai:L.toR U=rows at hp h1 q;cases hp with
     |sl _ _ _ _ b cs n z rows xx hF hb hc hn hz hr hx ah=>
      have C:xQ (1:Int).toNat c/\roC b c _ z:=⟨by rcases hc.1 with⟨q1,q2⟩| ⟨lo,q1,q2,q3⟩;exact .inl ⟨q1,by have:(1:Int).toNat=1:=rfl;omega⟩;exact .inr ⟨lo,q1,q2,by have:(1:Int).toNat=1:=rfl;omega⟩,hc.2⟩
      have:=PV.cut (P:=P) (F:=F) hF hb hn hz hr hx ah h0 (show(0:Int)<=1 by omega) (by omega) C;rw[q]at this;have Y:((d.toR U).length:Int)=1:=by rw[<-q,W9 h0 (by omega) (by omega)];rfl
      exact VD.pptr' (row:= .int 0) this (Uy 0) (by rw[B7];omega) (by rw[<-hz];show _=o+(row.toI U).toNat*z+(0:Int).toNat*z+0;simp)
  exact VE
 |rgl z=>
  simp only[mt1];split
  ·rename_i L K;cases h:Nat.beq z K with
   |false=>exact VE|true=>
    have:=Tp h;subst this;refine VJ fun s' _=>⟨fun so h=>⟨L,rfl⟩,fun h=>(by cases h),fun _=>rfl,fun x hx τ2 nb d hk _ q _=>?_,fun h=>absurd rfl h,fun A p h=>(by cases h)⟩
    have:=q L .l rfl rfl;cases hx with
    |rv _ _ xs hp=>exact .rv d z xs (by rw[<-show L.toR U=d.toR U from this];exact hp)
  exact VE
 |rgk b z=>
  simp only[mt1];refine VI ?_;split
  ·rename_i r L K hb;cases hc:Nat.beq r b&&Nat.beq z K with
   |false=>exact VE|true=>simp only[Tl,Ub]at hc;obtain⟨rfl,rfl⟩:=hc;rw[TE];refine VJ fun s' M=>?_;refine⟨fun so h=>⟨L,rfl⟩,fun h=>(by cases h),fun _=>rfl,fun x hx τ2 nb d hk _ _ _=>.any x,fun h=>absurd rfl h,fun A p h=>⟨rfl,L,.reg r L z,rfl,?_,fun d q=>⟨.reg r d z,?_,?_,?_⟩⟩⟩;simp only[G.fix,Tk]at h;subst h;unfold SS.get;rw[M];exact hb;simp only[G.fix,Tk]at h;subst h;rfl;simp only[G.fix,Tk]at h;subst h;rintro τ2 o y ht ⟨e0,e1,cs,h1,h2⟩;have J:L.toR U=d.toR U:=q;exact⟨e0,ht.trans e1,cs,by rw[<-J];exact h1,by rw[<-J];exact h2⟩;rintro ⟨L',e',K,ak,h1,h2,h3,h4⟩;cases h1
  exact VE
 |rwk b e z ph=>
  simp only[mt1];refine VI ?_;split
  ·rename_i L e' K T hb;cases hc:Nat.beq e e'&&Nat.beq z K with
   |false=>exact VE|true=>
    simp only[Tl,Ub]at hc;obtain⟨rfl,rfl⟩:=hc;rw[TE];refine OKp.need.bind fun _ s1 o1 _ n1=>VJ fun s' M=>?_;have R:=A4 n1;refine⟨fun so h=>⟨L,rfl⟩,fun h=>(by cases h),fun _=>rfl,fun x hx τ2 nb d hk _ _ _=>.any x,fun h=>absurd rfl h,fun A p h=>⟨rfl,L,.rows L e z T,rfl,?_,fun d q=>⟨.rows d e z ph,?_,?_,?_⟩⟩⟩;simp only[G.fix,Tk]at h;subst h;unfold SS.get;rw[M];exact hb;simp only[G.fix,Tk]at h;subst h;rfl
    ·rintro τ2 o y _ ⟨cs,n,h1,h2,h3⟩;have J:L.toR U=d.toR U:=q;refine⟨cs,n,h1,by rw[<-J];exact h2,?_⟩;have:ph.toN U<=T.toN U:=by show(ph.toI U).toNat<=(T.toI U).toNat;omega
     have:=Ty z this;omega
    rintro ⟨L',e',K,ak,h1,h2,h3,h4⟩;have J:L.toR U=d.toR U:=q;cases h1;exact⟨d,e,z,ph,rfl,by rw[<-J];exact h2,h3,by omega⟩
  exact VE
 |acc e z=>
  simp only [mt1];split
  ·rename_i b K m len cap;refine VI ?_;split
   ·rename_i L e' ao ph hb;cases hc:Nat.beq e e'&&Nat.beq z K&&Nat.beq z ao&&decide (m=0)with
    |false=>exact VE|true=>
     simp only[Tl,Ub,TI]at hc;obtain⟨⟨⟨rfl,rfl⟩,rfl⟩,rfl⟩:=hc;rw[TE];refine OKp.need.bind fun _ s1 o1 _ n1=>C3.bind fun D s2 o2 _ hD=>?_;have aq:len.toI U<=((L.toR U).length:Int):=by have:=A4 n1;rwa[j2]at this
     have ab:D.toR U=(L.toR U).take (len.toN U):=by show(D.den U).rows=_;rw[hD];show pQ (L.toR U) 0 (len.toI U)=_;unfold pQ;simp
     have O:∀(C:∀(c:Nat) (n:E),n.toI U=len.toI U->mY U len cap c->mY U n (gM a) c) (W:∀c,gM a= .ex c-> ∃c',cap= .ex c'/\c'.toI U=c.toI U)
       (R:∀c,gM a= .ex c->c.toI U<=ph.toI U) (s':SS),s'.h=s.h->MtOK P U τ0 τ F s' (.acc e z) a (.sl b z (.int 0) len cap) (some D,some b):=by
      intro C W R s' M;have Z:∀ {d:E},nX U .l D d->d.toR U=(L.toR U).take (len.toN U):=fun h=>by rw[<-ab];exact h.symm
      refine⟨fun so _=>⟨D,rfl⟩,fun h=>(by cases h),fun h=>(by cases h),fun x hx τ2 nb d hk _ q B=>?_,fun _=>⟨.l,rfl,?_⟩,fun A p h=>(by cases h)⟩
      ·have J:=Z (q D .l rfl rfl);have aa:=B b rfl;have ap:0<=len.toI U:=by cases hx<;>omega
       have Y:(A7 d).toI U=len.toI U:=by rw[j2,J,TW];grind
       have ae:(A7 d).toN U=len.toN U:=by grind
       cases hx with
       |sl _ _ _ _ _ i o c k1 k2 k3 k4=>show VD P U τ2 F (.sl nb z (.int 0) (A7 d) (gM a)) _;rw[<-ae];exact .sl nb z (.int 0) (A7 d) (gM a) i o c (by rw[aa];exact k1) (Uy 0) (by omega) (C c _ Y k4)|sl0 _ _ _ _ _ k1 k2 k3 k4=>refine .sl0 nb z (.int 0) (A7 d) (gM a) (by rw[aa];exact k1) rfl (by omega) fun c hc=>?_;grind
      ·refine⟨b,D,.rows L e z ph,rfl,rfl,by unfold SS.get;rw[M];exact hb,fun d q=>⟨_,rfl,?_⟩⟩;have J:=Z q;have X:(d.toR U).length<=(L.toR U).length:=by grind
       constructor
       ·rintro τ2 o y ⟨cs,n,h1,⟨h2,h3,h4,h5⟩,h6⟩;refine⟨cs,n,h1,⟨?_,h3,fun r hr=>h4 r ?_,fun r k row dd hr ad=>h5 r k row dd ?_ ad⟩,?_⟩;have:=Ty z X;omega;grind;grind
        ·cases V:gM a with
         |ge=>
          have:(phOf d .ge).toN U=(d.toR U).length:=by show((A7 d).toI U).toNat=_;rw[j2];omega
          rw[this];have:=Ty z X;omega
         |un=>
          have:(phOf d .un).toN U=(d.toR U).length:=by show((A7 d).toI U).toNat=_;rw[j2];omega
          rw[this];have:=Ty z X;omega
         |ex c=>
          have h7:=R c V;have:(phOf d (.ex c)).toN U<=ph.toN U:=by show(c.toI U).toNat<=(ph.toI U).toNat;omega
          have:=Ty z this;omega
       ·rintro ⟨L',e',K,T,h1,h2,h3,h4⟩;cases h1;refine⟨d,e,z,_,rfl,by rw[J,h2];simp,h3,?_⟩;cases V:gM a with
        |ge=>show(A7 d).toI U<=0;rw[j2,J,h2];simp|un=>show(A7 d).toI U<=0;rw[j2,J,h2];simp|ex c=>have h7:=R c V;show c.toI U<=0;omega
     split;rename_i u;refine VJ (O (fun c n hn hc=>?_) (fun c hc=>by rw[u]at hc;cases hc) (fun c hc=>by rw[u]at hc;cases hc));rw[u];obtain⟨lo,h1,h2,h3⟩:=hc;exact Or.inr ⟨lo,h1,h2,by omega⟩;rename_i u;refine VJ (O (fun c n hn hc=>?_) (fun c hc=>by rw[u]at hc;cases hc) (fun c hc=>by rw[u]at hc;cases hc));rw[u];rcases hc with⟨h1,h2,h3⟩| ⟨lo,h1,h2,h3⟩;exact Or.inl ⟨h1,by rw[h2];show(len.toI U).toNat=(n.toI U).toNat;rw[hn],by omega⟩;exact Or.inr ⟨lo,h1,h2,by omega⟩;rename_i u;refine VJ (O (fun c n hn hc=>?_) (fun c hc=>by rw[u]at hc;cases hc) (fun c hc=>by rw[u]at hc;cases hc));rw[u];obtain⟨lo,h1,h2,h3⟩:=hc;exact⟨lo,h1,h2,by omega⟩;rename_i c' u;refine OKp.need.bind fun _ s3 _ _ n2=>OKp.need.bind fun _ s4 _ _ n3=>?_;have e1:=bL n2;have e2:=C7 n3;simp only[B7]at e2;refine VJ (O (fun k n hn hc=>?_) (fun c hc=>by rw[u]at hc;cases hc) (fun c hc=>by rw[u]at hc;cases hc));rw[u];obtain⟨h1,h2,h3,h4⟩:=hc;exact Or.inl ⟨h3,by rw[h2];show(c'.toI U).toNat=(n.toI U).toNat;rw[e1,hn],by omega⟩;rename_i c c' u;refine OKp.need.bind fun _ s3 _ _ n2=>OKp.need.bind fun _ s4 _ _ n3=>?_;have e1:=bL n2;have e2:=A4 n3;refine VJ (O (fun k n hn hc=>?_) (fun c2 hc=>?_) (fun c2 hc=>?_));rw[u];obtain⟨h1,h2,h3,h4⟩:=hc;exact⟨by omega,by rw[h2];show(c'.toI U).toNat=(c.toI U).toNat;rw[e1],h3,by omega⟩;rw[u]at hc;cases hc;exact⟨c',rfl,e1⟩;rw[u]at hc;cases hc;exact e2;exact VE
   exact VE
  exact VE
end
section
variable {P :Aw}{U:Ab}
variable {F:Ac}
def PV.lst_eq {e:Ax}{v:Av}{d:Dat}(h:PV P F (.sl e) v d):d= .lst d.rows:=by cases h<;>rfl
theorem uN {τ:Tau}{s:SS}{hp:Hp}(g:G){v:SV}{x:Av}(hv:VD P U τ F v x)(hs:SD P U τ F s hp):OKh P U (rC P U g v) τ F s hp fun v' τ' F' hp'=>hp'=hp/\VD P U τ' F' v' x:=by
 cases g with
 |lst t=>simp only[rC];refine(bN 20 (.sl t) v x τ F s hp hv hs).bind fun e τ1 F1 s1 hp1 _ hs1 ⟨h1,h2,h3⟩=>VC ⟨h2,?_⟩;have:=h3.lst_eq;rw[this]at h3;exact .lst t e false x h3 (fun h=>by cases h)
 |clp t=>
  simp only[rC];split
  ·rename_i t' L c;cases c with
   |false=>exact VA|true=>exact VC ⟨rfl,hv⟩
  cases hv;exact VC ⟨rfl,.lst t _ true _ (.nils t) (fun _=>⟨_,_,rfl⟩)⟩
  ·rename_i b z off len c;refine Vy VF fun _ s1 q hs1 p1=>?_;have p1:=bL p1;refine(bN 20 (.sl t) _ x τ F s1 hp hv hs1).bind fun e τ1 F1 s2 hp1 _ d ⟨h1,h2,h3⟩=>VC ⟨h2,?_⟩;have:=h3.lst_eq;rw[this]at h3;refine .lst t e true x h3 (fun _=>?_);cases hv with
   |sl _ _ _ _ _ i o c' k1 k2 k3 k4=>obtain⟨u,y,A,B⟩:=k4;grind
   |sl0=>grind
  exact VA
 |acc e z=>
  simp only[rC];split;rename_i b n off len cap;refine(hJ hs).bind fun _ τ1 F1 s1 hp1 _ hs1 ⟨h1,h2,h3⟩=>VC ⟨h3,?_⟩;rw[h1,h2];exact hv.wk1
  ·cases hz:Nat.beq z (kf P e).length with
   |false=>exact VA|true=>rw[TE];have m:=Tp hz;refine OKh.bind (R:=fun b τ' F' hp'=>hp'=hp/\τ' b=some none) ?_ fun b τ1 F1 s1 hp1 _ hs1 ⟨h1,h2⟩=>VC ⟨h1,?_⟩;intro Q hq _;obtain⟨h1,h2⟩:=hs.alloc (x:= .rows (.op .nil []) e z (.int 0)) (p:=none) (hp':=hp) (TK _) (fun _ _=>rfl) (.inr ⟨rfl,_,_,_,_,rfl,rfl,m,Uy 0⟩);exact⟨s.nx,_,hq,_,F,hp,h1,h2,rfl,t6 _ _ _⟩;cases hv;exact .sl0 b z (.int 0) (.int 0) .ge h2 rfl rfl (fun e h=>by cases h)
  exact VA
 |keep=>exact VC ⟨rfl,hv⟩|any=>exact VC ⟨rfl,hv⟩|int k=>exact VC ⟨rfl,hv⟩|bool=>exact VC ⟨rfl,hv⟩|str=>exact VC ⟨rfl,hv⟩|itr s=>exact VC ⟨rfl,hv⟩|cel k t=>exact VC ⟨rfl,hv⟩|mac kt vt=>exact VC ⟨rfl,hv⟩|rwk b e z ph=>exact VC ⟨rfl,hv⟩|pp t=>
  simp only[rC];split
  ·rename_i b z;refine VB ?_;split
   ·rename_i l e n hb;cases hv with
    |ptr _ _ _ _ i o h h0=>
     have j:VD P U τ F (.sl b z (.int 0) (.int 1) (.ex (.int 1))) (.slice (some ⟨i,o+(E.int 0).toN U*z,none⟩) ((E.int 1).toN U) 1):=
      .sl b z (.int 0) (.int 1) (.ex (.int 1)) i o 1 h (Uy 0) (by rw[B7];omega) ⟨by rw[B7];omega,rfl,by unfold unk;omega,Uy _⟩
     refine(bN 20 (.sl t) _ _ τ F s hp j hs).bind fun e τ1 F1 s1 hp1 _ hs1 ⟨h1,h2,h3⟩=>Vy VF fun _ s2 r d p1=>VC ⟨h2,?_⟩;have p1:=bL p1;rw[j2,B7]at p1;have:=h3.lst_eq;rw[this]at h3;exact VD.pptr' (row:= .int 0) h3 (Uy 0) (by rw[B7];show(0:Int)<(e.toR U).length;omega) (by show o+(0:Int).toNat*z+0=o+(0:Int).toNat*z+(0:Int).toNat*_+0;simp)
   exact VC ⟨rfl,hv⟩
  exact VC ⟨rfl,hv⟩
 |rpt=>exact VC ⟨rfl,hv⟩|rgl z=>exact VC ⟨rfl,hv⟩|rgk b z=>exact VC ⟨rfl,hv⟩
theorem Bi :∀(ps:List Pl) (vs:As) (xs:Af) (τ:Tau) (F:Ac) (s:SS) (hp:Hp),VDL P U τ F vs xs->SD P U τ F s hp->OKh P U (norm P U ps vs) τ F s hp fun d τ' F' hp'=>hp'=hp/\VDL P U τ' F' d xs
 | [],[],xs,τ,F,s,hp,hv,hs=>VC ⟨rfl,hv⟩| [],v::vs,xs,τ,F,s,hp,hv,hs=>VA|p::ps,[],xs,τ,F,s,hp,hv,hs=>VA|p::ps,v::vs,xs,τ,F,s,hp,hv,hs=>by obtain⟨y,ys,rfl,h1,h2⟩:=hv.uncons;refine(uN p.g h1 hs).bind fun v' τ1 F1 s1 hp1 ex hs1 ⟨e1,e2⟩=>(Bi ps vs ys τ1 F1 s1 hp1 (h2.mono ex.t ex.f) hs1).bind fun d τ2 h s2 hp2 ex2 e ⟨k1,k2⟩=>VC ⟨by grind,.cons (e2.mono ex2.t ex2.f) k2⟩
def Z1 {α:Type}:Bb α->List α->List α
 |some a,l=>a::l|none,l=>l
def mtP (U:Ab):List Pl->As->M (Au×Ah)
 |p::l,v::vs=>b9 (mt1 U p.g p.a v) fun r=>b9 (mtP U l vs) fun t=>i3 (Z1 r.1 t.1,Z1 r.2 t.2)
 | [],[]=>i3 ([],[])|_,_=>a8 "loop: places"
def sos :List Pl->List So
 | []=>[]
 |p::l=>Z1 p.g.so (sos l)
def rbs :List Pl->Ah
 | []=>[]
 |p::l=>match p.g.fix (.int 0)with
  |some q=>q.1::rbs l|none=>rbs l
def G.fix_num {g:G}{d:E}{q:Nat×B4}(h:g.fix d=some q)(j:E):∃X,g.fix j=some (q.1,X):=by
 cases g with
 |rwk b e z ph=>simp only[G.fix,Tk]at h;subst h;exact⟨_,rfl⟩|rgk b z=>simp only[G.fix,Tk]at h;subst h;exact⟨_,rfl⟩|_=>cases h
variable (U) in
def dK :List So->Au->Au->Prop
 |k::ks,e::es,d::ds=>nX U k e d/\dK ks es ds| [],[],[]=>True|_,_,_=>False
variable (P U) in
def fL (τ0 τ:Tau)(F:Ac)(s:SS):List Pl->As->Au->Ah->Prop
 | [],[],es,bs=>es=[]/\bs=[]
 |p::l,v::vs,es,bs=>∃r es' bs',es=Z1 r.1 es'/\bs=Z1 r.2 bs'/\MtOK P U τ0 τ F s p.g p.a v r/\fL τ0 τ F s l vs es' bs'|_,_,_,_=>False
def Gj {τ:Tau}{F:Ac}(τ0:Tau):∀(ps:List Pl) (vs:As) (s:SS),OKp U (mtP U ps vs) s fun r=>∀s',s'.h=s.h->fL P U τ0 τ F s' ps vs r.1 r.2
 | [],[],s=>VJ fun _ _=>⟨rfl,rfl⟩
 | [],_::_,s=>VE|_::_,[],s=>VE|p::ps,v::vs,s=>by exact(Gi (P:=P) (τ:=τ) (F:=F) τ0 p.g p.a v).bind fun r s1 e _ h1=>(Gj (τ:=τ) (F:=F) τ0 ps vs s1).bind fun t s2 j _ h2=>VJ fun s' d=>⟨r,t.1,t.2,rfl,rfl,h1 s' d,h2 s' (by rw[d,e.h])⟩
section
variable {τ0 τ:Tau}{F:Ac}{s:SS}
def G.blk_none {g:G}(h:g.na=0)(a:SV)(d:E):g.blk a d=none:=by
 cases g with
 |acc e z=>cases h
 |itr s=>cases h
 |cel k t=>cases h
 |mac kt vt=>cases h
 |_=>rfl
def G.na_le (g:G):g.na=0\/g.na=1:=by cases g<;>simp[G.na]
theorem DF {p:Pl}{ps:List Pl}{v:SV}{r:Bb E×Ai}{m:Au}{ds:Au}(h:MtOK P U τ0 τ F s p.g p.a v r)(k:dK U (sos (p::ps)) (Z1 r.1 m) ds):(∀e so,r.1=some e->p.g.so=some so->nX U so e (hd1 ds))/\dK U (sos ps) m (pop p.g ds)/\(∀b,r.2=some b->p.g.na=1)/\(p.g.na=0\/p.g.na=1):=by
 obtain⟨q,t,u,x,y⟩:=h;have n:=p.g.na_le;refine⟨?_,?_,fun b hb=>?_,n⟩
 ·intro e so he j;unfold sos at k;rw[j,he]at k;cases ds with
  |nil=>exact k.elim|cons d ds=>exact k.1
 ·unfold sos at k;cases j:p.g.so with
  |none=>rw[j,t j]at k;unfold pop;rw[j];exact k|some so=>
   obtain⟨e,he⟩:=q so j;rw[j,he]at k;cases ds with
   |nil=>exact k.elim|cons d ds=>unfold pop;rw[j];exact k.2
 grind
theorem fL.vals :∀ {ps:List Pl} {vs:As} {es:Au} {bs:Ah} {ds:Au} {xs:Af} {τ2:Tau} {nb:Nat},fL P U τ0 τ F s ps vs es bs->dK U (sos ps) es ds->(∀b p,τ0 b=some p->τ2 b=τ b)->(∀k b,bs[k]? =some b->τ2 (nb+k)=τ b)->(∀p∈ps,∃F0 x0,VD P U τ0 F0 p.a x0)->VDL P U τ F vs xs-> ∀(i:Nat) q x,(cZ ps ds nb)[i]? =some q->xs[i]? =some x->VD P U τ2 F q.2 x
 | [],vs,es,bs,ds,xs,τ2,nb,h,j,hk,hb,g,hx=>fun i q x hq _=>by simp[cZ]at hq
 |p::ps,[],es,bs,ds,xs,τ2,nb,h,j,hk,hb,g,hx=>h.elim|p::ps,v::vs,es,bs,ds,xs,τ2,nb,h,j,hk,hb,g,hx=>by
  obtain⟨r,t,n,rfl,rfl,hm,m⟩:=h;obtain⟨y,ys,rfl,h1,h2⟩:=hx.uncons;obtain⟨s1,s2,z,u⟩:=DF hm j;intro i q x hq d;cases i with
  |zero=>simp only[cZ,TC,Tk]at hq d;subst hq;subst d;refine hm.2.2.2.1 y h1 τ2 nb (hd1 ds) hk (g p (by simp)) s1 fun b hr=>?_;have:=hb 0 b (by rw[hr];rfl);grind
  |succ i=>refine fL.vals m s2 hk (fun k b e=>?_) (fun p hp=>g p (by grind)) h2 i q x hq d;rcases u with h0|h0;rw[h0,UA];have hr:=hm.2.2.1 h0;rw[hr]at hb;exact hb k b e;obtain⟨so,_,b',L,x',hr,_⟩:=hm.2.2.2.2.1 (by omega);rw[hr]at hb;have:=hb (k+1) b e;grind
theorem fL.blks :∀ {ps:List Pl} {vs:As} {es:Au} {bs:Ah} {ds:Au} {nb:Nat},fL P U τ0 τ F s ps vs es bs->dK U (sos ps) es ds-> ∀b' y,lk (fX ps ds nb) b'=some y->(∃k b X x',b'=nb+k/\bs[k]? =some b/\y=some X/\s.get b=some x'/\(∀(τ2:Tau) o z,BD P U τ F o x' z->BD P U τ2 F o X z)/\(E9 P U x'->E9 P U X))\/(∃X x',b'∈rbs ps/\y=some X/\s.get b'=some x'/\(∀(τ2:Tau) o z,τ2 b'=τ b'->BD P U τ F o x' z->BD P U τ2 F o X z)/\(E9 P U x'->E9 P U X))
 | [],vs,es,bs,ds,nb,h,u=>fun b' y hy=>by simp[fX,lk]at hy
 |p::ps,[],es,bs,ds,nb,h,u=>h.elim|p::ps,v::vs,es,bs,ds,nb,h,u=>by
  obtain⟨r,K,J,rfl,rfl,hm,x⟩:=h;obtain⟨s1,s2,W,T⟩:=DF hm u;intro b' y hy;have C:=fL.blks (nb:=nb+p.g.na) x s2;have sub:∀b,b∈rbs ps->b∈rbs (p::ps):=fun b hb=>by unfold rbs;grind
  by_cases d:p.g.na=0
  ·have hr:r.2=none:=hm.2.2.1 d;cases e:p.g.fix (hd1 ds)with
   |none=>unfold fX at hy;rw[G.blk_none d]at hy;simp only[e]at hy;rcases C b' y hy with⟨k,b,X,x',h1,h2⟩| ⟨X,x',h1,h2⟩;exact Or.inl ⟨k,b,X,x',by rw[h1,d,UA],by rw[hr];exact h2⟩;grind
   |some q=>
    unfold fX at hy;rw[G.blk_none d]at hy;simp only[e]at hy;rw[A0]at hy;split at hy
    ·rename_i e1;obtain⟨m,L,x',k1,k2,k3⟩:=hm.2.2.2.2.2 _ _ e;obtain⟨X,k4,N,O⟩:=k3 (hd1 ds) (s1 L .l k1 m);rw[e]at k4;simp only[Tk]at k4;simp only[Tk]at hy;have R:q.2=X:=by rw[k4]
     rw[R]at hy;subst e1;refine .inr ⟨X,x',?_,hy.symm,k2,N,O⟩;obtain⟨D,M⟩:=G.fix_num e (.int 0);unfold rbs;grind
    rcases C b' y hy with⟨k,b,X,x',h1,h2⟩| ⟨X,x',h1,h2⟩;exact Or.inl ⟨k,b,X,x',by rw[h1,d,UA],by rw[hr];exact h2⟩;grind
  ·have A:p.g.na=1:=T.resolve_left d;obtain⟨so,m,b0,L,x',hr,B,hx,t⟩:=hm.2.2.2.2.1 d;obtain⟨D,V,k1,k2⟩:=t (hd1 ds) (s1 L so B m);have j:lk ((nb,some D)::fX ps (pop p.g ds) (nb+p.g.na)) b'=some y:=by unfold fX at hy;grind
   rw[A0]at j;split at j;rename_i e1;simp only[Tk]at j;exact .inl ⟨0,b0,_,x',e1.symm,by rw[hr];rfl,j.symm,hx,k1,k2⟩;rcases C b' y j with⟨k,b,X,n,h1,h2,h3⟩| ⟨X,n,h1,h2⟩;exact .inl ⟨k+1,b,X,n,by rw[h1,A];omega,by rw[hr];exact h2,h3⟩;grind
theorem mU {b:Nat}:∀ {ps:List Pl} {ds:Au} {nb:Nat},b∈rbs ps->b∈(fX ps ds nb).map Prod.fst
 | [],ds,nb,h=>by simp[rbs]at h|p::ps,ds,nb,h=>by
  unfold rbs at h;cases d:p.g.fix (.int 0)with
  |none=>rw[d]at h;have k:=mU (ds:=pop p.g ds) (nb:=nb+p.g.na) h;unfold fX;grind|some q=>
   rw[d]at h;have hb:p.g.blk p.a (hd1 ds)=none:=by
    cases hg:p.g with
    |rwk b e z ph=>rfl|rgk b z=>rfl|_=>rw[hg]at d;cases d
   obtain⟨X,j⟩:=G.fix_num d (hd1 ds);unfold fX;rw[hb,j];simp only[Um,TZ]at h⊢;rcases h with h|h;grind;exact .inr (mU (ds:=pop p.g ds) (nb:=nb+p.g.na) h)
end
end
def vW :List (At×SV)->Fm
 | []=>[]
 | (p,v)::l=>match p with
  | .tmp t=>(t,v)::vW l| .cell _ _=>vW l| .no=>vW l
def FO (b j:Nat):At->Bool
 | .tmp _=>false| .cell b' j'=>Nat.beq b b'&&Nat.beq j j'| .no=>false
def oW :List (At×SV)->Nat->Nat->SV
 | [],_,_=>.any| (p,v)::l,b,j=>bif FO b j p then v else oW l b j
def L2 (pv:List (At×SV))(b:Nat):Nat->Nat->As
 |_,0=>[]
 |j,n+1=>oW pv b j::L2 pv b (j+1) n
def ovB (s1:SS)(pv:List (At×SV)):Ah->List (Nat×Bb B4)
 | []=>[]
 |b::l=>match s1.get b with
  |some (.cells c e z)=>(b,some (.cells (L2 pv b 0 c.length) e z))::ovB s1 pv l|_=>ovB s1 pv l
def Y9 :Ah->List (Nat×Bb B4)
 | []=>[]
 |b::l=>(b,none)::Y9 l
def DG :List Pl->Nat
 | []=>0|p::l=>p.g.na+DG l
def gE (ps:List Pl)(ds:Au)(s1:SS)(bs0 kill:Ah):List (Nat×Bb B4):=fX ps ds s1.nx++(ovB s1 (cZ ps ds s1.nx) bs0++Y9 (kill++(bs0++(rbs ps++ [s1.nx]))))
def sT (ps:List Pl)(ds:Au)(s1:SS)(bs0 kill:Ah):SS:= {s1 with h:=gE ps ds s1 bs0 kill++s1.h,nx:=s1.nx+DG ps}
def fT (ps:List Pl)(ds:Au)(s1:SS)(f0:Fm):Fm:=vW (cZ ps ds s1.nx)++f0
theorem L1 {α:Type}(l m:List (Nat×α))(b:Nat):lk (l++m) b=match lk l b with|some x=>some x|none=>lk m b:=by
 induction l with
 |nil=>rfl|cons p l d=>rw[Uw,A0,A0];grind
def AY {α:Type}{b:Nat}:∀ {l:List (Nat×α)},lk l b=none->b∉l.map Prod.fst
 | [],_=>by simp| (k,y)::l,h=>by rw[A0]at h;split at h;cases h;rename_i e;simp only[Um,TZ,not_or];exact⟨fun h=>e h.symm,AY h⟩
theorem T6 {b:Nat}:∀ {l:Ah},lk (Y9 l) b=if b∈l then some none else none
 | []=>rfl|k::l=>by rw[Y9,A0,T6];grind
def kI (pv:List (At×SV))(b:Nat):∀(n j:Nat),(L2 pv b j n).length=n
 |0,_=>rfl|n+1,j=>by simp[L2,kI pv b n]
theorem tA (pv:List (At×SV))(b:Nat):∀(n j i:Nat) (a:SV),(L2 pv b j n)[i]? =some a->i<n/\a=oW pv b (j+i)
 |0,j,i,a,h=>by simp[L2]at h|n+1,j,0,a,h=>by simp only[L2,TC,Tk]at h;exact⟨by omega,h.symm⟩|n+1,j,i+1,a,h=>by obtain⟨h1,h2⟩:=tA pv b n (j+1) i a h;grind
theorem qT {b j:Nat}:∀(pv:List (At×SV)),oW pv b j= .any\/ ∃(i:Nat) (q:At×SV),pv[i]? =some q/\q.1= .cell b j/\oW pv b j=q.2
 | []=>.inl rfl| (p,v)::l=>by
  unfold oW;cases hc:FO b j p with
  |true=>
   refine .inr ⟨0,(p,v),rfl,?_,rfl⟩;cases p with
   |tmp t=>cases hc
   |no=>cases hc
   |cell b' j'=>simp only[FO,Tl,Ub]at hc;grind
  |false=>rcases qT l with h| ⟨i,q,h1,h2,h3⟩;exact .inl h;exact .inr ⟨i+1,q,h1,h2,h3⟩
def oH {k:Nat}{a:SV}:∀(pv:List (At×SV)),lk (vW pv) k=some a-> ∃(i:Nat) (q:At×SV),pv[i]? =some q/\q.1= .tmp k/\q.2=a
 | [],h=>by cases h
 | (p,v)::l,h=>by unfold vW at h;split at h;rename_i t;rw[A0]at h;split at h;rename_i e;simp at h;exact⟨0,(.tmp t,v),rfl,by rw[e],h⟩;obtain⟨i,q,h1,h2⟩:=oH l h;exact⟨i+1,q,h1,h2⟩;obtain⟨i,q,h1,h2⟩:=oH l h;exact⟨i+1,q,h1,h2⟩;obtain⟨i,q,h1,h2⟩:=oH l h;exact⟨i+1,q,h1,h2⟩
theorem jM {k:Nat}:∀(pv:List (At×SV)),lk (vW pv) k=none-> ∀q∈pv,q.1≠ .tmp k
 | [],_=>fun q hq=>by grind
 | (p,v)::l,h=>by unfold vW at h;intro q hq d;split at h;rename_i t;rw[A0]at h;split at h;cases h;rename_i e;rcases TZ.1 hq with rfl|hq;grind;exact jM l h q hq d;rcases TZ.1 hq with rfl|hq;grind;exact jM l h q hq d;rcases TZ.1 hq with rfl|hq;grind;exact jM l h q hq d
theorem AF :∀(ps:List Pl) (ds:Au) (nb i:Nat) (q:At×SV),(cZ ps ds nb)[i]? =some q-> ∃p,ps[i]? =some p/\q.1=p.at_
 | [],ds,nb,i,q,h=>by simp[cZ]at h|p::ps,ds,nb,0,q,h=>by simp only[cZ,TC,Tk]at h;exact⟨p,rfl,by grind⟩|p::ps,ds,nb,i+1,q,h=>by exact AF ps _ _ i q h
theorem CM :∀(ps:List Pl) (ds:Au) (nb:Nat) (p:Pl),p∈ps-> ∃q∈cZ ps ds nb,q.1=p.at_
 | [],_,_,p,h=>by grind|p'::ps,ds,nb,p,h=>by rcases TZ.1 h with rfl|h;exact⟨_,by simp[cZ];exact .inl rfl,rfl⟩;obtain⟨q,h1,h2⟩:=CM ps (pop p'.g ds) (nb+p'.g.na) p h;exact⟨q,by simp[cZ,h1],h2⟩
theorem Gv {s1:SS}{pv:List (At×SV)}{b:Nat}:∀ {l:Ah},(∀b∈l,∃c e z,s1.get b=some (.cells c e z))-> ∀y,lk (ovB s1 pv l) b=y->(b∈l/\ ∃c e z,s1.get b=some (.cells c e z)/\y=some (some (.cells (L2 pv b 0 c.length) e z)))\/(b∉l/\y=none)
 | [],_,y,h=>.inr ⟨by simp,h.symm⟩|b'::l,hl,y,h=>by obtain⟨c,e,z,hb⟩:=hl b' (by simp);unfold ovB at h;rw[hb,A0]at h;by_cases d:b'=b;grind;rw[TH d]at h;rcases Gv (fun b hb=>hl b (by grind)) y h with⟨h1,h2⟩| ⟨h1,h2⟩;grind;grind
section
variable {P :Aw}{U:Ab}
def PX (τ:Tau)(tm:Ao)(hp:Hp):At->Av->Prop
 | .tmp t,x=>x=(tm.get t).getD undef| .cell b j,x=>∃i o cs n e z,τ b=some (some (i,o))/\hp.m.get i=some (.cells cs n e z)/\cs.get (o+j)=some x| .no,_=>True
theorem fL.live {τ0 τ:Tau}{F:Ac}{s:SS}:∀ {ps:List Pl} {vs:As} {es:Au} {bs:Ah},fL P U τ0 τ F s ps vs es bs-> ∀ {k b:Nat},bs[k]? =some b-> ∃x,s.get b=some x
 | [],[],es,bs,h,k,b,hb=>by rw[h.2]at hb;simp at hb| [],_::_,es,bs,h,k,b,hb=>h.elim|p::ps,[],es,bs,h,k,b,hb=>h.elim|p::ps,v::vs,es,bs,h,k,b,hb=>by
  obtain⟨r,m,j,rfl,rfl,hm,d⟩:=h;cases hr:r.2 with
  |none=>rw[hr]at hb;exact d.live hb|some b0=>
   rw[hr]at hb;cases k with
   |succ k=>exact d.live hb|zero=>
    have e:p.g.na≠0:=fun h0=>by rw[hm.2.2.1 h0]at hr;cases hr
    obtain⟨so,_,n,L,x',h1,_,hx,_⟩:=hm.2.2.2.2.1 e;rw[hr]at h1;have e0:b0=b:=by simpa [Z1]using hb
    grind
variable (P U) in
structure Ap (τ1:Tau)(F1:Ac)(s1:SS)(hp1:Hp)(f0:Fm)(tm1:Ao)(ps:List Pl)(bs0 kill:Ah)(τ:Tau)(F:Ac)(s:SS)(hp:Hp)(f:Fm)(tm:Ao)(vs:As)(es:Au)(bs:Ah)(xs:Af):Prop where
 hs1:SD P U τ1 F1 s1 hp1
 ht1:TD P U τ1 F1 f0 tm1
 hs:SD P U τ F s hp
 ht:TD P U τ F f tm
 ex:Ext τ1 F1 s1 hp1 τ F s hp
 mt:fL P U τ1 τ F s ps vs es bs
 vx:VDL P U τ F vs xs
 px:∀(i:Nat) p x,ps[i]? =some p->xs[i]? =some x->PX τ tm hp p.at_ x
 lx:xs.length=ps.length
 pa:∀p∈ps,∃F0 x0,VD P U τ1 F0 p.a x0
 fr:∀t,(∀p∈ps,p.at_≠ .tmp t)->lk f t=lk f0 t
 ky:∀l,s.h=l++s1.h-> ∀b∈l.map Prod.fst,b<s1.nx->b∈bs0\/b∈kill\/b∈rbs ps
 rb:∀b∈rbs ps,b∉bs0/\b∉kill/\b<s1.nx
 c0:∀b∈bs0,b∉kill/\ ∃l l' e z,s1.get b=some (.cells l e z)/\s.get b=some (.cells l' e z)/\l'.length=l.length
 bd:∀(k k':Nat) b,bs[k]? =some b->bs[k']? =some b->k=k'
 bf:∀b∈bs,b∉bs0/\(s1.nx<=b\/b∈kill)
 lb:bs.length=DG ps
variable {τ1 :Tau}{F1:Ac}{s1:SS}{hp1:Hp}{f0:Fm}{tm1:Ao}{ps:List Pl}{bs0 kill:Ah}{τ:Tau}{F:Ac}{s:SS}{hp:Hp}{f:Fm}{tm:Ao}{vs:As}{es:Au}{bs:Ah}{xs:Af}
def K5 (τ1 τ:Tau)(n:Nat)(bs:Ah):Tau:=fun b=>if b<n then τ1 b else match bs[b-n]? with|some b'=>τ b'|none=>none
def eY {n b:Nat}(h:b<n):K5 τ1 τ n bs b=τ1 b:=by unfold K5;rw[TJ h]
def jK {n k b:Nat}(h:bs[k]? =some b):K5 τ1 τ n bs (n+k)=τ b:=by unfold K5;rw[TH (by omega),UH,h]
theorem Ap.head (h:Ap P U τ1 F1 s1 hp1 f0 tm1 ps bs0 kill τ F s hp f tm vs es bs xs){ds:Au}(hd:dK U (sos ps) es ds):SD P U (K5 τ1 τ s1.nx bs) F (sT ps ds s1 bs0 kill) hp/\TD P U (K5 τ1 τ s1.nx bs) F (fT ps ds s1 f0) tm/\Ext τ1 F1 s1 hp1 (K5 τ1 τ s1.nx bs) F (sT ps ds s1 bs0 kill) hp:=by
 obtain⟨l0,a1,a2,a3,a4,_⟩:=h.ex.hh;have ab:=h.ky l0 a1;have G:∀b p,τ1 b=some p->b<s1.nx:=fun b p hb=>Nat.lt_of_not_le fun ac=>by rw[h.hs1.new b ac]at hb;cases hb
 have hk:∀b p,τ1 b=some p->K5 τ1 τ s1.nx bs b=τ b:=fun b p hb=>by rw[eY (G b p hb),h.ex.st b (G b p hb)]
 have lo:∀b,b<s1.nx->K5 τ1 τ s1.nx bs b=τ b:=fun b hb=>by rw[eY hb,h.ex.st b hb]
 have W:=h.mt.vals hd hk (fun k b hb=>jK (n:=s1.nx) hb) h.pa h.vx;have T:=h.mt.blks (nb:=s1.nx) hd;have O:Tle τ1 (K5 τ1 τ s1.nx bs):=fun b p hb=>by rw[eY (G b p hb)];exact hb
 have ah:∀(i:Nat) q,(cZ ps ds s1.nx)[i]? =some q-> ∃x,PX τ tm hp q.1 x/\VD P U (K5 τ1 τ s1.nx bs) F q.2 x:=by
  intro i q hq;obtain⟨p,h1,h2⟩:=AF _ _ _ _ _ hq;have hi:i<xs.length:=by rw[h.lx];exact(Tn.1 h1).1
  have hx:=Tx hi;exact⟨_,by rw[h2];exact h.px i p _ h1 hx,W i q _ hq hx⟩
 have keep:∀b,b<s1.nx->b∉bs0->b∉kill->b∉rbs ps->s.get b=s1.get b:=fun b hb h1 h2 R=>by unfold SS.get;rw[a1,rY _ _ fun hm=>?_];grind
 have aa:∀b∈bs0,∃c e z,s1.get b=some (.cells c e z):=fun b hb=>by obtain⟨_,l,_,e,z,h1,_⟩:=h.c0 b hb;grind
 have B:∀b x,(sT ps ds s1 bs0 kill).get b=some x->
   (∃k b0 x',b=s1.nx+k/\bs[k]? =some b0/\s.get b0=some x'/\(∀(τ2:Tau) o z,BD P U τ F o x' z->BD P U τ2 F o x z)/\(E9 P U x'->E9 P U x))\/
   (b<s1.nx/\b∉kill/\b∈bs0/\ ∃c e z,s1.get b=some (.cells c e z)/\x= .cells (L2 (cZ ps ds s1.nx) b 0 c.length) e z)\/
   (b<s1.nx/\b∉kill/\b∉bs0/\b∉rbs ps/\s1.get b=some x)\/
   (b<s1.nx/\b∉kill/\b∈rbs ps/\ ∃x',s.get b=some x'/\(∀(τ2:Tau) o z,τ2 b=τ b->BD P U τ F o x' z->BD P U τ2 F o x z)/\(E9 P U x'->E9 P U x)):=by
  intro b x hb;have d:(match lk (gE ps ds s1 bs0 kill++s1.h) b with|some x=>x|none=>none)=some x:=hb;rw[L1,gE,L1,L1]at d;cases N:lk (fX ps ds s1.nx) b with
  |some y=>rw[N]at d;simp only at d;rcases T b y N with⟨k,b0,X,x',h1,h2,h3,h4,h5,h6⟩| ⟨X,x',h1,h3,h4,h5,h6⟩;grind;rw[h3]at d;simp only[Tk]at d;subst d;obtain⟨_,g2,g3⟩:=h.rb b h1;grind
  |none=>
   rw[N]at d;simp only at d;rcases Gv (s1:=s1) (pv:=cZ ps ds s1.nx) (b:=b) aa _ rfl with⟨h1,c,e,z,h2,h3⟩| ⟨h1,h3⟩;rw[h3]at d;simp only[Tk]at d;exact .inr (.inl ⟨h.hs1.bound h2,(h.c0 b h1).1,h1,c,e,z,h2,d.symm⟩)
   ·rw[h3,T6]at d;by_cases V:b∈kill++(bs0++(rbs ps++ [s1.nx]))
    rw[TJ V]at d;cases d;rw[TH V]at d;have Y:s1.get b=some x:=d;exact .inr (.inr (.inl ⟨h.hs1.bound Y,fun h=>V (Va _ h),h1,fun h=>AY N (mU h),Y⟩))
 have keyB:∀b∈bs0,b∈(gE ps ds s1 bs0 kill).map Prod.fst:=fun b hb=>by rcases Gv (s1:=s1) (pv:=cZ ps ds s1.nx) (b:=b) aa _ rfl with⟨_,c,e,z,_,h3⟩| ⟨h1,_⟩;unfold gE;simp only[Ui,TY];exact .inr (.inl (UO.2 ⟨_,aM h3,rfl⟩));grind
 have ae:∀b∈kill,b∈(gE ps ds s1 bs0 kill).map Prod.fst:=fun b hb=>by unfold gE;simp only[Ui,TY];refine .inr (.inr (UO.2 ⟨(b,none),aM ?_,rfl⟩));rw[T6,TJ (Va _ hb)]
 have mark:(s1.nx,none)∈gE ps ds s1 bs0 kill:=by unfold gE;refine UQ _ (UQ _ (aM ?_));rw[T6,TJ (UQ _ (by simp))]
 have A:∀b∈l0.map Prod.fst,b<s1.nx->b∈(gE ps ds s1 bs0 kill).map Prod.fst:=fun b hb hlt=>by rcases ab b hb hlt with h1|h1|h1;grind;grind;unfold gE;simp only[Ui,TY];exact .inl (mU h1)
 have J:∀k b0,bs[k]? =some b0->(if s1.nx+k<s1.nx then s1.nx+k else bs.getD (s1.nx+k-s1.nx) 0)=b0:=fun k b0 hb=>by rw[TH (by omega),UH,List.getD,hb];rfl
 refine⟨h.hs.rebase (fun b=>if b<s1.nx then b else bs.getD (b-s1.nx) 0) (fun b x hb=>?_) (fun b c x y hb hc ad=>?_) (fun b i o hb=>?_) (fun b hb=>?_) h.hs1.fc (fun r hr=>(h.hs1.fz r hr).mono O h.ex.f),fun k a u=>?_,?_⟩
 ·rcases B b x hb with⟨k,b0,x',rfl,h2,h3,h4,h5⟩| ⟨hlt,t,C,c,e,z,h2,rfl⟩| ⟨hlt,t,C,al,h2⟩| ⟨hlt,t,_,x',h3,h4,h5⟩;simp only[J k b0 h2];exact⟨x',h3,jK h2,fun i o y _ _ K=>h4 _ o y K,h5⟩
  ·simp only[TJ hlt];obtain⟨_,l,l',e',z',k1,k2,k3⟩:=h.c0 b C;rw[h2]at k1;simp only[Tk,B4.cells.injEq]at k1;obtain⟨rfl,rfl,rfl⟩:=k1;refine⟨_,k2,lo b hlt,fun i o y g hy ⟨cs,n,e1,e2,e3⟩=>?_,fun⟨L,e,z,ph,h,_⟩=>by cases h⟩;refine⟨cs,n,e1,by rw[kI,<-k3];exact e2,fun j a ha=>?_⟩;obtain⟨hj,rfl⟩:=tA _ _ _ _ _ _ ha;rw[TT];have aj:j<l'.length:=by omega
   obtain⟨x,hx,_⟩:=e3 j _ (Tx aj);rcases qT (b:=b) (j:=j) (cZ ps ds s1.nx)with h1| ⟨i',q,q1,q2,q3⟩;exact⟨x,hx,by rw[h1];exact .any x⟩;obtain⟨x2,px,hv⟩:=ah i' q q1;rw[q2]at px;obtain⟨i2,o2,ao,n2,ap,z2,p1,p2,p3⟩:=px;rw[g]at p1;cases p1;rw[hy,e1]at p2;simp only[Tk,Blk.cells.injEq]at p2;obtain⟨rfl,_⟩:=p2;exact⟨x2,p3,by rw[q3];exact hv⟩
  simp only[TJ hlt];refine⟨x,by rw[keep b hlt C t al];exact h2,lo b hlt,fun i o y g hy K=>?_,id⟩;rcases h.hs1.live b x h2 with⟨i1,o1,y1,g1,_,_,g4⟩| ⟨g1,_⟩;exact g4.re K hk;rw[h.ex.st b hlt,g1]at g;cases g;simp only[TJ hlt];exact⟨x',h3,lo b hlt,fun i o y _ _ K=>h4 _ o y (lo b hlt) K,h5⟩
 ·have hi:∀(b:Nat) (x:B4) (k b0:Nat),(sT ps ds s1 bs0 kill).get b=some x->b<s1.nx->bs[k]? =some b0->b≠b0:=by intro b x k b0 hb hlt ak e;subst e;obtain⟨f1,f2⟩:=h.bf b (Tv ak);rcases B b x hb with⟨k',b0,x',rfl,_⟩| ⟨_,t,_⟩| ⟨_,t,_⟩| ⟨_,t,_⟩;omega;rcases f2 with h1|h1;omega;exact t h1;rcases f2 with h1|h1;omega;exact t h1;rcases f2 with h1|h1;omega;exact t h1
  by_cases D:b<s1.nx;by_cases m:c<s1.nx;simp only[TJ D,TJ m];exact ad;rcases B c y hc with⟨k,b0,x',rfl,h2,_⟩| ⟨hlt,_⟩| ⟨hlt,_⟩| ⟨hlt,_⟩;simp only[J k b0 h2,TJ D];exact hi b x k b0 hb D h2;omega;exact absurd hlt m;exact absurd hlt m;rcases B b x hb with⟨k,b0,x',rfl,h2,_⟩| ⟨hlt,_⟩| ⟨hlt,_⟩| ⟨hlt,_⟩;by_cases m:c<s1.nx;simp only[J k b0 h2,TJ m];exact(hi c y k b0 hc m h2).symm;rcases B c y hc with⟨k',ai,x',rfl,R,_⟩| ⟨hlt,_⟩| ⟨hlt,_⟩| ⟨hlt,_⟩;simp only[J k b0 h2,J k' ai R];intro e;subst e;exact ad (by rw[h.bd k k' b0 h2 R]);exact absurd hlt m;exact absurd hlt m;exact absurd hlt m;exact absurd hlt D;exact absurd hlt D;exact absurd hlt D
 by_cases hlt:b<s1.nx;rw[lo b hlt]at hb;exact h.hs.lt b i o hb;unfold K5 at hb;rw[TH hlt]at hb;split at hb;exact h.hs.lt _ i o hb;cases hb;have ac : s1.nx + DG ps ≤ b := hb;unfold K5;rw[TH (by omega),Vi (by rw[h.lb];omega)]
 ·unfold fT at u;rw[L1]at u;cases N:lk (vW (cZ ps ds s1.nx)) k with
  |some y=>rw[N]at u;simp only[Tk]at u;subst u;obtain⟨i,q,h1,h2,h3⟩:=oH _ N;obtain⟨x,px,hv⟩:=ah i q h1;rw[h2]at px;rw[<-h3,<-show x=(tm.get k).getD undef from px];exact hv
  |none=>
   rw[N]at u;have M:=jM _ N;have:lk f k=lk f0 k:=h.fr k fun p hp e=>by obtain⟨q,q1,q2⟩:=CM ps ds s1.nx p hp;exact M q q1 (by rw[q2,e])
   exact(h.ht1 k a u).re (h.ht k a (by rw[this];exact u)) hk
 ·refine⟨O,h.ex.f,h.ex.nx,Nat.le_add_right _ _,fun b hb=>eY hb,fun b x hb hlt=>?_,⟨gE ps ds s1 bs0 kill,rfl,fun i hi M=>?_,fun b i o hb g=>?_,fun i y hi hy=>?_,fun hp=>absurd rfl (hp (s1.nx,none) mark)⟩,⟨[],rfl⟩,⟨gE ps ds s1 bs0 kill,rfl,fun b c e z i o cs n hb ht hi hg hl=>⟨cs,?_,fun _ _=>rfl⟩⟩⟩
  rotate_right
  ·rw[a2 i hi fun b' x o' h1 h2 h3=>?_];exact hg
   ·by_cases Z:b'=b
    ·subst Z;have M:(b',none)∈gE ps ds s1 bs0 kill:=by unfold gE;refine UQ _ (UQ _ (aM ?_));rw[T6,TJ ?_];simp only[TY];rcases ab b' h3 (h.hs1.bound h1)with q|q|q;exact .inr (.inl q);exact .inl q;exact .inr (.inr (.inl q))
     obtain⟨_,q,_⟩:=hl none M;cases q
    exact h.hs1.inj b' b x _ i o' i o h1 hb Z h2 ht rfl
  rcases B b x hb with⟨k,b0,x',rfl,_⟩| ⟨_,_,_,c,e,z,h2,_⟩| ⟨_,_,_,_,h2⟩| ⟨_,_,_,x',h2,_⟩;omega;exact⟨_,h2⟩;exact⟨_,h2⟩;exact h.ex.low b x' h2 hlt;exact a2 i hi fun b x o hb g hm=>M b x o hb g (A b hm (h.hs1.bound hb))
  ·unfold K5 at g;rw[TH (by omega)]at g;split at g
   ·rename_i b' d;rcases(h.bf b' (Tv d)).2 with h1|h1;rcases a3 b' i o h1 g with h2| ⟨b0,x,o0,h2,h3,h4⟩;exact .inl h2;exact .inr ⟨b0,x,o0,h2,h3,A b0 h4 (h.hs1.bound h2)⟩
    ·by_cases hlt:b'<s1.nx
     ·have hg:∃x,s.get b'=some x:=by exact h.mt.live d
      obtain⟨x,hx⟩:=hg;obtain⟨y,hy⟩:=h.ex.low b' x hx hlt;rw[h.ex.st b' hlt]at g;exact .inr ⟨b',y,o,hy,g,ae b' h1⟩
     rcases a3 b' i o (UL hlt) g with h2| ⟨b0,x,o0,h2,h3,h4⟩;exact .inl h2;exact .inr ⟨b0,x,o0,h2,h3,A b0 h4 (h.hs1.bound h2)⟩
   cases g
  rcases a4 i y hi hy with h1| ⟨b,o,h1,h2⟩;exact .inl h1;by_cases hlt:b<s1.nx;exact .inr ⟨b,o,by rw[lo b hlt];exact h1,A b h2 hlt⟩;rcases a3 b i o (UL hlt) h1 with h3| ⟨b0,x,o0,h3,h4,h5⟩;omega;have C:=h.hs1.bound h3;exact .inr ⟨b0,o0,by rw[eY C];exact h4,A b0 h5 C⟩
end
structure J0 where
 name:String
 places:Code->Fm->SS->Bb (List (At×G)×Ah)
 inv:Ar->Prop
 mu:Ar->Nat
 gh:List (So×E):=[]
def HI (U:Ab)(k:So)(e:E):Dat:=match k with
 | .i=>.int (e.toI U)| .b=>.bool (e.den U).toBool| .s=>.str (e.den U).toStr| .l=>.lst (e.toR U)
def t8 (U:Ab):List So->Au->Ar
 |k::ks,e::es=>HI U k e::t8 U ks es|_,_=>[]
def CE {α:Type}:List So->Nat->(Au->Tr α)->Tr α
 | [],_,k=>k []|so::l,n,k=>.all so n fun e=>CE l (n+1) fun es=>k (e::es)
def G3 (U:Ab):List So->Nat->Au->Au
 |k::ks,n,e::es=>.dat n (HI U k e)::G3 U ks (n+1) es|_,_,_=>[]
def atv (f:Fm)(s:SS):At->Bb SV
 | .tmp t=>match lk f t with
  |some v=>some v|none=>some .any
 | .cell b j=>match s.get b with
  |some (.cells l _ _)=>l[j]?|_=>none
 | .no=>some .any
def bH (f:Fm)(s:SS):List (At×G)->Bb (As)
 | []=>some []|p::l=>match atv f s p.1 with
  |some v=>match bH f s l with
   |some vs=>some (v::vs)|none=>none
  |none=>none
def pls :List (At×G)->As->List Pl
 |p::l,v::vs=>⟨p.1,p.2,v⟩::pls l vs|_,_=>[]
def QK (t:Nat):At->Bool
 | .tmp t'=>Nat.beq t t'| .cell _ _=>false| .no=>false
def dB :Ah->Bool
 | []=>true|b::l=> !U7 b l&&dB l
def aE (s1 s:SS)(b:Nat):Bool:=match s1.get b with
 |some (.cells l e z)=>match s.get b with
  |some (.cells l' e' z')=>Nat.beq e e'&&Nat.beq z z'&&Nat.beq l.length l'.length|_=>false
 |_=>false
def CZ (n:Nat)(f:Fm):Ah:=match n,f with
 |n+1,(k,_)::f=>k::CZ n f|_,_=>[]
section
variable (P :Aw)(U:Ab)
def mdone {α:Type}(l1 l2:Lab)(p q:Prop):M α:=fun _=>.need l1 p (.need l2 q .done)
def NL (an:J0)(pg:List (At×G))(ps:List Pl)(bs0 kill:Ah)(s1:SS)(f0:Fm)(ds:Au)(r:Exit×Fm):M (Exit×Fm):=match r.1 with
 | .normal=>
  bif (CZ (r.2.length-(fT ps ds s1 f0).length) r.2).all (fun t=>pg.any (fun p=>QK t p.1))then
   p9 fun s=>match bH r.2 s pg with
   |none=>a8 "loop: a place is gone"|some vs0=>b9 (norm P U ps vs0) fun vs=>b9 (mtP U ps vs) fun t=>p9 fun s2=>
    bif (T7 (s2.h.length-(sT ps ds s1 bs0 kill).h.length) s2.h).all (fun b=>Nat.ble s1.nx b||U7 b bs0||U7 b kill||U7 b (rbs ps))&&bs0.all (aE s1 s2)&&dB t.2&&
      t.2.all (fun b=> !U7 b bs0&&(Nat.ble s1.nx b||U7 b kill))&&Nat.beq t.2.length (DG ps)then
     mdone (.pt (an.name++ "Inv") [an.gh,(sos ps).zip t.1]) (.mu (an.name++ "Mu") an.gh ((sos ps).zip t.1) ((sos ps).zip ds)) (an.inv (t8 U (sos ps) t.1)) (an.mu (t8 U (sos ps) t.1)<an.mu (t8 U (sos ps) ds))
    else a8 "loop: the head"
  else a8 "loop: a temporary"
 |e=>i3 (e,r.2)
def fvb (s:SS)(n:Nat):SS:= {s with fv:=s.fv+n}
def shead (an:J0)(pg:List (At×G))(ps:List Pl)(bs0:Ah)(es:Au)(kill:Ah)(body:Fm->M (Exit×Fm))(f0:Fm):M (Exit×Fm):=fun s=>
 .need (.pt (an.name++ "Inv") [an.gh,(sos ps).zip es]) (an.inv (t8 U (sos ps) es)) (CE (sos ps) s.fv fun ds=>.asm (.pt (an.name++ "Inv") [an.gh,(sos ps).zip ds]) (an.inv (t8 U (sos ps) ds))
  (b9 (body (fT ps ds (fvb s (sos ps).length) f0)) (NL P U an pg ps bs0 kill (fvb s (sos ps).length) f0 ds) (sT ps ds (fvb s (sos ps).length) bs0 kill)))
def NN (an:J0)(b:Code)(body:Fm->M (Exit×Fm))(f0:Fm):M (Exit×Fm):=p9 fun s0=>match an.places b f0 s0 with
 |none=>a8 "loop: places"|some (pg,bs0)=>match bH f0 s0 pg with
  |none=>a8 "loop: no such place"|some vs0=>b9 (norm P U (pls pg vs0) vs0) fun vs=>b9 (mtP U (pls pg vs0) vs) fun t=>p9 fun s1=>
   bif bs0.all (aE s1 s1)&&dB t.2&&t.2.all (fun b=> !U7 b bs0)&&Nat.beq t.2.length (DG (pls pg vs0))&&(rbs (pls pg vs0)).all (fun b=> !U7 b bs0&& !U7 b t.2&&Nat.ble (b+1) s1.nx)then
    shead P U an pg (pls pg vs0) bs0 t.1 t.2 body f0
   else a8 "loop: the start"
end
section
variable {P :Aw}{U:Ab}{ov:Aa}{nt:Nat}
theorem iR {α:Type}{Q:α->Prop}:∀(l:List So) (n:Nat) (k:Au->Tr α),(CE l n k).vc U Q-> ∀es:Au,es.length=l.length->(k (G3 U l n es)).vc U Q
 | [],n,k,h,es,hl=>by
  cases es with
  |nil=>exact h|cons e es=>grind
 |so::l,n,k,h,es,hl=>by
  cases es with
  |nil=>grind|cons e es=>
   have d:es.length=l.length:=by grind
   have g:(CE l (n+1) fun es=>k (.dat n (HI U so e)::es)).vc U Q:=by cases so;exact h (e.toI U);exact h (e.den U).toBool;exact h (e.den U).toStr;exact h (e.toR U)
   exact iR l (n+1) _ g es d
theorem M3 :∀(l:List So) (n:Nat) (es:Au),es.length=l.length->dK U l es (G3 U l n es)
 | [],n,[],h=>trivial| [],n,e::es,h=>by grind|k::l,n,[],h=>by grind|k::l,n,e::es,h=>⟨by cases k<;>rfl,M3 l (n+1) es (by grind)⟩
theorem J4 :∀(l:List So) (n:Nat) (es:Au),es.length=l.length->t8 U l (G3 U l n es)=t8 U l es
 | [],n,[],h=>rfl| [],n,e::es,h=>rfl|k::l,n,[],h=>rfl|k::l,n,e::es,h=>by unfold G3 t8;rw[J4 l (n+1) es (by grind)];cases k<;>rfl
def Bh {τ0 τ:Tau}{F:Ac}{s:SS}:∀ {ps:List Pl} {vs:As} {es:Au} {bs:Ah},fL P U τ0 τ F s ps vs es bs->es.length=(sos ps).length
 | [],[],es,bs,h=>by rw[h.1];rfl| [],_::_,es,bs,h=>h.elim|p::ps,[],es,bs,h=>h.elim|p::ps,v::vs,es,bs,h=>by
  obtain⟨r,n,m,rfl,rfl,hm,j⟩:=h;have k:=Bh j;unfold sos;cases d:p.g.so with
  |none=>rw[hm.2.1 d];exact k|some so=>obtain⟨e,he⟩:=hm.1 so d;rw[he];simp only[Z1,Ue,k]
theorem hG {b:Nat}:∀ {l:Ah},U7 b l=true->b∈l
 | [],h=>by cases h
 |k::l,h=>by unfold U7 at h;by_cases e:b=k;grind;rw[z8 e,TF]at h;exact Ut _ (hG h)
theorem dC :∀ {l:Ah},dB l=true-> ∀(k k':Nat) b,l[k]? =some b->l[k']? =some b->k=k'
 | [],_,k,k',b,h,_=>by grind|c::l,d,k,k',b,h,h'=>by
  unfold dB at d;rw[Tl,Uh]at d;have hn:=P5 d.1;cases k with
  |zero=>grind|succ k=>
   cases k' with
   |zero=>grind|succ k'=>rw[dC d.2 k k' b h h']
theorem nW {s1 s:SS}{b:Nat}(h:aE s1 s b=true):∃l l' e z,s1.get b=some (.cells l e z)/\s.get b=some (.cells l' e z)/\l'.length=l.length:=by unfold aE at h;split at h;rename_i l e z h1;split at h;rename_i l' e' d h2;simp at h;grind;cases h;cases h
theorem xP {b:Nat}:∀(ps:List Pl) (ds:Au) (nb:Nat),b∈(fX ps ds nb).map Prod.fst->nb<=b\/b∈rbs ps
 | [],ds,nb,h=>by simp[fX]at h|p::ps,ds,nb,h=>by
  have sub:∀b,b∈rbs ps->b∈rbs (p::ps):=fun b hb=>by unfold rbs;grind
  have e:b∈(fX ps (pop p.g ds) (nb+p.g.na)).map Prod.fst->nb<=b\/b∈rbs (p::ps):=fun h=>by rcases xP ps _ _ h with h|h;grind;grind
  unfold fX at h;split at h;grind;split at h;rename_i q hq;simp at h;rcases h with rfl|h;obtain⟨X,d⟩:=G.fix_num hq (.int 0);unfold rbs;grind;grind;grind
def uR {s1:SS}{pv:List (At×SV)}{b:Nat}:∀(l:Ah),b∈(ovB s1 pv l).map Prod.fst->b∈l
 | [],h=>by simp[ovB]at h|c::l,h=>by unfold ovB at h;split at h;simp only[Um,TZ]at h;rcases h with rfl|h;simp;exact Ut _ (uR l h);exact Ut _ (uR l h)
def tV {b:Nat}:∀(l:Ah),b∈(Y9 l).map Prod.fst->b∈l
 | [],h=>by simp[Y9]at h|c::l,h=>by simp only[Y9,Um,TZ]at h;rcases h with rfl|h;simp;exact Ut _ (tV l h)
theorem Il :∀ {pg:List (At×G)} {vs:As} {i:Nat} {p:Pl},(pls pg vs)[i]? =some p-> ∃q v,pg[i]? =some q/\vs[i]? =some v/\p.at_=q.1/\p.a=v
 | [],vs,i,p,h=>by simp[pls]at h|q::l,[],i,p,h=>by simp[pls]at h|q::l,v::vs,0,p,h=>by simp only[pls,TC,Tk]at h;exact(by grind)|q::l,v::vs,i+1,p,h=>by obtain⟨q',v',h1,h2,h3⟩:=Il (i:=i) h;grind
theorem Na :∀ {pg:List (At×G)} {vs:As},pg.length=vs.length->(pls pg vs).map Pl.at_=pg.map Prod.fst
 | [],[],_=>rfl| [],_::_,h=>rfl|_::_,[],h=>by grind|q::l,v::vs,h=>by simp only[pls,Um];rw[Na (by grind)]
variable {hp:Hp}{tm:Ao}
theorem Rh {τ:Tau}{F:Ac}{s:SS}{f:Fm}(ht:TD P U τ F f tm)(hs:SD P U τ F s hp){p:At}{v:SV}(h:atv f s p=some v):∃x,VD P U τ F v x/\PX τ tm hp p x:=by
 cases p with
 |tmp t=>simp only[atv]at h;split at h;rename_i v' hv;simp at h;subst h;exact⟨_,ht t v' hv,rfl⟩;simp at h;subst h;exact⟨_,.any _,rfl⟩|cell b j=>simp only[atv]at h;split at h;rename_i l e z hb;rcases hs.live b _ hb with⟨i,o,y,h1,h2,h3,cs,n,rfl,h4,h5⟩| ⟨_,L,e',d,ph,h2,_⟩;obtain⟨x,hx,hv⟩:=h5 j v h;exact⟨x,hv,i,o,cs,n,e,z,h1,h2,hx⟩;grind;cases h
 |no=>simp only[atv,Tk]at h;subst h;exact⟨undef,.any _,trivial⟩
theorem kZ {τ:Tau}{F:Ac}{s:SS}{hp:Hp}{f:Fm}{tm:Ao}(ht:TD P U τ F f tm)(hs:SD P U τ F s hp):∀ {pg:List (At×G)} {vs:As},bH f s pg=some vs->pg.length=vs.length/\ ∃xs,VDL P U τ F vs xs/\ ∀(i:Nat) q x,pg[i]? =some q->xs[i]? =some x->PX τ tm hp q.1 x
 | [],vs,h=>by simp only[bH,Tk]at h;subst h;exact⟨rfl,[],.nil,fun i q x h=>by grind⟩|p::l,vs,h=>by unfold bH at h;split at h;rename_i v hv;split at h;rename_i e d;cases h;obtain⟨x,h1,h2⟩:=Rh ht hs hv;obtain⟨h3,xs,h4,h5⟩:=kZ ht hs d;refine⟨by grind,x::xs,.cons h1 h4,fun i q y hq hy=>?_⟩;grind;cases h;cases h
def PX.mono {τ τ':Tau}{p:At}{x:Av}(ht:Tle τ τ')(h:PX τ tm hp p x):PX τ' tm hp p x:=by
 cases p with
 |tmp t=>exact h|cell b j=>obtain⟨i,o,cs,n,e,z,h1,h2⟩:=h;exact⟨i,o,cs,n,e,z,ht _ _ h1,h2⟩
 |no=>trivial
def Jv (l f:Fm):CZ l.length (l++f)=l.map Prod.fst:=by
 induction l with
 |nil=>cases f<;>rfl
 |cons a l d=>simp only[Ue,Uw,CZ,Um,d]
variable {ar :Ai}
variable {tm':Ao}
theorem XC.loop_next {b:Code}{tm1:Ao}{hp1 hp':Hp}{e:Exit}(h1:XC P ov ar nt b tm hp .normal tm1 hp1)(h2:XC P ov ar nt (.loop b) tm1 hp1 e tm' hp')(d:hp.nx<=hp1.nx)(g:hp1.nx<=hp'.nx)(hk:∀r,r<hp1.nx->hp1.m.get r=some .dfr->hp'.m.get r=some .dfr):XC P ov ar nt (.loop b) tm hp e tm' hp':=
 h1.comp h2 d g hk fun n m ds h j k p=>by simp only[l7,k];grind
theorem XC.loop_end {b:Code}{hp':Hp}{e:Exit}(h1:XC P ov ar nt b tm hp e tm' hp')(g:e≠ .normal):XC P ov ar nt (.loop b) tm hp e tm' hp':=
 h1.map fun n m ds d hk=>by simp only[l7,hk];grind
end
section
variable {P :Aw}{U:Ab}{ov:Aa}{nt:Nat}{ar:Ai}
variable {b :Code}{body:Fm->M (Exit×Fm)}{an:J0}{pg:List (At×G)}{ps:List Pl}{bs0 kill:Ah}{s1:SS}{f0:Fm}{tm1:Ao}{τ1:Tau}{F1:Ac}{hp1:Hp}{n0:Nat}{Q:(Exit×Fm)×SS->Prop}
variable (P U ov) in
def Lk (ar:Ai)(nt:Nat)(b:Code)(τ1:Tau)(F1:Ac)(s1:SS)(hp1:Hp)(f0:Fm)(Q:(Exit×Fm)×SS->Prop)(tm:Ao)(hp:Hp):Prop:=
 ∃ex f' s',Q ((ex,f'),s')/\ ∃τ' F' hp',Ext τ1 F1 s1 hp1 τ' F' s' hp'/\SD P U τ' F' s' hp'/\ ∃tm',XC P ov ar nt (.loop b) tm hp ex tm' hp'/\TD P U τ' F' f' tm'/\(∃pre,f'=pre++f0)/\hp.nx<=hp'.nx/\ ∀r,r<hp.nx->hp.m.get r=some .dfr->hp'.m.get r=some .dfr
theorem Dg (k:∀y,gG P U ov ar nt (body y) b y)(hs1:SD P U τ1 F1 s1 hp1)(ht1:TD P U τ1 F1 f0 tm1)(G:ps.map Pl.at_=pg.map Prod.fst)(pa:∀p∈ps,∃F0 x0,VD P U τ1 F0 p.a x0)(V:∀c∈bs0,c∉kill)(ac:∀c∈rbs ps,c∉bs0/\c∉kill/\c<s1.nx)(hB:∀es:Au,es.length=(sos ps).length->an.inv (t8 U (sos ps) es)->(b9 (body (fT ps (G3 U (sos ps) n0 es) s1 f0)) (NL P U an pg ps bs0 kill s1 f0 (G3 U (sos ps) n0 es)) (sT ps (G3 U (sos ps) n0 es) s1 bs0 kill)).vc U Q):∀(N:Nat) (es:Au),an.mu (t8 U (sos ps) es)<N->es.length=(sos ps).length->an.inv (t8 U (sos ps) es)-> ∀(τ:Tau) (F:Ac) (hp:Hp) (tm:Ao),SD P U τ F (sT ps (G3 U (sos ps) n0 es) s1 bs0 kill) hp->TD P U τ F (fT ps (G3 U (sos ps) n0 es) s1 f0) tm->Ext τ1 F1 s1 hp1 τ F (sT ps (G3 U (sos ps) n0 es) s1 bs0 kill) hp->Lk P U ov ar nt b τ1 F1 s1 hp1 f0 Q tm hp
 |0,es,h,_,_=>absurd h (Nat.not_lt_zero _)|N+1,es,be,C,X=>by
  intro τ F hp tm u ad J;have hq:=hB es C X;rw[A5]at hq;generalize hds:G3 U (sos ps) n0 es=ds at hq u ad J;obtain⟨⟨e,y⟩,s',hq,τ',F',hp',d,A,tm',hx,R,pre,ab⟩:=k (fT ps ds s1 f0) τ F _ hp tm ad u _ hq u;have L:y=pre++fT ps ds s1 f0:=ab;have m:e≠ .normal->Q ((e,y),s')->Lk P U ov ar nt b τ1 F1 s1 hp1 f0 Q tm hp:=fun aq hQ=>
   ⟨e,y,s',hQ,τ',F',hp',J.trans d,A,tm',hx.loop_end aq,R,⟨pre++vW (cZ ps ds s1.nx),by rw[L,fT,Tz]⟩,d.nx,fun r hr hg=>d.dfr u hr hg (.inl rfl)⟩
  cases e with
  |exit j=>exact m (by simp) hq|ret=>exact m (by simp) hq|normal=>
   simp only[NL]at hq;cases c1:(CZ (y.length-(fT ps ds s1 f0).length) y).all (fun t=>pg.any (fun p=>QK t p.1))with
   |false=>rw[c1]at hq;exact hq.elim|true=>
    rw[c1,TE]at hq;simp only[p9]at hq;cases c2:bH y s' pg with
    |none=>rw[c2]at hq;exact hq.elim|some bb=>
     rw[c2]at hq;obtain⟨ak,xs,ae,aw⟩:=kZ R A c2;rw[A5]at hq;obtain⟨vs,s2,hq,τ2,F2,hp2,ex2,B,rfl,ah⟩:=Bi ps bb xs τ' F' s' hp' ae A _ hq A;rw[A5]at hq;obtain⟨⟨z,bs⟩,s3,hq,o3,aj,ap⟩:=Gj τ1 ps vs s2 _ hq B.fc;have ax:=B.only o3 aj;have W:=((J.trans d).trans ex2).trans (Vt B o3);simp only[p9]at hq;cases c3:(T7 (s3.h.length-(sT ps ds s1 bs0 kill).h.length) s3.h).all (fun b=>Nat.ble s1.nx b||U7 b bs0||U7 b kill||U7 b (rbs ps))&&bs0.all (aE s1 s3)&&dB bs&&
      bs.all (fun b=> !U7 b bs0&&(Nat.ble s1.nx b||U7 b kill))&&Nat.beq bs.length (DG ps)with
     |false=>rw[c3]at hq;exact hq.elim|true=>
      rw [c3,TE] at hq;simp only [Tl] at c3;obtain ⟨⟨⟨⟨k1,k2⟩,k3⟩,k4⟩,k5⟩:=c3;rw [TS] at k1 k2 k4;have K:=hq.1;have Z:=(hq.2 hq.1).1;have D:=ap s3 o3.h;have n:=Bh D;have head : Ap P U τ1 F1 s1 hp1 f0 tm1 ps bs0 kill τ2 F2 s3 hp2  y tm' vs   z bs xs:=by
       refine⟨hs1,ht1,ax,R.mono ex2.t ex2.f,W,D,ah,fun i p x hp az=>?_,?_,pa,fun t ht=>?_,fun l hl c hc hlt=>?_,ac,fun c hc=>⟨V c hc,nW (k2 c hc)⟩,dC k3,fun c hc=>?_,Tp k5⟩
       ·have h1:=congrArg (fun l=>l[i]?) G;simp only[Ul,hp,Ug]at h1;cases M:pg[i]? with
        |none=>rw[M]at h1;cases h1
        |some q=>rw[M]at h1;simp only[Ug,Tk]at h1;rw[h1];exact(aw i q x M az).mono ex2.t
       have h1:=congrArg List.length G;simp only[TG]at h1;rw[h1,ak];exact ae.1.symm
       ·have au:t∉pre.map Prod.fst:=by
         intro hm;rw[TS,L,TO,Nat.add_sub_cancel,Jv]at c1;have:=c1 t hm;rw[List.any_eq_true]at this;obtain⟨q,bg,g⟩:=this;have Y:q.1∈ps.map Pl.at_:=by grind
         obtain⟨p,hp1,hp2⟩:=UO.1 Y;refine ht p hp1 ?_;rw[hp2];cases O:q.1 with
         |tmp t'=>rw[O]at g;rw[Tp g]|cell b j=>rw[O]at g;cases g
         |no=>rw[O]at g;cases g
        rw[L,rY _ _ au,fT,L1];cases al:lk (vW (cZ ps ds s1.nx)) t with
        |none=>rfl|some a=>obtain⟨i,q,q1,q2,_⟩:=oH _ al;obtain⟨p,p1,p2⟩:=AF _ _ _ _ _ q1;exact absurd (by grind) (by omega)
       ·obtain⟨l2,e2,_⟩:=(d.trans (ex2.trans (Vt B o3))).hh;have ay:(sT ps ds s1 bs0 kill).h=gE ps ds s1 bs0 kill++s1.h:=rfl;have ao:l=l2++gE ps ds s1 bs0 kill:=by rw[e2,ay,<-Tz]at hl;exact(List.append_cancel_right hl).symm
        rw[ao,Ui,TY]at hc;rcases hc with hc|hc;rw[e2,TO,Nat.add_sub_cancel,rA]at k1;have:=k1 c hc;simp only[UK,Up]at this;rcases this with((h1|h1)|h1)|h1;omega;exact .inl (hG h1);exact .inr (.inl (hG h1));exact .inr (.inr (hG h1));simp only[gE,Ui,TY]at hc;rcases hc with h1|h1|h1;rcases xP _ _ _ h1 with h2|h2;omega;exact .inr (.inr h2);exact .inl (uR _ h1);have:=tV _ h1;simp only[TY]at this;rcases this with h2|h2|h2|h2;exact .inr (.inl h2);exact .inl h2;exact .inr (.inr h2);simp at h2;omega
       have:=k4 c hc;simp only[Tl,Uh,UK,Up]at this;refine⟨P5 this.1,?_⟩;rcases this.2 with h1|h1;exact .inl h1;exact .inr (hG h1)
      obtain⟨g1,g2,g3⟩:=head.head (M3 (sos ps) n0 z n);have aa:an.mu (t8 U (sos ps) z)<N:=by
       have:t8 U (sos ps) ds=t8 U (sos ps) es:=by rw[<-hds];exact J4 _ _ _ C
       rw[this]at Z;omega
      obtain⟨ai,f4,s4,w1,bc,F4,av,w2,w3,ba,w4,w5,w6,w7,w8⟩:=Dg k hs1 ht1 G pa V ac hB N z aa n K _ _ _ _ g1 g2 g3;exact⟨ai,f4,s4,w1,bc,F4,av,w2,w3,ba,hx.loop_next w4 d.nx w7 w8,w5,w6,Us d.nx w7,fun r hr hg=>w8 r (Uo hr d.nx) (d.dfr u hr hg (.inl rfl))⟩
  |_=>exact m (by simp) hq
end
def annOf (l:List (Nat×(Fm->SS->J0)))(id:Nat):Bb (Fm->SS->J0):=lk l id
def slp (P:Aw)(U:Ab)(l:List (Nat×(Fm->SS->J0))):mR:=fun id b body f=>match annOf l id with
 |some an=>some (p9 fun s=>NN P U (an f s) b body f)|none=>none
def FK (U:Ab):List (So×E)->Ar
 | []=>[]
 | (k,e)::l=>HI U k e::FK U l
def L4 (U:Ab)(name:String)(places:Code->Fm->SS->Bb (List (At×G)×Ah))(gh:Fm->SS->List (So×E))(inv:Ar->Ar->Prop)(mu:Ar->Ar->Nat):Fm->SS->J0:=
 fun f s=>⟨name,places,inv (FK U (gh f s)),mu (FK U (gh f s)),gh f s⟩
section
variable {P :Aw}{U:Ab}{ov:Aa}{nt:Nat}{ar:Ai}
def SD.fvb {τ:Tau}{F:Ac}{s:SS}{hp:Hp}(h:SD P U τ F s hp)(n:Nat):SD P U τ F (fvb s n) hp:=⟨h.live,h.inj,h.frz,h.lt,h.flt,h.new,h.fc,h.fz⟩
def Ext.fvb {τ τ':Tau}{F F':Ac}{s s':SS}{hp hp':Hp}(h:Ext τ F s hp τ' F' s' hp')(n:Nat):Ext τ F s hp τ' F' (fvb s' n) hp':=⟨h.t,h.f,h.nx,h.snx,h.st,h.low,h.hh,h.hf,h.win⟩
theorem NO {b:Code}{body:Fm->M (Exit×Fm)}(n:∀f',gG P U ov ar nt (body f') b f')(an:J0)(f0:Fm):gG P U ov ar nt (NN P U an b body f0) (.loop b) f0:=by
 intro τ F s hp tm ht hs Q hq _;simp only[NN,p9]at hq;cases c1:an.places b f0 s with
 |none=>rw[c1]at hq;exact hq.elim|some pp=>
  obtain⟨pg,bs0⟩:=pp;rw[c1]at hq;simp only at hq;cases O:bH f0 s pg with
  |none=>rw[O]at hq;exact hq.elim|some L=>
   rw[O]at hq;simp only at hq;obtain⟨D,xs,y,aa⟩:=kZ ht hs O;generalize G:pls pg L=ps at hq;have k:ps.map Pl.at_=pg.map Prod.fst:=by rw[<-G];exact Na D
   rw[A5]at hq;obtain⟨vs,s2,hq,τ2,N,hp2,ex2,r,rfl,K⟩:=Bi ps L xs τ F s hp y hs _ hq hs;rw[A5]at hq;obtain⟨⟨es,bs⟩,j,hq,o3,W,Y⟩:=Gj τ2 ps vs s2 _ hq r.fc;have ab:=r.only o3 W;have z:=ex2.trans (Vt r o3);simp only[p9]at hq;cases c3:bs0.all (aE j j)&&dB bs&&bs.all (fun b=> !U7 b bs0)&&Nat.beq bs.length (DG ps)&&(rbs ps).all (fun b=> !U7 b bs0&& !U7 b bs&&Nat.ble (b+1) j.nx)with
   |false=>rw[c3]at hq;exact hq.elim|true=>
    rw [c3,TE] at hq;simp only [Tl] at c3;obtain ⟨⟨⟨⟨k2,k3⟩,k4⟩,k5⟩,k6⟩:=c3;rw [TS] at k2 k4 k6;have J : ∀ c ∈ rbs ps,c ∉ bs0∧c ∉ bs∧c < j.nx:=fun c hc=>by have:=k6 c hc;simp at this;exact⟨P5 this.1.1,P5 this.1.2,this.2⟩
    have d:=ab.fvb (sos ps).length;have A:=z.fvb (sos ps).length;have u:=ht.mono ex2.t ex2.f;have g:=Y (fvb j (sos ps).length) o3.h;have e:=Bh g;have B:=hq.1;have hB:=iR _ _ _ (hq.2 hq.1);have m:∀c∈bs0,c∉bs:=fun c hc hb=>by have:=k4 c hb;rw[Uh]at this;exact P5 this hc
    have pa:∀p∈ps,∃F0 x0,VD P U τ2 F0 p.a x0:=by intro p hp;obtain⟨i,hi⟩:=Uq.1 hp;rw[<-G]at hi;obtain⟨q,v,g1,V,g3,g4⟩:=Il hi;obtain⟨x,ai,ac⟩:=y.get V;exact⟨N,x,by rw[g4];exact ac.mono ex2.t ex2.f⟩
    have head:Ap P U τ2 N (fvb j (sos ps).length) hp2 f0 tm ps bs0 bs τ2 N (fvb j (sos ps).length) hp2 f0 tm vs es bs xs:=by
     refine⟨d,u,d,u,Ext.refl d,g,K,fun i p x hp ad=>?_,?_,pa,fun t _=>rfl,fun l hl c hc hlt=>?_,J,fun c hc=>⟨m c hc,nW (k2 c hc)⟩,dC k3,fun c hc=>⟨fun h=>m c h hc,.inr hc⟩,Tp k5⟩
     ·have h1:=congrArg (fun l=>l[i]?) k;simp only[Ul,hp,Ug]at h1;cases E:pg[i]? with
      |none=>grind|some q=>rw[E]at h1;simp at h1;rw[h1];exact(aa i q x E ad).mono ex2.t
     have h1:=congrArg List.length k;simp at h1;rw[h1,D];exact y.1.symm
     ·have:l=[]:=by have:=congrArg List.length hl;rw[TO]at this;grind
      grind
    obtain⟨g1,V,g3⟩:=head.head (M3 (sos ps) j.fv es e);obtain⟨T,f4,s4,w1,ah,F4,Z,w2,w3,ae,w4,w5,⟨pre,w6⟩,_⟩:=Dg n d u k pa m J (fun R C X=>hB R C (by rw[J4 _ _ _ C];exact X))
     (an.mu (t8 U (sos ps) es)+1) es (Uv _) e B _ _ _ _ g1 V g3
    exact⟨(T,f4),s4,w1,ah,F4,Z,A.trans w2,w3,ae,w4,w5,pre,w6⟩
theorem NP (l:List (Nat×(Fm->SS->J0))):cU P U ov ar nt (slp P U l):=by intro e b body f r d hr;unfold slp at hr;split at hr;rename_i an _;simp at hr;subst hr;exact fun τ F s hp tm ht hs=>NO d (an f s) f τ F s hp tm ht hs;grind
end
def Ma :An->Ah
 | []=>[]
 |o::os=>match o.dst with
  |some d=>d::Ma os|none=>Ma os
def qV :Code->Ah
 | .region _ ops _=>Ma ops.toList| .seq x y=>qV x++qV y| .cond _ x y=>qV x++qV y| .block _ b=>qV b| .loop b=>qV b| .scope b=>qV b|_=>[]
def anys (own:List (Nat×G)):Ah->Ah->List (At×G)
 |_,[]=>[]
 |seen,t::l=>bif U7 t seen then anys own seen l else match lk own t with
  |some _=>anys own (t::seen) l|none=>(.tmp t,.any)::anys own (t::seen) l
def ownT :List (Nat×G)->List (At×G)
 | []=>[]
 | (t,g)::l=>(.tmp t,g)::ownT l
def cellsG (b:Nat):Nat->List G->List (At×G)
 |_,[]=>[]
 |j,g::l=>(.cell b j,g)::cellsG b (j+1) l
def N7 (own:List (Nat×G))(blks:Fm->SS->Bb (List (Nat×List G))):Code->Fm->SS->Bb (List (At×G)×Ah):=fun c f s=>match blks f s with
 |some bl=>some (ownT own++(bl.map fun p=>cellsG p.1 0 p.2).flatten++anys own [] (qV c),bl.map Prod.fst)|none=>none
def mkPr (rs:Fm->SS->List (At×G))(own:List (Nat×G))(blks:Fm->SS->Bb (List (Nat×List G))):Code->Fm->SS->Bb (List (At×G)×Ah):=fun c f s=>match N7 own blks c f s with
 |some r=>some (rs f s++r.1,r.2)|none=>none
def sx (P:Aw)(U:Ab)(anns:Ay->List (Nat×(Fm->SS->J0)))(con:Ay->Bb (As->M SV))(n:Nat):J2:=
 Z8 P U (fun call nt=>NF P U call nt) (fun _ g _=>slp P U (anns g)) con n
def sxF (P:Aw)(U:Ab)(anns:Ay->List (Nat×(Fm->SS->J0)))(con:Ay->Bb (As->M SV))(n:Nat)(g:Ay):As->M SV:=
 sfun P U (sx P U anns con n) (fun nt=>NF P U (sx P U anns con n) nt) (fun g _=>slp P U (anns g)) n g
section
variable {P :Aw}{U:Ab}{ov:Aa}
def QU (d:Ay->List (Nat×(Fm->SS->J0))){con:Ay->Bb (As->M SV)}(h:∀g k,con g=some k->C8 P U ov k g)(j:∀g,isT (ov g)=true->con g≠none)(n:Nat):E6 P U ov (sx P U d con n):=
 vG (fun _ e _=>Ek e) (fun _ _ _ g _=>NP (d g)) h j n
def Og (d:Ay->List (Nat×(Fm->SS->J0))){con:Ay->Bb (As->M SV)}(e:∀g k,con g=some k->C8 P U ov k g)(h:∀g,isT (ov g)=true->con g≠none)(n:Nat)(g:Ay)(hg:isT (ov g)=false):C8 P U ov (sxF P U d con n g) g:=
 IJ (QU d e h n) (fun _=>Ek (QU d e h n)) (fun _ g _=>NP (d g)) n g hg
end
open Go.Xe Go.RowKit
def AB (w:Bc)(v:Av):Ag:=match v with
 | .bool _| .int _ _| .string _=>some v
 | .slice none _ _=>some v| .slice (some ⟨i,o,none⟩) (l+1) c=>match w.heap[i]? with
  |some (.cells _ _ _)=>if l+1<=c/\c<unk then some (.slice (some ⟨i+1,o,none⟩) (l+1) c)else none
  |_=>none
 | .slice (some _) 0 _=>some (.slice (some ⟨0,0,some 0⟩) 0 unk)|_=>none
def roT (w:Bc):Nat->Af->Ao
 |_,[]=>.e|k,v::vs=>(roT w (k+1) vs).set k (AB w v)
def BA (w:Bc):∀(vs:Af) (k j:Nat),(roT w k vs).get j=if k<=j then(vs[j-k]?).bind (AB w)else none
 | [],k,j=>by simp[roT,VW]|v::vs,k,j=>by have g:=BA w vs (k+1) j;unfold roT;rw[VX];by_cases d:j=k;subst d;rw[TJ rfl,TJ (TK _)];simp;rw[TH d,g];by_cases e:k+1<=j;rw[TJ e,TJ (by omega),show j-k=(j-(k+1))+1 by omega,Tw];rw[TH e,TH (by omega)]
def roB (w:Bc):Obj->Bb Blk
 | .cells C e _=>some (.ro (roT w 0 C.toList) C.size e 0)|_=>none
def roM (w:Bc):Nat->List Obj->T Blk
 |_,[]=>.e|k,o::os=>(roM w (k+1) os).set k (roB w o)
theorem Iw (w:Bc):∀(os:List Obj) (k j:Nat),(roM w k os).get j=if k<=j then(os[j-k]?).bind (roB w)else none
 | [],k,j=>by simp[roM,VW]|o::os,k,j=>by have d:=Iw w os (k+1) j;unfold roM;rw[VX];grind
def Eb (P:Aw)(w:Bc):Hp:=⟨(roM w 1 w.heap.toList).set 0 (some (.reg .e 0 rgT (kf P rgT).length)),w.heap.size+1⟩
def Ec (w:Bc):Nat->Bb Xe.Pl
 |0=>some ⟨0,0,0,0⟩|i+1=>match w.heap[i]? with
  |some (.cells C _ _)=>some ⟨i,0,C.size,0⟩|_=>none
def wX (w:Bc):Sg:=⟨fun i r=>if r=0 then Ec w i else none⟩
def Sw (w:Bc)(i:Nat):wX w i=Ec w i:=rfl
def Bz (w:Bc)(i:Nat):Ec w (i+1)=match w.heap[i]? with
  |some (.cells C _ _)=>some ⟨i,0,C.size,0⟩|_=>none:=rfl
def BS.ro (w:Bc):BS:=⟨(· <w.heap.size),(· <w.heap.size),fun _ h=>h⟩
def uX (P:Aw)(w:Bc)(i:Nat):(Eb P w).m.get (i+1)=(w.heap[i]?).bind (roB w):=by show((roM w 1 w.heap.toList).set 0 _).get (i+1)=_;rw[VX,TH (by omega),Iw,TJ (by omega)];simp
def uY (P:Aw)(w:Bc):(Eb P w).m.get 0=some (.reg .e 0 rgT (kf P rgT).length):=by show((roM w 1 w.heap.toList).set 0 _).get 0=_;rw[VX,TJ rfl]
variable {w:Bc}
def AC {v a:Av}(h:AB w v=some a):VR (wX w) a v:=by
 unfold AB at h;split at h;cases h;exact .bool _;cases h;exact .int _ _;cases h;exact .string _;cases h;exact .nils _ _
 ·rename_i i o l c;split at h
  ·rename_i C e f hh;split at h
   ·rename_i hc;cases h;have hs:wX w (i+1)=some ⟨i,0,C.size,0⟩:=by rw[Sw,Bz,hh]
    have:=VR.slice (σ:=wX w) (i+1) o _ (l+1) c c hs (.inl ⟨rfl,hc.2⟩) hc.1;simpa using this
   cases h
  cases h
 cases h;exact .vague _ _;cases h
def zF {i:Nat}{p:Xe.Pl}(h:Ec w (i+1)=some p):p.blk=i:=by rw[Bz]at h;split at h;simp only[Tk]at h;rw[<-h];cases h
def HR.ro (P:Aw)(w:Bc):HR (BS.ro w) w (wX w) (Eb P w) w:=by
 have nr:∀i b r,(Eb P w).m.get i=some b->Ix b r-> ∃j C e f,i=j+1/\r=0/\w.heap[j]? =some (.cells C e f)/\b= .ro (roT w 0 C.toList) C.size e 0:=by
  intro i b r hg hx;cases i with
  |zero=>rw[uY,Tk]at hg;subst hg;have hx:1<=r/\r<=0:=hx;omega|succ j=>
   rw[uX,Option.bind_eq_some_iff]at hg;obtain⟨o,g,hb⟩:=hg;cases o with
   |cells C e f=>simp only[roB,Tk]at hb;subst hb;exact⟨j,C,e,f,rfl,hx,g,rfl⟩|_=>cases hb
 refine⟨rfl,rfl,rfl,TK _,fun _ h=>h,fun _ _=>rfl,fun i r hi=>?_,fun i b r hg hx=>?_,fun i j b b' r s p q hi hj hx hy n hp hq=>?_,fun i b hg hb=>?_⟩
 ·have hi:w.heap.size+1<=i:=hi;show(if r=0 then Ec w i else none)=none;split
  ·obtain⟨j,rfl⟩:∃j,i=j+1:=⟨i-1,by omega⟩
   rw[Bz,Array.getElem?_eq_none (by omega)]
  rfl
 obtain⟨j,C,e,f,rfl,rfl,g,rfl⟩:=nr i b r hg hx;refine⟨⟨j,0,C.size,0⟩,_,by show Ec w (j+1)=_;rw[Bz,g],(TB.1 g).1,g,C,f,rfl,rfl,rfl,by simp,fun k v hj hv=>?_⟩;rw[BA,TJ (UY _),UN,Option.bind_eq_some_iff]at hv;obtain⟨u,h1,h2⟩:=hv;exact⟨u,by simpa using h1,AC h2⟩;obtain⟨t,_,_,_,rfl,rfl,_⟩:=nr i b r hi hx;obtain⟨j',_,_,_,rfl,rfl,_⟩:=nr j b' s hj hy;have e1:=zF (w:=w) (show Ec w (t+1)=some p from hp);have e2:=zF (w:=w) (show Ec w (j'+1)=some q from hq);omega
 ·cases i with
  |zero=>rw[uY,Tk]at hg;subst hg;exact⟨⟨_,rfl⟩,fun r h0 _=>TH h0⟩|succ j=>
   rw[uX,Option.bind_eq_some_iff]at hg;obtain⟨o,_,d⟩:=hg;cases o with
   |cells C e f=>simp only[roB,Tk]at d;subst d;cases hb
   |_=>cases d
def roF (w:Bc):Ac
 |0=>none|i+1=>(w.heap[i]?).bind (roB w)
def Nu (P:Aw)(w:Bc):∀i b,roF w i=some b->(Eb P w).m.get i=some b/\i<(Eb P w).nx:=by
 intro i b h;cases i with
 |zero=>cases h
 |succ j=>refine⟨by rw[uX];exact h,?_⟩;have h:(w.heap[j]?).bind (roB w)=some b:=h;rw[Option.bind_eq_some_iff]at h;obtain⟨o,d,_⟩:=h;have:=(TB.1 d).1;show j+1<w.heap.size+1;omega
def Ko {i:Nat}{C:Al}{e:Ax}{f:Nat×Nat}(h:w.heap[i]? =some (.cells C e f)):roF w (i+1)=some (.ro (roT w 0 C.toList) C.size e 0):=by show(w.heap[i]?).bind (roB w)=_;rw[h];rfl
def Dp (f:Ax->Nat->List (Nat×Ax))(o:Nat):List Field->List (Nat×Ax)
 | []=>[]
 |x::xs=>f x.type (o+x.offset)++Dp f o xs
def dD (P:Aw):Nat->Ax->Nat->List (Nat×Ax)
 |0,_,_=>[]
 |d+1,t,o=>match P.underlying t with
  |some (.struct fs)=>Dp (dD P d) o fs.toList|some (.array n e)=>((List.range n).map fun i=>dD P d e (o+i*P.cellsOf e)).flatten|_=>[(o,t)]
def isAgg (P:Aw)(t:Ax):Bool:=match P.underlying t with
 |some (.struct _)=>true|some (.array _ _)=>true|_=>false
section
variable {H :Type}{enc:Ax×Av->H}{P:Aw}{w:Bc}{spare:Nat->Bool}{held:Bool}
def yE {f:Ax->Nat->List (Nat×Ax)}{o:Nat}{p:Nat×Ax}:∀ {l:List Field},p∈Dp f o l-> ∃x∈l,p∈f x.type (o+x.offset)
 | [],h=>by simp[Dp]at h|x::xs,h=>by unfold Dp at h;rcases TY.1 h with h|h;exact⟨x,by simp,h⟩;obtain⟨y,h1,h2⟩:=yE h;exact⟨y,by simp[h1],h2⟩
theorem jN :∀(d:Nat) {p:Nat} {t:Ax} {cs:Af} {x:DataW H×List MemPlace},DataW.trod enc P w 0 spare held p t cs=some x-> ∀(a o:Nat) (u:Ax),(o,u)∈dD P d t a-> ∃(j:Nat) (cs':Af) (g:Nat) (x':DataW H×List MemPlace),o=a+j/\g<=p/\isAgg P u=false/\DataW.trod enc P w 0 spare held g u cs'=some x'/\ ∀(k:Nat) v,cs'[k]? =some v->cs[j+k]? =some v
 |0,p,t,cs,x,h,a,o,u,hm=>by simp[dD]at hm|d+1,p,t,cs,x,h,a,o,u,hm=>by
  unfold dD at hm;split at hm
  ·rename_i q ht;obtain⟨xs,n,rfl,_,_,_,hf⟩:=DataW.trod_struct ht h;obtain⟨f,r,y⟩:=yE hm;obtain⟨i,hi⟩:=Uq.1 r;have z:q[i]? =some f:=by grind
   have:=hf i f z;have hlt:i<xs.length:=by grind
   rw[Tx hlt]at this;obtain⟨j,cs',g,x',h1,h2,h3,h4,h5⟩:=jN d this (a+f.offset) o u y;exact⟨f.offset+j,cs',g,x',by omega,by omega,h3,h4,fun k v hv=>by grind⟩
  ·rename_i n e ht;obtain⟨i,hi,hm⟩:∃i,i<n/\(o,u)∈dD P d e (a+i*P.cellsOf e):=by grind
   obtain⟨m,x',h1,h2⟩:∃m x',p=m+1/\DataW.trod enc P w 0 spare held m e ((cs.drop (i*P.cellsOf e)).take (P.cellsOf e))=some x':=by
    cases p with
    |zero=>simp[DataW.trod]at h|succ m=>
     unfold DataW.trod at h;rw[ht]at h;simp only at h;split at h
     ·rw[UP]at h;obtain⟨xs,hx,_⟩:=h;have:=mapM_some_get hx i i (by grind);have hl:=mapM_some_length hx;have hlt:i<xs.length:=by grind
      rw[Tx hlt]at this;exact⟨m,_,rfl,this⟩
     cases h
   obtain⟨j,cs',g,A,h1,h2,h3,h4,h5⟩:=jN d h2 _ o u hm;exact⟨i*P.cellsOf e+j,cs',g,A,by omega,by omega,h3,h4,fun k v hv=>by grind⟩
  rename_i h1 h2;simp only[Uz,Tm]at hm;obtain⟨rfl,rfl⟩:=hm;refine⟨0,cs,p,x,by omega,TK _,?_,h,fun k v hv=>by grind⟩;unfold isAgg;split;rename_i q hh;exact absurd hh (h1 q);rename_i n e hh;exact absurd hh (h2 n e);rfl
end
end Go.Sx
namespace Go.Sx
open Go.Xe Go.RowKit
inductive DW (P:Aw):Kd->Dat->Prop
 |int (k:IntKind) (n:Int) (h:k.min<=n/\n<=k.max):DW P (.int k) (.int n)
 |bool (b:Bool):DW P .bool (.bool b)
 |str (s:Ae) (h:s.length<=maxLen):DW P .str (.str s)
 | sl (e : Ax) (rows : Rows) (hl : rows.length ≤ maxLen) (hz : ∀ r ∈ rows, r.length = (kf P e).length)
   (h:∀(r k:Nat) (row:Ar) (kd:Kd) (d:Dat),rows[r]? =some row->row[k]? =some d->(kf P e)[k]? =some kd->DW P kd d):DW P (.sl e) (.lst rows)
def FU (P:Aw)(e:Ax):Bool:=
 Nat.beq (dD P 20 e 0).length (kf P e).length&&Nat.beq (P.cellsOf e) (kf P e).length&&Nat.ble 1 (kf P e).length&&
  ((dD P 20 e 0).zipIdx.all fun p=>Nat.beq p.1.1 p.2)&&((dD P 20 e 0).zip (kf P e)).all fun p=>decide (kd1 P p.1.2=p.2)
def De (P:Aw):Nat->Kd->Bool
 |_,.int _=>true|_,.bool=>true|_,.str=>true|n+1,.sl e=>FU P e&&(kf P e).all (De P n)|_,_=>false
def Lh (P:Aw)(S:Kd->Prop):Prop:=∀kd,S kd->match kd with
 | .int _=>True| .bool=>True| .str=>True| .sl e=>FU P e=true/\ ∀k∈kf P e,S k|_=>False
def inL (es:List Ax):Kd->Bool
 | .int _=>true| .bool=>true| .str=>true| .sl e=>U7 e es|_=>false
theorem Pa (P:Aw):Lh P fun kd=>∃m,De P m kd=true:=by
 rintro kd ⟨m,h⟩;cases kd with
 |sl e=>
  cases m with
  |zero=>cases h
  |succ m=>simp only[De,Tl,TS]at h;grind
 |_=>first|trivial| (cases m<;>cases h)
section
variable {H :Type}{enc:Ax×Av->H}{P:Aw}{w:Bc}{spare:Nat->Bool}{held:Bool}
theorem tW {e:Ax}(h:FU P e=true):P.cellsOf e=(kf P e).length/\1<=(kf P e).length/\ ∀k kd,(kf P e)[k]? =some kd-> ∃u,(k,u)∈dD P 20 e 0/\kd1 P u=kd:=by
 simp only[FU,Tl,Ub,Up]at h;obtain⟨⟨⟨⟨h1,h2⟩,h3⟩,h4⟩,h5⟩:=h;refine⟨h2,h3,fun k kd hk=>?_⟩;have hlt:=(Tn.1 hk).1;have hl:k<(dD P 20 e 0).length:=by omega
 have hg:=Tx hl;rw[TS]at h4 h5;have d:=h4 ((dD P 20 e 0)[k],k) (by grind);have a2:=h5 ((dD P 20 e 0)[k],kd) (Tv (by rw[List.getElem?_zip_eq_some];exact⟨hg,hk⟩));simp at d a2;grind
theorem Lm (a:Addr)(i j:Nat):(a.add i).add j=a.add (i+j):=by unfold Addr.add;grind
variable (P w) in
def mM (kd:Kd)(v:Av)(d:Dat):Prop:=∃a,AB w v=some a/\PV P (roF w) kd a d/\DW P kd d
theorem CI {S:Kd->Prop}(hS:Lh P S):∀(N t:Nat),t<N-> ∀(u:Ax) (cs:Af) (x:DataW H×List MemPlace),DataW.trod enc P w 0 spare held t u cs=some x->S (kd1 P u)-> ∃v d,cs=[v]/\mM P w (kd1 P u) v d
 |0,_,h,_,_,_,_,_=>absurd h (Nat.not_lt_zero _)|N+1,t,hN,u,cs,x,ht,hg=>by
  unfold kd1 at hg⊢;split at hg;rename_i k G;clear hg;obtain⟨n,rfl,_,hw⟩:=DataW.trod_int G ht;refine⟨.int k n,.int n,rfl,.int k n,rfl,.int k n,.int k n ?_⟩;unfold Lit.wf at hw;grind;rename_i G;obtain⟨b,rfl,_⟩:=DataW.trod_bool G ht;exact⟨.bool b,.bool b,rfl,.bool b,rfl,.bool b,.bool b⟩;rename_i G;obtain⟨s,rfl,_,hs⟩:=DataW.trod_string G ht;refine⟨.string s,.str s.data.toList,rfl,.string s,rfl,?_,.str _ ?_⟩;exact .str s.data.toList;simp_all
  ·rename_i e G;obtain⟨ac,ap⟩:=hS _ hg;obtain⟨l1,l2,l3⟩:=tW ac;rcases DataW.trod_slice G ht with⟨rfl,_⟩| ⟨a,len,cap,L,rest,n,rfl,rfl,_,_,aq,al,ba,ao,_,_⟩;exact⟨.slice none 0 0,.lst [],rfl,.slice none 0 0,rfl,.nils e,.sl e [] (UY _) (fun r h=>by simp at h) (fun r k row kd d h=>by simp at h)⟩
   ·cases len with
    |zero=>refine⟨.slice (some a) 0 cap,.lst [],rfl,.slice (some ⟨0,0,some 0⟩) 0 unk,?_,.vague e,.sl e [] (UY _) (fun r h=>by simp at h) (fun r k row kd d h=>by simp at h)⟩;obtain⟨i,o,sp⟩:=a;cases sp<;>rfl
    |succ len=>
    have cell:∀r k,r<len+1->k<(kf P e).length-> ∀kd,(kf P e)[k]? =some kd-> ∃v d,w.cell? (a.add (r*P.cellsOf e+k))=some v/\mM P w kd v d:=by
     intro r k hr hk kd g;have h1:=ao r hr;have hlt:r<L.length:=by omega
     rw[Tx hlt,Option.bind_eq_some_iff]at h1;obtain⟨cs,ah,ai⟩:=h1;obtain⟨_,ax,aj⟩:=World.cells?_some ah;obtain⟨u',av,ad⟩:=l3 k kd g;obtain⟨j,cs',M,x',q1,q2,q3,q4,q5⟩:=jN 20 ai 0 k u' av;obtain⟨v,d,rfl,hv⟩:=CI hS N M (by omega) u' cs' x' q4 (by rw[ad];exact ap kd (Tv g));refine⟨v,d,?_,by rw[ad]at hv;exact hv⟩;have:=q5 0 v rfl;have hj:j=k:=by omega
     subst hj;rw[UA]at this;rw[<-this,<-aj j (by omega)];congr 1;exact(Lm a _ _).symm
    have first:∃kd,(kf P e)[0]? =some kd:=⟨_,Tx (by omega)⟩
    obtain⟨aw,ab⟩:=first
    obtain⟨v0,_,m,_⟩:=cell 0 0 (by omega) (by omega) aw ab;obtain⟨i,o,sp⟩:=a;have au:sp=none:=by
     cases sp with
     |none=>rfl|some q=>
      have hb:((⟨i,o,some q⟩:Addr).add (0*P.cellsOf e+0)).block=i:=by unfold Addr.add;split<;>rfl
      unfold World.cell? at m;rw[hb]at m;split at m
      ·rename_i hh;have:((⟨i,o,some q⟩:Addr).add (0*P.cellsOf e+0)).spot.isSome=true:=by unfold Addr.add;simp
       grind
      cases m
    subst au;have E:∀j,(⟨i,o,none⟩:Addr).add j=⟨i,o+j,none⟩:=fun j=>UW _ _ _;obtain⟨C,e',f,hh⟩:∃C e' f,w.heap[i]? =some (.cells C e' f):=by rw[E]at m;unfold World.cell? at m;grind
    have J:∀r k,r<len+1->k<(kf P e).length-> ∀kd,(kf P e)[k]? =some kd-> ∃v d,C[o+r*(kf P e).length+k]? =some v/\mM P w kd v d:=by intro r k hr hk kd g;obtain⟨v,d,h1,h2⟩:=cell r k hr hk kd g;refine⟨v,d,?_,h2⟩;rw[E,cell_of_row w i _ C e' f hh,l1]at h1;grind
    clear cell;have K:∀p:Nat×Nat,∃q:Av×Dat,p.1<len+1-> ∀kd,(kf P e)[p.2]? =some kd->C[o+p.1*(kf P e).length+p.2]? =some q.1/\mM P w kd q.1 q.2:=by
     intro⟨r,k⟩;simp only;by_cases hr:r<len+1
     ·cases hk:(kf P e)[k]? with
      |none=>exact⟨(undef,.int 0),fun _ kd h=>by cases h⟩|some kd=>obtain⟨v,d,h1,h2⟩:=J r k hr (Tn.1 hk).1 kd hk;exact⟨(v,d),fun _ bc h=>by cases h;exact⟨h1,h2⟩⟩
     exact⟨(undef,.int 0),fun h=>absurd h hr⟩
    obtain⟨ch,ay⟩:=Classical.axiomOfChoice K;obtain⟨vv,bb⟩:∃vv:Nat->Nat->Av,∀r k,vv r k=(ch (r,k)).1:=⟨fun r k=>(ch (r,k)).1,fun _ _=>rfl⟩
    obtain⟨T,az⟩:∃T:Nat->Nat->Dat,∀r k,T r k=(ch (r,k)).2:=⟨fun r k=>(ch (r,k)).2,fun _ _=>rfl⟩
    have y:∀r k,r<len+1-> ∀kd,(kf P e)[k]? =some kd->C[o+r*(kf P e).length+k]? =some (vv r k)/\mM P w kd (vv r k) (T r k):=by simp_all
    have z1:=l2;generalize hz:(kf P e).length=z at*;have Z:o+(len+1)*z<=C.size:=by have hk:(kf P e)[z-1]? =some ((kf P e)[z-1]'(by omega)):=Tx (by omega);have:=(y len (z-1) (by omega) _ hk).1;grind
    let rows:Rows:=(List.range (len+1)).map fun r=>(List.range z).map fun k=>T r k
    have B:∀(r k:Nat) (row:Ar) (d:Dat),rows[r]? =some row->row[k]? =some d->r<len+1/\k<z/\d=T r k:=by grind
    have D:rows.length=len+1:=by simp[rows]
    have rz:∀r∈rows,r.length=z:=by intro r hr;simp only[rows,UO]at hr;obtain⟨i,_,rfl⟩:=hr;simp
    have R:cap<unk:=by have:=al;unfold maxLen at this;unfold unk;omega
    have Y:AB w (.slice (some ⟨i,o,none⟩) (len+1) cap)=some (.slice (some ⟨i+1,o,none⟩) (len+1) cap):=by unfold AB;simp only[hh];rw[TJ ⟨aq,R⟩]
    have A:∀k,k<z-> ∃kd,(kf P e)[k]? =some kd:=fun k hk=>⟨_,Tx (by omega)⟩
    have ae:∀p:Nat×Nat,∃a,p.1<len+1->p.2<z->AB w (vv p.1 p.2)=some a:=by intro⟨r,k⟩;simp only;by_cases h:r<len+1/\k<z;obtain⟨kd,g⟩:=A k h.2;obtain⟨_,a,ha,_⟩:=y r k h.1 kd g;exact⟨a,fun _ _=>ha⟩;exact⟨undef,fun h1 h2=>absurd ⟨h1,h2⟩ h⟩
    obtain⟨ca,ak⟩:=Classical.axiomOfChoice ae;obtain⟨aa,X⟩:∃aa:Nat->Nat->Av,∀r k,aa r k=ca (r,k):=⟨fun r k=>ca (r,k),fun _ _=>rfl⟩
    have W:∀r k,r<len+1->k<z->AB w (vv r k)=some (aa r k):=by intro r k h1 h2;rw[X];exact ak (r,k) h1 h2
    refine⟨_,.lst rows,rfl,_,Y,?_,?_⟩
    ·rw[<-D];refine .sl e (i+1) o cap (.ro (roT w 0 C.toList) C.size e' 0) (roT w 0 C.toList) C.size z (zb:=0) rows aa (Ko hh) rfl ⟨.inl ⟨R,by omega⟩,fun _=>R,fun h=>by cases h⟩ (by rw[D];exact Z) hz.symm rz ?_ ?_
     ·intro r k row d h1 h2;obtain⟨O,V,rfl⟩:=B r k row d h1 h2;obtain⟨kd,g⟩:=A k V;have:=(y r k O kd g).1;rw[BA,TJ (UY _),UN];have e1:C.toList[o+r*z+k]? =some (vv r k):=by rw[<-this];simp
      rw[e1];exact W r k O V
     intro r k row kd d h1 h2 g;obtain⟨O,V,rfl⟩:=B r k row d h1 h2;obtain⟨_,a,ha,hp,_⟩:=y r k O kd g;have:=W r k O V;rw[ha]at this;cases this;exact hp
    refine .sl e rows (by rw[D];omega) (fun r hr=>by rw[hz];exact rz r hr) ?_;intro r k row kd d h1 h2 g;obtain⟨O,V,rfl⟩:=B r k row d h1 h2;exact(y r k O kd g).2.choose_spec.2.2
  rename_i e G;cases hb:Nat.beq e rgT<;>rw[hb]at hg<;>exact(hS _ hg).elim;exact(hS _ hg).elim
variable {xs:Al}{ps:List MemPlace}
theorem LB {S:Kd->Prop}(q:Lh P S){u:Ax}{d:DataW H}(h:DataW.Trod enc P w 0 spare held u (.agg xs) d ps)(hl:FU P u=true)(hg:∀kd∈kf P u,S kd):∀(k:Nat) (kd:Kd),(kf P u)[k]? =some kd-> ∃(v:Av) (d:Dat),xs[k]? =some v/\mM P w kd v d:=by
 intro k kd g;obtain⟨n,h⟩:=h;obtain⟨z,A,t⟩:=tW hl;obtain⟨p,m,r⟩:=t k kd g;obtain⟨j,cs',e,x',B,C,D,x,y⟩:=jN 20 h 0 k p m;obtain⟨v,d,rfl,hv⟩:=CI q (e+1) e (Uv _) p cs' x' x (by grind);have:=y 0 v rfl;have hj:j=k:=by omega
 subst hj;refine⟨v,d,by simpa [Value.cells]using this,by grind⟩
theorem OM {u:Ax}{d:DataW H}(h:DataW.Trod enc P w 0 spare held u (.agg xs) d ps){m:Nat}(hl:FU P u=true)(hg:(kf P u).all (De P m)=true):∀(k:Nat) (kd:Kd),(kf P u)[k]? =some kd-> ∃(v:Av) (d:Dat),xs[k]? =some v/\mM P w kd v d:=
 LB (Pa P) h hl fun kd hk=>(by grind)
end
section
variable {P :Aw}{U:Ab}{ov:Aa}
def HR.roBelow {σ:Sg}{hp:Hp}{w w':Bc}(h:HR (BS.ro w) w σ hp w'):Below w.heap.size w w':=
 ⟨h.os,h.tape,h.output,h.size,h.kept⟩
end
open Go.Xe
inductive Lf where
 |g (k:G)
 |ptr (i z:Nat)
 |nilp
 |clo (g:Ay) (is:List (Nat×Nat))
 |cst (k:G) (e:E)
def Lf.so :Lf->Bb So
 | .g k=>k.so|_=>none
def Lf.na :Lf->Nat
 | .g k=>k.na|_=>0
def Lf.blk (x:Lf)(d:E):Bb B4:=match x with
 | .g k=>k.blk .any d|_=>none
def lvv (num:Nat->Nat)(x:Lf)(e:E)(nb:Nat):SV:=match x with
 | .g k=>tv k .any e nb| .ptr i z=>.ptr (num i) z (.int 0) 0| .nilp=>.nilp| .clo g is=>.fn (.func g) [] (is.map fun p=>.ptr (num p.1) p.2 (.int 0) 0)| .cst k e=>tv k .any e nb
def DQ (x:Lf)(es:Au):Au:=match x.so with
 |some _=>tl1 es|none=>es
def LJ (num:Nat->Nat):List Lf->Au->Nat->As
 | [],_,_=>[]
 |x::l,es,nb=>lvv num x (hd1 es) nb::LJ num l (DQ x es) (nb+x.na)
def V2 :List Lf->Au->Nat->List (Nat×Bb B4)
 | [],_,_=>[]
 |x::l,es,nb=>match x.blk (hd1 es)with
  |some X=>(nb,some X)::V2 l (DQ x es) (nb+x.na)|none=>V2 l (DQ x es) (nb+x.na)
def n8 :List Lf->List So
 | []=>[]
 |x::l=>Z1 x.so (n8 l)
def I3 :List Lf->Nat
 | []=>0|x::l=>x.na+I3 l
section
variable (P :Aw)(U:Ab)
def MR (x:Lf)(v:SV):M SV:=match x with
 | .g k=>rC P U k v| .cst k _=>rC P U k v|_=>i3 v
def eqS (so:So)(d e:E):Bb E:=match so with
 | .i=>some (F7 d e)| .s=>some (nL d e)| .b=>some (HY d e)| .l=>match e with
  | .op .nil []=>some (F7 (A7 d) (.int 0))|_=>none
def yR :List Lf->As->M (As)
 |x::l,v::vs=>b9 (MR P U x v) fun v'=>b9 (yR l vs) fun vs'=>i3 (v'::vs')
 | [],[]=>i3 []|_,_=>a8 "contract: places"
def Mm (bl:Ah)(i b:Nat):Bool:=match bl[i]? with
 |some b'=>Nat.beq b b'|none=>false
def mtC (bl:Ah):List (Nat×Nat)->As->Bool
 | [],[]=>true|p::is,.ptr b z (.int m) f::l=>Mm bl p.1 b&&Nat.beq p.2 z&&decide (m=0)&&Nat.beq f 0&&mtC bl is l|_,_=>false
def JR (bl:Ah)(x:Lf)(v:SV):M (Bb E×Ai):=match x with
 | .g k=>mt1 U k .any v| .ptr i z=>match v with
  | .ptr b z' (.int m) f=>bif Mm bl i b&&Nat.beq z z'&&decide (m=0)&&Nat.beq f 0 then i3 (none,none)else a8 "contract: another pointer"|_=>a8 "contract: no pointer"
 | .nilp=>match v with
  | .nilp=>i3 (none,none)|_=>a8 "contract: not nil"
 | .clo g is=>match v with
  | .fn (.func g') [] l=>bif Nat.beq g g'&&mtC bl is l then i3 (none,none)else a8 "contract: another function"|_=>a8 "contract: no function"
 | .cst k e => bif Nat.beq k.na 0 then b9 (mt1 U k .any v) fun r => match r.1, k.so with
   |some d,some so=>match eqS so d e with
    |some c=>b9 (l8 U c) fun _=>i3 (none,none)
    |none=>a8 "contract: known"
   |_,_=>a8 "contract: known"
  else a8 "contract: known"
def mtL (bl:Ah):List Lf->As->M (Au×Ah)
 |x::l,v::vs=>b9 (JR U bl x v) fun r=>b9 (mtL bl l vs) fun t=>i3 (Z1 r.1 t.1,Z1 r.2 t.2)
 | [],[]=>i3 ([],[])|_,_=>a8 "contract: places"
end
section
variable {P :Aw}{U:Ab}
variable {τ:Tau}{F:Ac}{hp:Hp}
def JV {s:SS}(x:Lf){v:SV}{u:Av}(hv:VD P U τ F v u)(hs:SD P U τ F s hp):OKh P U (MR P U x v) τ F s hp fun v' τ' F' hp'=>hp'=hp/\VD P U τ' F' v' u:=by
 cases x with
 |g k=>exact uN k hv hs|cst k e=>exact uN k hv hs|_=>exact VC ⟨rfl,hv⟩
theorem hO :∀(ps:List Lf) (vs:As) (xs:Af) (τ:Tau) (F:Ac) (s:SS) (hp:Hp),VDL P U τ F vs xs->SD P U τ F s hp->OKh P U (yR P U ps vs) τ F s hp fun d τ' F' hp'=>hp'=hp/\VDL P U τ' F' d xs
 | [],[],xs,τ,F,s,hp,hv,hs=>VC ⟨rfl,hv⟩| [],v::vs,xs,τ,F,s,hp,hv,hs=>VA|p::ps,[],xs,τ,F,s,hp,hv,hs=>VA|p::ps,v::vs,xs,τ,F,s,hp,hv,hs=>by obtain⟨y,ys,rfl,h1,h2⟩:=hv.uncons;refine(JV p h1 hs).bind fun v' τ1 F1 s1 hp1 ex hs1 ⟨e1,e2⟩=>(hO ps vs ys τ1 F1 s1 hp1 (h2.mono ex.t ex.f) hs1).bind fun d τ2 g s2 hp2 ex2 e ⟨k1,k2⟩=>VC ⟨by grind,.cons (e2.mono ex2.t ex2.f) k2⟩
theorem Ry {so:So}{d e c:E}(h:eqS so d e=some c)(hp:c.pr U):nX U so d e:=by unfold eqS at h;split at h;cases h;exact bL hp;cases h;rw[Vq,V6]at hp;show(d.den U).toStr=(e.den U).toStr;grind;cases h;rw[Vq,yK]at hp;show(d.den U).toBool=(e.den U).toBool;grind;split at h;cases h;have:=bL hp;rw[j2,B7]at this;show d.toR U=_;have h0:d.toR U=[]:=List.length_eq_zero_iff.1 (by omega);rw[h0];rfl;cases h
variable (P U) in
def LOK (bl:Ah)(τ:Tau)(F:Ac)(s:SS)(x:Lf)(v:SV)(r:Bb E×Ai):Prop:=
 (∀so,x.so=some so-> ∃e,r.1=some e)/\(x.so=none->r.1=none)/\(x.na=0->r.2=none)/\
 (∀u,VD P U τ F v u-> ∀(τ2:Tau) (num:Nat->Nat) (nb:Nat) (d:E),(∀i b,bl[i]? =some b->τ2 (num i)=τ b)->(∀e so,r.1=some e->x.so=some so->nX U so e d)->(∀b,r.2=some b->τ2 nb=τ b)->VD P U τ2 F (lvv num x d nb) u)/\
 (x.na≠0-> ∃so,x.so=some so/\Le P U τ F s so x.blk r)
theorem Ic {bl:Ah}:∀ {is:List (Nat×Nat)} {l:As} {num:Nat->Nat},mtC bl is l=true->(is.map fun p=>SV.ptr (num p.1) p.2 (.int 0) 0).length=l.length
 | [],[],num,_=>rfl| [],_::_,num,h=>by simp[mtC]at h|p::is,[],num,h=>by simp[mtC]at h|p::is,a::l,num,h=>by unfold mtC at h;split at h;grind;rename_i e1 e2;cases e2;simp at h;have:=Ic (num:=num) h.2;grind;cases h
theorem Ib {bl:Ah}{τ τ2:Tau}{F:Ac}{num:Nat->Nat}:∀ {is:List (Nat×Nat)} {l:As} {ys:Af},mtC bl is l=true->(∀i b,bl[i]? =some b->τ2 (num i)=τ b)->VDL P U τ F l ys-> ∀ {i:Nat} {a:SV} {x:Av},(is.map fun p=>SV.ptr (num p.1) p.2 (.int 0) 0)[i]? =some a->ys[i]? =some x->VD P U τ2 F a x
 | [],l,ys,h,hb,hv,i,a,x,d,hx=>by grind|p::is,[],ys,h,hb,hv,i,a,x,d,hx=>by simp[mtC]at h|p::is,b0::l,ys,h,hb,hv,i,a,x,d,hx=>by
  unfold mtC at h;split at h;grind
  ·rename_i e1 e2;cases e1;cases e2;simp at h;obtain⟨⟨⟨⟨h1,h2⟩,h3⟩,h4⟩,h5⟩:=h;subst h3;subst h4;obtain⟨y,j,rfl,k1,k2⟩:=hv.uncons;cases i with
   |zero=>
    simp at d hx;subst d;subst hx;unfold Mm at h1;split at h1
    ·rename_i b' e;have:=Tp h1;subst this;cases k1 with
     |ptr _ _ _ _ g o' h h0=>rw[h2];exact .ptr _ _ (.int 0) 0 g o' (by grind) h0
    grind
   |succ i=>exact Ib h5 hb k2 d hx
  cases h
theorem Pq {s:SS}(bl:Ah)(x:Lf)(v:SV):OKp U (JR U bl x v) s fun r=>∀s',s'.h=s.h->LOK P U bl τ F s' x v r:=by
 cases x with
 |g k=>refine(Gi (P:=P) (τ:=τ) (F:=F) (fun _=>none) k .any v).mono fun r h s' q=>?_;obtain⟨h1,h2,h3,h4,h5⟩:=h s' q;refine⟨h1,h2,h3,fun u j τ2 num nb d _ t hb=>h4 u j τ2 nb d (fun b p e=>by grind) ⟨fun _=>none,undef,.any _⟩ t hb,fun y=>h5.1 y⟩
 |ptr i z=>
  simp only[JR];split
  ·rename_i b J m f;cases hc:Mm bl i b&&Nat.beq z J&&decide (m=0)&&Nat.beq f 0 with
   |false=>exact VE|true=>
    simp at hc;obtain⟨⟨⟨hi,rfl⟩,rfl⟩,rfl⟩:=hc;refine VJ fun s' _=>⟨fun so h=>(by cases h),fun _=>rfl,fun _=>rfl,fun u j τ2 num nb d hb _ _=>?_,fun h=>absurd rfl h⟩
    unfold Mm at hi;split at hi
    ·rename_i b' C;have:=Tp hi;subst this;cases j with
     |ptr _ _ _ _ E o' h h0=>exact .ptr (num i) z (.int 0) 0 E o' (by grind) h0
    grind
  exact VE
 |clo g is=>
  simp only[JR];split
  ·rename_i g' l;cases hc:Nat.beq g g'&&mtC bl is l with
   |false=>exact VE|true=>
    rw[Tl]at hc;have:=Tp hc.1;subst this;refine VJ fun s' _=>⟨fun so h=>(by cases h),fun _=>rfl,fun _=>rfl,fun u j τ2 num nb d hb _ _=>?_,fun h=>absurd rfl h⟩
    cases j with
    |fn _ _ _ xs ys h1 h2 h3 h4=>exact .fn _ _ _ xs ys h1 (by grind) (by rw[<-h3];exact Ic hc.2) fun i a x B hx=>Ib hc.2 hb ⟨h3,h4⟩ B hx
  exact VE
 |nilp=>
  simp only[JR];split
  ·refine VJ fun s' _=>⟨fun so h=>(by cases h),fun _=>rfl,fun _=>rfl,fun u j τ2 num nb d _ _ _=>?_,fun h=>absurd rfl h⟩
   cases j;exact .nilp
  exact VE
 |cst k e=>
  simp only[JR];cases hn:Nat.beq k.na 0 with
  |false=>exact VE|true=>have hn:=Tp hn;rw[TE];refine(Gi (P:=P) (τ:=τ) (F:=F) (fun _=>none) k .any v).bind fun r s1 L _ hr=>?_;split;rename_i d so t A;split;rename_i c hc;refine OKp.need.bind fun _ s2 M D hp=>VJ fun s' q=>?_;obtain⟨h1,h2,h3,h4,h5⟩:=hr s' q;refine⟨fun so h=>(by cases h),fun _=>rfl,fun _=>rfl,fun u j τ2 num nb K _ _ _=>h4 u j τ2 nb e (fun b p e=>by grind) ⟨fun _=>none,undef,.any _⟩ (fun e' G he n=>?_) fun b hb=>?_,fun h=>absurd rfl h⟩;rw[t]at he;cases he;rw[A]at n;cases n;exact Ry hc hp;grind;exact VE;exact VE
variable (P U) in
def jT (bl:Ah)(τ:Tau)(F:Ac)(s:SS):List Lf->As->Au->Ah->Prop
 | [],[],es,bs=>es=[]/\bs=[]
 |x::l,v::vs,es,bs=>∃r es' bs',es=Z1 r.1 es'/\bs=Z1 r.2 bs'/\LOK P U bl τ F s x v r/\jT bl τ F s l vs es' bs'|_,_,_,_=>False
def uJ {τ:Tau}{F:Ac}(bl:Ah):∀(ps:List Lf) (vs:As) (s:SS),OKp U (mtL U bl ps vs) s fun r=>∀s',s'.h=s.h->jT P U bl τ F s' ps vs r.1 r.2
 | [],[],s=>VJ fun _ _=>⟨rfl,rfl⟩
 | [],_::_,s=>VE|_::_,[],s=>VE|p::ps,v::vs,s=>by exact(Pq (P:=P) (τ:=τ) (F:=F) bl p v).bind fun r s1 e _ h1=>(uJ (τ:=τ) (F:=F) bl ps vs s1).bind fun t s2 g _ h2=>VJ fun s' d=>⟨r,t.1,t.2,rfl,rfl,h1 s' d,h2 s' (by rw[d,e.h])⟩
section
variable {bl :Ah}{τ:Tau}{F:Ac}{s:SS}
def Lf.blk_none {x:Lf}(h:x.na=0)(d:E):x.blk d=none:=by
 cases x with
 |g k=>exact G.blk_none h .any d|_=>rfl
theorem Ds {x:Lf}{ps:List Lf}{v:SV}{r:Bb E×Ai}{n ds:Au}(h:LOK P U bl τ F s x v r)(m:dK U (n8 (x::ps)) (Z1 r.1 n) ds):(∀e so,r.1=some e->x.so=some so->nX U so e (hd1 ds))/\dK U (n8 ps) n (DQ x ds)/\(∀b,r.2=some b->x.na=1)/\(x.na=0\/x.na=1):=by
 obtain⟨q,t,u,y,z⟩:=h;have p:x.na=0\/x.na=1:=by
  cases x with
  |g k=>exact k.na_le|_=>exact .inl rfl
 refine⟨?_,?_,fun b hb=>?_,p⟩
 ·intro e so he j;unfold n8 at m;rw[j,he]at m;cases ds with
  |nil=>exact m.elim|cons d ds=>exact m.1
 ·unfold n8 at m;cases j:x.so with
  |none=>rw[j,t j]at m;unfold DQ;rw[j];exact m|some so=>
   obtain⟨e,he⟩:=q so j;rw[j,he]at m;cases ds with
   |nil=>exact m.elim|cons d ds=>unfold DQ;rw[j];exact m.2
 grind
theorem jT.vals :∀ {ps:List Lf} {vs:As} {es:Au} {bs:Ah} {ds:Au} {xs:Af} {τ2:Tau} {num:Nat->Nat} {nb:Nat},jT P U bl τ F s ps vs es bs->dK U (n8 ps) es ds->(∀i b,bl[i]? =some b->τ2 (num i)=τ b)->(∀k b,bs[k]? =some b->τ2 (nb+k)=τ b)->VDL P U τ F vs xs->VDL P U τ2 F (LJ num ps ds nb) xs
 | [], [], es, bs, ds, xs, τ2, num, nb, h,  e, hk, hb, hx => by have:=Tq hx.1.symm;subst this;exact We| [],_::_,es,bs,ds,xs,τ2,num,nb,h,e,hk,hb,hx=>h.elim|x::ps,[],es,bs,ds,xs,τ2,num,nb,h,e,hk,hb,hx=>h.elim|x::ps,v::vs,es,bs,ds,xs,τ2,num,nb,h,e,hk,hb,hx=>by obtain⟨r,m,j,rfl,rfl,hm,g⟩:=h;obtain⟨y,ys,rfl,h1,h2⟩:=hx.uncons;obtain⟨s1,s2,p,n⟩:=Ds hm e;refine .cons (hm.2.2.2.1 y h1 τ2 num nb (hd1 ds) hk s1 fun b hr=>?_) (jT.vals g s2 hk (fun k b d=>?_) h2);have:=hb 0 b (by rw[hr];rfl);grind;rcases n with h0|h0;rw[h0,UA];have hr:=hm.2.2.1 h0;rw[hr]at hb;exact hb k b d;obtain⟨so,_,b',L,x',hr,_⟩:=hm.2.2.2.2 (by omega);rw[hr]at hb;have:=hb (k+1) b d;grind
theorem jT.blks :∀ {ps:List Lf} {vs:As} {es:Au} {bs:Ah} {ds:Au} {nb:Nat},jT P U bl τ F s ps vs es bs->dK U (n8 ps) es ds-> ∀b' y,lk (V2 ps ds nb) b'=some y-> ∃k b X x',b'=nb+k/\bs[k]? =some b/\y=some X/\s.get b=some x'/\(∀(τ2:Tau) o z,BD P U τ F o x' z->BD P U τ2 F o X z)/\(E9 P U x'->E9 P U X)
 | [],vs,es,bs,ds,nb,h,j=>fun b' y hy=>by simp[V2,lk]at hy
 |x::ps,[],es,bs,ds,nb,h,j=>h.elim|x::ps,v::vs,es,bs,ds,nb,h,j=>by
  obtain⟨r,B,A,rfl,rfl,hm,m⟩:=h;obtain⟨s1,s2,J,D⟩:=Ds hm j;intro b' y hy;have t:=jT.blks (nb:=nb+x.na) m s2;by_cases e:x.na=0
  ·have hr:=hm.2.2.1 e;have d:lk (V2 ps (DQ x ds) (nb+x.na)) b'=some y:=by unfold V2 at hy;rwa[Lf.blk_none e]at hy
   obtain⟨k,b,X,x',h1,h2⟩:=t b' y d;exact⟨k,b,X,x',by omega,by rw[hr];exact h2⟩
  ·have C:=D.resolve_left e;obtain⟨so,p,b0,L,x',hr,n,hx,g⟩:=hm.2.2.2.2 e;obtain⟨u,G,k1,k2⟩:=g (hd1 ds) (s1 L so n p);have d:lk ((nb,some u)::V2 ps (DQ x ds) (nb+x.na)) b'=some y:=by unfold V2 at hy;grind
   rw[A0]at d;split at d;rename_i e1;simp at d;exact⟨0,b0,_,x',e1.symm,by rw[hr];rfl,d.symm,hx,k1,k2⟩;obtain⟨k,b,X,q,h1,h2,h3⟩:=t b' y d;exact⟨k+1,b,X,q,by omega,by rw[hr];exact h2,h3⟩
theorem jT.live :∀ {ps:List Lf} {vs:As} {es:Au} {bs:Ah},jT P U bl τ F s ps vs es bs-> ∀ {k b:Nat},bs[k]? =some b-> ∃x,s.get b=some x
 | [],[],es,bs,h,k,b,hb=>by rw[h.2]at hb;simp at hb| [],_::_,es,bs,h,k,b,hb=>h.elim|p::ps,[],es,bs,h,k,b,hb=>h.elim|p::ps,v::vs,es,bs,h,k,b,hb=>by
  obtain⟨r,j,g,rfl,rfl,hm,d⟩:=h;cases hr:r.2 with
  |none=>rw[hr]at hb;exact d.live hb|some b0=>
   rw[hr]at hb;cases k with
   |succ k=>exact d.live hb|zero=>
    have e:p.na≠0:=fun h0=>by rw[hm.2.2.1 h0]at hr;cases hr
    obtain⟨so,_,m,L,x',h1,_,hx,_⟩:=hm.2.2.2.2 e;rw[hr]at h1;have e0:b0=b:=by simpa [Z1]using hb
    grind
def jT.len :∀ {ps:List Lf} {vs:As} {es:Au} {bs:Ah},jT P U bl τ F s ps vs es bs->es.length=(n8 ps).length
 | [],[],es,bs,h=>by rw[h.1];rfl| [],_::_,es,bs,h=>h.elim|p::ps,[],es,bs,h=>h.elim|p::ps,v::vs,es,bs,h=>by
  obtain⟨r,m,k,rfl,rfl,hm,g⟩:=h;have j:=g.len;unfold n8;cases d:p.so with
  |none=>rw[hm.2.1 d];exact j|some so=>obtain⟨e,he⟩:=hm.1 so d;rw[he];simp only[Z1,Ue,j]
end
inductive Vs where
 |one (l:Lf)
 |agg (ls:List Lf)
def Vs.lfs :Vs->List Lf
 | .one l=>[l]
 | .agg ls=>ls
def Vs.fl :Vs->SV->Bb (As)
 | .one _,v=>some [v]| .agg ls,.agg l=>bif Nat.beq l.length ls.length then some l else none|_,_=>none
def hdV :As->SV
 | []=>.any|v::_=>v
def Vs.mk :Vs->As->SV
 | .one _,l=>hdV l| .agg _,l=>.agg l
def nC :List Vs->As->Bb (As)
 | [],[]=>some []|a::r,v::vs=>match a.fl v with
  |some l=>match nC r vs with
   |some m=>some (l++m)|none=>none
  |none=>none
 |_,_=>none
def C9 :List Vs->List Lf
 | []=>[]
 |a::r=>a.lfs++C9 r
def Dz :List Vs->As->As
 | [],_=>[]
 |a::r,fl=>a.mk (fl.take a.lfs.length)::Dz r (fl.drop a.lfs.length)
theorem VDL.split {d:As}{xs ys:Af}(h:VDL P U τ F d (xs++ys)):VDL P U τ F (d.take xs.length) xs/\VDL P U τ F (d.drop xs.length) ys:=by
 induction xs generalizing d with
 |nil=>exact⟨by simpa using We,by grind⟩|cons x xs g=>
  cases d with
  |nil=>have:=h.1;simp at this|cons a d=>obtain⟨y,j,e,h1,h2⟩:=h.uncons;cases e;obtain⟨k1,k2⟩:=g h2;exact⟨.cons h1 k1,k2⟩
variable {l:As}
theorem Vs.fl_ok {a:Vs}{v:SV}{x:Av}(h:a.fl v=some l)(hv:VD P U τ F v x):∃xs,VDL P U τ F l xs/\xs.length=a.lfs.length/\ ∀(τ2:Tau) g d,VDL P U τ2 g d xs->VD P U τ2 g (a.mk d) x:=by
 cases a with
 |one k=>
  simp only[Vs.fl,Tk]at h;subst h;refine⟨[x],.cons hv .nil,rfl,fun τ2 g d hg=>?_⟩;cases d with
  |nil=>have:=hg.1;simp at this|cons b d=>obtain⟨y,ys,e,h1,_⟩:=hg.uncons;cases e;exact h1
 |agg ls=>
  unfold Vs.fl at h;split at h;grind
  ·rename_i j m hh;cases hh;cases hc:Nat.beq m.length ls.length with
   |false=>grind|true=>
    rw[hc,TE,Tk]at h;subst h;cases hv with
    |agg _ xs h1 h2=>exact⟨xs,⟨h1,h2⟩,by rw[<-h1];exact Tp hc,fun τ2 g d hg=>.agg d xs hg.1 hg.2⟩
  cases h
def nD {τ:Tau}{F:Ac}:∀ {as:List Vs} {vs fl:As} {args:Af},nC as vs=some fl->VDL P U τ F vs args-> ∃g,VDL P U τ F fl g/\g.length=(C9 as).length/\ ∀(τ2:Tau) e j rest,VDL P U τ2 e j g->VDL P U τ2 e (Dz as (j++rest)) args
 | [],[],fl,args,h,hv=>by simp only[nC,Tk]at h;subst h;have:=Tq hv.1.symm;subst this;exact⟨[],.nil,rfl,fun _ _ _ _ _=>.nil⟩| [],_::_,fl,args,h,hv=>by simp[nC]at h|_::_,[],fl,args,h,hv=>by simp[nC]at h|a::r,v::vs,fl,args,h,hv=>by
  unfold nC at h;split at h
  ·rename_i l hl;split at h
   ·rename_i m hm;cases h;obtain⟨y,ys,rfl,h1,h2⟩:=hv.uncons;obtain⟨xs,k1,k2,k3⟩:=Vs.fl_ok hl h1;obtain⟨g,p,q,t⟩:=nD hm h2;refine⟨xs++g,k1.append p,by simp[C9,k2,q],fun τ2 e j rest hg=>?_⟩;obtain⟨k,n⟩:=hg.split;have d:xs.length<=j.length:=by rw[hg.1];simp
    unfold Dz;rw[<-k2,List.take_append_of_le_length d,List.drop_append_of_le_length d];exact .cons (k3 τ2 e _ k) (t τ2 e _ rest n)
   cases h
  cases h
def Kl :List Vs->SV->Bb (As)
 | [_],a=>some [a]|_,.tup l=>some l|_,_=>none
def yY :List Vs->As->SV
 | [_],l=>hdV l|_,l=>.tup l
theorem Iv {res:List Vs}{a:SV}{v:Av}(h:Kl res a=some l)(hv:VD P U τ F a v):∃xs,VDL P U τ F l xs/\ ∀(τ2:Tau) d j,VDL P U τ2 d j xs->VD P U τ2 d (yY res j) v:=by
 unfold Kl at h;split at h
 ·simp at h;subst h;refine⟨[v],.cons hv .nil,fun τ2 d g hg=>?_⟩;cases g with
  |nil=>have:=hg.1;simp at this|cons b g=>obtain⟨y,ys,e,h1,_⟩:=hg.uncons;cases e;exact h1
 ·rename_i r m k;cases h;cases hv with
  |tup _ xs h1 h2=>refine⟨xs,⟨h1,h2⟩,fun τ2 d g hg=>?_⟩;unfold yY;split;grind;exact .tup g xs hg.1 hg.2
 cases h
abbrev bW:=Ax ×Nat×List Lf
def JB :List bW->List Lf
 | []=>[]
 |a::r=>a.2.2++JB r
def oY (s:SS):List bW->Ah->Bb (As)
 | [],[]=>some []|a::r,b::bs=>match s.get b with
  | some (.cells l e' z') => bif !(Nat.beq a.1 rgT) && Nat.beq a.1 e' && Nat.beq a.2.1 z' && Nat.beq l.length a.2.2.length then
    match oY s r bs with
    |some m=>some (l++m)|none=>none
   else none
  | some (.reg q L z) => bif Nat.beq q b && Nat.beq a.1 rgT && Nat.beq a.2.1 z && Nat.beq a.2.2.length 1 then
    match oY s r bs with
    |some m=>some (.rv L z::m)|none=>none
   else none
  |_=>none
 |_,_=>none
def mkB1 (n:Nat)(a:bW)(fl:As):Bb B4:=bif Nat.beq a.1 rgT then match fl with
  | .rv L z::_=>bif Nat.beq z a.2.1&&Nat.ble 1 z then some (.reg n L z)else none|_=>none
 else some (.cells (fl.take a.2.2.length) a.1 a.2.1)
def cD (num:Nat->Nat):Nat->List bW->As->List (Nat×Bb B4)
 |_,[],_=>[]
 |i,a::r,fl=>(num i,mkB1 (num i) a fl)::cD num (i+1) r (fl.drop a.2.2.length)
def BX (τ:Tau)(hp:Hp):List bW->Ah->Af->Prop
 | [],[],fx=>fx=[]
 | a :: r, b :: bs, fx => ∃ xs ys, fx = xs ++ ys ∧ xs.length = a.2.2.length ∧ (a.1 ≠ rgT ∧ (∃ i o cs n, τ b = some (some (i, o)) ∧ hp.m.get i = some (.cells cs n a.1 a.2.1) ∧ o + xs.length ≤ n ∧ ∀ (j : Nat) x, xs[j]? = some x → cs.get (o + j) = some x) ∨
   a.1=rgT/\τ b=some (some (0,0))/\ ∃(cs:Ao) (n:Nat) (vs:Af),hp.m.get 0=some (.reg cs n rgT a.2.1)/\xs=[.func (.func 0) vs.toArray #[]]/\vs.length=n*a.2.1/\ ∀(j:Nat) x,vs[j]? =some x->cs.get j=some x)/\BX τ hp r bs ys
 |_,_,_=>False
def BX.mono {τ':Tau}(ht:Tle τ τ'):∀ {r:List bW} {bs:Ah} {d:Af},BX τ hp r bs d->BX τ' hp r bs d
 | [],[],d,h=>h| [],_::_,d,h=>h.elim|_::_,[],d,h=>h.elim|a::r,b::bs,d,h=>by obtain⟨xs,ys,h1,h2,⟨h0,i,o,cs,n,h3,h4⟩| ⟨h0,h3,h4⟩,h5⟩:=h;exact⟨xs,ys,h1,h2,.inl ⟨h0,i,o,cs,n,ht _ _ h3,h4⟩,h5.mono ht⟩;exact⟨xs,ys,h1,h2,.inr ⟨h0,ht _ _ h3,h4⟩,h5.mono ht⟩
theorem BX.len :∀ {r:List bW} {bs:Ah} {d:Af},BX τ hp r bs d->bs.length=r.length/\d.length=(JB r).length
 | [],[],d,h=>by subst h;exact⟨rfl,rfl⟩| [],_::_,d,h=>h.elim|_::_,[],d,h=>h.elim|a::r,b::bs,d,h=>by obtain⟨xs,ys,rfl,h2,_,h5⟩:=h;obtain⟨k1,k2⟩:=h5.len;exact⟨by grind,by simp[JB,h2,k2]⟩
theorem mZ {τ:Tau}{F:Ac}{s:SS}{hp:Hp}(hs:SD P U τ F s hp):∀ {r:List bW} {bs:Ah} {fl:As},oY s r bs=some fl-> ∃p,VDL P U τ F fl p/\BX τ hp r bs p
 | [],[],fl,h=>by simp only[oY,Tk]at h;subst h;exact⟨[],.nil,rfl⟩| [],_::_,fl,h=>by simp[oY]at h|_::_,[],fl,h=>by simp[oY]at h|a::r,b::bs,fl,h=>by
  unfold oY at h;split at h
  ·rename_i l e' T hb;cases hc: !(Nat.beq a.1 rgT)&&Nat.beq a.1 e'&&Nat.beq a.2.1 T&&Nat.beq l.length a.2.2.length with
   |false=>grind|true=>
    rw [hc, TE] at h;simp only [Tl,Ub,Uh] at hc;obtain ⟨⟨⟨g,rfl⟩,rfl⟩,A⟩:=hc;have g : a.1 ≠ rgT:=fun e=>by rw [e,t9 rfl] at g; cases g
    split at h
    ·rename_i m hm;cases h;obtain⟨p,O,R⟩:=mZ hs hm;rcases hs.live b _ hb with⟨i,o,y,h1,h2,h3,cs,n,rfl,h4,h5⟩| ⟨_,L,e',T,ph,h2,_⟩
     ·have t:∀j,∃x,∀a',l[j]? =some a'->cs.get (o+j)=some x/\VD P U τ F a' x:=by
       intro j;cases hj:l[j]? with
       |none=>exact⟨undef,fun a' e=>by cases e⟩|some a'=>simp_all
      obtain⟨ch,E⟩:=Classical.axiomOfChoice t;let xs:=(List.range l.length).map ch
      have u:xs.length=l.length:=by simp[xs]
      have K:∀(j:Nat) x,xs[j]? =some x-> ∃a',l[j]? =some a'/\x=ch j:=by
       intro j x hx;have hj:j<l.length:=by grind
       refine⟨l[j],Tx hj,?_⟩;grind
      have hv:VDL P U τ F l xs:=⟨u.symm,fun j a' x X hx=>by obtain⟨_,_,rfl⟩:=K j x hx;exact(E j a' X).2⟩
      refine⟨xs++p,hv.append O,xs,p,rfl,by rw[u];exact A,.inl ⟨g,i,o,cs,n,h1,h2,by rw[u];exact h4,fun j x hx=>?_⟩,R⟩;grind
     cases h2
    cases h
  ·rename_i q L z hb;cases hc:Nat.beq q b&&Nat.beq a.1 rgT&&Nat.beq a.2.1 z&&Nat.beq a.2.2.length 1 with
   |false=>grind|true=>
    rw[hc,TE]at h;simp only[Tl,Ub]at hc;obtain⟨⟨⟨rfl,h1⟩,h2⟩,h3⟩:=hc;split at h
    ·rename_i m hm;cases h;obtain⟨p,O,R⟩:=mZ hs hm;rcases hs.live q _ hb with⟨i,o,y,k1,k2,k3,k4,V,cs,k6,k7,k8,W,D⟩| ⟨_,L,e',T,ph,h2,_⟩
     ·rw[V]at k1;cases k1;subst k6;let N:=(L.toR U).length*z
      let vs:=(List.range N).map fun j=>(cs.get j).getD undef
      have C:vs.length=N:=by simp[vs]
      have Z:∀(j:Nat),j<N->vs[j]? =some ((cs.get j).getD undef):=fun j hj=>by simp only[vs,Ul,List.getElem?_range hj,Ug]
      have M:∀j,j<N-> ∃x,cs.get j=some x:=by
       intro j hj;have hz:0<z:=by grind
       have hr:j/z<(L.toR U).length:=(Nat.div_lt_iff_lt_mul hz).2 hj;have B:(L.toR U)[j/z]? =some (L.toR U)[j/z]:=by simp[hr]
       have hl:=W _ (Vf hr);have hk:j % z<z:=Nat.mod_lt _ hz;obtain⟨x,e1,_⟩:=D _ _ _ _ B (Tx (by rw[hl];exact hk));exact⟨x,by rw[<-e1];congr 1;rw[TT,Nat.mul_comm];exact(Nat.div_add_mod j z).symm⟩
      have G:RowsIn P F z vs (L.toR U):=by
       refine⟨C,k8,W,fun r k row d hr hk=>?_⟩;obtain⟨x,e1,e2⟩:=D r k row d hr hk;rw[TT]at e1;have J:=(Tn.1 hr).1;have Y:k<z:=by grind
       have:=Ty z (show r+1<=(L.toR U).length from J);grind
      refine⟨.func (.func 0) vs.toArray #[]::p,.cons (.rv L z vs G) O,[_],p,rfl,h3.symm,.inr ⟨h1,V,cs,_,vs,by rw[h2];exact k2,rfl,by rw[h2];exact C,fun j x hx=>?_⟩,R⟩;grind
     cases h2
    cases h
  cases h
theorem Bd {τ τ2:Tau}{F:Ac}{hp:Hp}{num:Nat->Nat}{rest:As}:∀ {r:List bW} {bs:Ah} {B:Af} {p:As} {i0:Nat},BX τ hp r bs B->VDL P U τ2 F p B->(∀j b,bs[j]? =some b->τ2 (num (i0+j))=τ b)-> ∀ {b:Nat} {X:B4},lk (cD num i0 r (p++rest)) b=some (some X)-> ∃j D i o Y,b=num (i0+j)/\bs[j]? =some D/\ ¬E9 P U X/\τ D=some (some (i,o))/\hp.m.get i=some Y/\BD P U τ2 F o X Y
 | [],[],B,p,i0,h,hv,hn,b,y,hy=>by simp[cD,lk]at hy| [],_::_,B,p,i0,h,hv,hn,b,y,hy=>h.elim|_::_,[],B,p,i0,h,hv,hn,b,y,hy=>h.elim|a::r,b0::bs,B,p,i0,h,hv,hn,b,y,hy=>by
  obtain⟨xs,ys,rfl,h2,t,O⟩:=h;obtain⟨E,K⟩:=hv.split;have q:xs.length<=p.length:=by rw[hv.1];simp
  unfold cD at hy;rw[<-h2,List.drop_append_of_le_length q,A0]at hy;split at hy
  ·rename_i e;simp only[Tk]at hy;rcases t with⟨h0,i,o,cs,n,h3,h4,h5,N⟩| ⟨h0,h3,cs,n,vs,h4,rfl,h5,N⟩;unfold mkB1 at hy;rw[z8 h0,TF,<-h2,List.take_append_of_le_length q,Tk]at hy;subst hy;refine⟨0,b0,i,o,_,e.symm,rfl,?_,h3,h4,?_⟩;rintro ⟨L,e',W,ph,hh,_⟩;cases hh;refine⟨cs,n,rfl,by rw[E.1];exact h5,fun j a' R=>?_⟩;obtain⟨x,hx,T⟩:=E.get R;grind
   ·have hh:=E;cases p with
    |nil=>grind|cons g M=>
     obtain⟨_,_,e1,hg,_⟩:=hv.uncons;cases e1;unfold mkB1 at hy;rw[h0,t9 rfl,TE]at hy;split at hy
     ·rename_i L z _ G;cases G;cases hc:Nat.beq z a.2.1&&Nat.ble 1 z with
      |false=>grind|true=>
       rw[hc,TE,Tk]at hy;subst hy;simp only[Tl,Ub,Up]at hc;obtain⟨hz,J⟩:=hc;refine⟨0,b0,0,0,_,e.symm,rfl,?_,h3,h4,rfl,(hn 0 b0 rfl).trans h3,cs,?_,?_⟩;rintro ⟨Z,e',W,ph,hh,_⟩;cases hh
       ·generalize u:Value.func (.func 0) vs.toArray #[]=fv at hg;cases hg with
        |rv _ _ xs A=>
         injection u with _ C _;have C:vs=xs:=by grind
         subst C;have:=A.1;rw[h5,<-hz]at this;rw[Nat.eq_of_mul_eq_mul_right J this,hz]
       ·generalize u:Value.func (.func 0) vs.toArray #[]=fv at hg;cases hg with
        |rv _ _ xs A=>
         injection u with _ C _;have C:vs=xs:=by grind
         subst C;obtain⟨k1,k2,k3,k4⟩:=A;refine⟨by omega,k2,k3,fun r k row d hr hk=>?_⟩;grind
     cases hy
  obtain⟨j,D,V,o',Y,e1,e2,e3⟩:=Bd O K (fun j b hb=>by have:=hn (j+1) b hb;rw[show i0+1+j=i0+(j+1) by omega];exact this) hy;exact⟨j+1,D,V,o',Y,by rw[e1];congr 1;omega,e2,e3⟩
theorem uF {num:Nat->Nat}:∀ {r:List bW} {fl:As} {i0 j:Nat},j<r.length->num (i0+j)∈(cD num i0 r fl).map Prod.fst
 | [],fl,i0,j,h=>by grind|a::r,fl,i0,0,h=>by simp[cD]|a::r,fl,i0,j+1,h=>by simp only[cD,Um,TZ];have:=uF (num:=num) (fl:=fl.drop a.2.2.length) (i0:=i0+1) (by simpa using h);grind
end
structure Con where
 name:String
 args:List Vs
 blks:List bW
 find:As->SS->Bb (Ah)
 pre:Ar->Prop
 res:List Vs
 post:List bW
 find':SV->SS->Bb (Ah)
 rel:Ar->Ar->Prop
def Con.inL (c:Con):List Lf:=C9 c.args++JB c.blks
def Con.outL (c:Con):List Lf:=C9 c.res++JB c.post
def Z6 :Nat->Nat->Ah
 |_,0=>[]
 |i,n+1=>i::Z6 (i+1) n
def E4 :∀(n i:Nat),(Z6 i n).length=n
 |0,_=>rfl|n+1,i=>by simp[Z6,E4 n]
theorem hU :∀(n i k:Nat),(Z6 i n)[k]? =if k<n then some (i+k)else none
 |0,i,k=>rfl|n+1,i,0=>rfl|n+1,i,k+1=>by simp only[Z6,Tw,hU n (i+1) k];grind
def idN :Nat->Nat:=fun i=>i
def nF (c:Con)(es:Au):As:=LJ idN c.inL es c.blks.length
def fN (c:Con)(es:Au):As:=Dz c.args (nF c es)
def gst (c:Con)(es:Au)(fv:Nat):SS:=⟨cD idN 0 c.blks ((nF c es).drop (C9 c.args).length)++V2 c.inL es c.blks.length,c.blks.length+I3 c.inL,[],fv,[]⟩
def rU (τ:Tau)(ns:Ah):Tau:=fun b=>match ns[b]? with
 |some b'=>τ b'|none=>none
def Y5 (c:Con)(bl:Ah)(n:Nat)(i:Nat):Nat:=bif Nat.ble (i+1) c.blks.length then bl.getD i 0 else n+(i-c.blks.length)
def U8 (c:Con)(es:Au)(s:SS)(bl:Ah):As:=LJ (Y5 c bl s.nx) c.outL es (s.nx+(c.post.length-c.blks.length))
def fst_ (c:Con)(es:Au)(s:SS)(bl kill:Ah):SS:=
 ⟨cD (Y5 c bl s.nx) 0 c.post ((U8 c es s bl).drop (C9 c.res).length)++(V2 c.outL es (s.nx+(c.post.length-c.blks.length))++(Y9 (kill++(bl++ [s.nx]))++s.h)),s.nx+(c.post.length-c.blks.length)+I3 c.outL,s.fc,s.fv+(n8 c.outL).length,s.fz⟩
def tX (s:SS)(b:Nat):Bool:=(s.get b).isSome
section
variable (P :Aw)(U:Ab)
def cfin (c:Con)(es:Au)(a:SV):M Unit:=p9 fun s=>match Kl c.res a with
 |none=>a8 "contract: result"|some l=>match nC c.res l with
  |none=>a8 "contract: results"|some fl1=>match c.find' a s with
   |none=>a8 "contract: new blocks"|some nw=>match oY s c.post (Z6 0 c.blks.length++nw)with
    |none=>a8 "contract: blocks behind"|some fl2=>b9 (yR P U c.outL (fl1++fl2)) fun vs=>b9 (mtL U (Z6 0 c.blks.length++nw) c.outL vs) fun t=>p9 fun s2=>
     bif (Z6 0 c.blks.length++nw).all (tX s2)&&dB (nw++t.2)&&nw.all (Nat.ble (c.blks.length+I3 c.inL))&&t.2.all (Nat.ble c.blks.length)&&Nat.beq t.2.length (I3 c.outL)&&Nat.beq (nw.length+c.blks.length) c.post.length then
      fun _=>.need (.pt (c.name++ "Rel") [(n8 c.inL).zip es,(n8 c.outL).zip t.1]) (c.rel (t8 U (n8 c.inL) es) (t8 U (n8 c.outL) t.1)) .done
     else a8 "contract: the end"
def cvc (c:Con)(run:As->M SV):Tr (Unit×SS):=
 CE (n8 c.inL) 0 fun es=>.asm (.pt (c.name++ "Pre") [(n8 c.inL).zip es]) (c.pre (t8 U (n8 c.inL) es)) ((b9 (run (fN c es)) (cfin P U c es)) (gst c es (n8 c.inL).length))
def FP (c:Con)(args:As):M SV:=p9 fun s0=>match nC c.args args with
 |none=>a8 "contract: arguments"|some fl1=>match c.find args s0 with
  |none=>a8 "contract: no blocks"|some bl=>match oY s0 c.blks bl with
   |none=>a8 "contract: blocks"|some fl2=>b9 (yR P U c.inL (fl1++fl2)) fun vs=>b9 (mtL U bl c.inL vs) fun t=>p9 fun s1=>
    bif bl.all (tX s1)&&dB (bl++t.2)&&Nat.beq t.2.length (I3 c.inL)&&Nat.ble c.blks.length c.post.length then
     fun _=>.need (.pt (c.name++ "Pre") [(n8 c.inL).zip t.1]) (c.pre (t8 U (n8 c.inL) t.1)) (CE (n8 c.outL) s1.fv fun ds=>.asm (.pt (c.name++ "Rel") [(n8 c.inL).zip t.1,(n8 c.outL).zip ds]) (c.rel (t8 U (n8 c.inL) t.1) (t8 U (n8 c.outL) ds))
      (.ret (yY c.res (Dz c.res (U8 c ds s1 bl)),fst_ c ds s1 bl t.2)))
    else a8 "contract: the start"
end
section
variable {P :Aw}{U:Ab}{ov:Aa}
def pH {s:SS}{b:Nat}(h:tX s b=true):∃x,s.get b=some x:=Option.isSome_iff_exists.1 h
def P8 {τ:Tau}{d:Ah}{b b':Nat}(h:d[b]? =some b'):rU τ d b=τ b':=by unfold rU;rw[h]
variable {c:Con}
theorem Mh {τ:Tau}{F:Ac}{s:SS}{hp:Hp}{vs:As}{t u:Af}{bl d:Ah}{es ds:Au}{fv:Nat}(hs:SD P U τ F s hp)(hv:VDL P U τ F vs (t++u))(h1:t.length=(C9 c.args).length)(hb:BX τ hp c.blks bl u)(hm:jT P U bl τ F s c.inL vs es d)(W:dB (bl++d)=true)(p:∀b∈bl,∃x,s.get b=some x)(hn:d.length=I3 c.inL)(C:dK U (n8 c.inL) es ds):SD P U (rU τ (bl++d)) F (gst c ds fv) hp/\VDL P U (rU τ (bl++d)) F (nF c ds) (t++u)/\ ∀b x,(gst c ds fv).get b=some x-> ∃b' x',(bl++d)[b]? =some b'/\s.get b'=some x':=by
 have V:bl.length=c.blks.length:=hb.len.1;have L:∀i b,bl[i]? =some b->(bl++d)[i]? =some b:=fun i b h=>by rw[Tu (Tn.1 h).1];exact h
 have M:∀k b,d[k]? =some b->(bl++d)[c.blks.length+k]? =some b:=fun k b h=>by grind
 have r:VDL P U (rU τ (bl++d)) F (nF c ds) (t++u):=hm.vals C (fun i b h=>P8 (L i b h)) (fun k b h=>P8 (M k b h)) hv;obtain⟨_,R⟩:=r.split;rw[h1]at R;have O:=hm.blks (nb:=c.blks.length) C;have A:∀b x,(gst c ds fv).get b=some x->
   (∃b' i o Y,bl[b]? =some b'/\ ¬E9 P U x/\τ b'=some (some (i,o))/\hp.m.get i=some Y/\BD P U (rU τ (bl++d)) F o x Y)\/
   (∃k b' x',b=c.blks.length+k/\d[k]? =some b'/\s.get b'=some x'/\(∀(τ2:Tau) o z,BD P U τ F o x' z->BD P U τ2 F o x z)/\(E9 P U x'->E9 P U x)):=by
  intro b x g;have n:(match lk (cD idN 0 c.blks ((nF c ds).drop (C9 c.args).length)++V2 c.inL ds c.blks.length) b with|some x=>x|none=>none)=some x:=g;rw[L1]at n;cases G:lk (cD idN 0 c.blks ((nF c ds).drop (C9 c.args).length)) b with
  |some y=>
   rw[G]at n;simp only at n;subst n;rw[<-UV ((nF c ds).drop (C9 c.args).length)]at G;obtain⟨j,X,i,o,Y,e1,e2,e4,e5,Z,e7⟩:=Bd hb R (fun j b hj=>by rw[TT];exact P8 (L j b hj)) G;have:b=j:=by rw[e1];show 0+j=j;omega
   grind
  |none=>grind
 have src:∀b x,(gst c ds fv).get b=some x-> ∃b' x',(bl++d)[b]? =some b'/\s.get b'=some x':=by intro b x g;rcases A b x g with⟨b',i,o,Y,e1,_⟩| ⟨k,b',x',rfl,e2,e3,_⟩;obtain⟨x',D⟩:=p b' (Tv e1);grind;grind
 refine⟨⟨fun b x g=>?_,fun b N x y i o j q g J K e1 e2=>?_,hs.frz,fun b i o h=>?_,hs.flt,fun b B=>?_,(fun _ _ h=>by cases h),fun _ h=>by cases h⟩,r,src⟩;rcases A b x g with⟨b',i,o,Y,e1,e2,e3,e4,e5⟩| ⟨k,b',x',rfl,e2,e3,e4,e5⟩;obtain⟨x',D⟩:=p b' (Tv e1);rcases hs.live b' x' D with⟨i',o',T,k1,_,k3,_⟩| ⟨k1,_⟩;rw[e3]at k1;cases k1;exact .inl ⟨i,o,Y,by rw[P8 (L b b' e1)];exact e3,e4,k3,e5⟩;grind;rcases hs.live b' x' e3 with⟨i,o,y,k1,k2,k3,k4⟩| ⟨k1,k2⟩;exact .inl ⟨i,o,y,by rw[P8 (M k b' e2)];exact k1,k2,k3,e4 _ o y k4⟩;exact .inr ⟨by rw[P8 (M k b' e2)];exact k1,e5 k2⟩;obtain⟨b',x',k1,k2⟩:=src b x g;obtain⟨c',T,k3,k4⟩:=src N y J;rw[P8 k1]at e1;rw[P8 k3]at e2;refine hs.inj b' c' x' T i o j q k2 k4 (fun e=>?_) e1 e2;subst e;exact K (dC W b N b' k1 k3);unfold rU at h;split at h;exact hs.lt _ i o h;cases h;have B:c.blks.length+I3 c.inL<=b:=B;unfold rU;grind
variable (P U) in
def RX (c:Con)(X:Af->Hp->Av->Hp->Prop)(es:Au)(τ:Tau)(F:Ac)(hp:Hp)(xs:Af):Prop:=
 ∃v τ' F' s' hp' vs fx1 fx2 es' nw accs,X xs hp v hp'/\Ext τ F (gst c (G3 U (n8 c.inL) 0 es) (n8 c.inL).length) hp τ' F' s' hp'/\SD P U τ' F' s' hp'/\VDL P U τ' F' vs (fx1++fx2)/\fx1.length=(C9 c.res).length/\
  (∀(τ2:Tau) F2 gl rest,VDL P U τ2 F2 gl fx1->VD P U τ2 F2 (yY c.res (Dz c.res (gl++rest))) v)/\BX τ' hp' c.post (Z6 0 c.blks.length++nw) fx2/\jT P U (Z6 0 c.blks.length++nw) τ' F' s' c.outL vs es' accs/\
  (∀b∈Z6 0 c.blks.length++nw,∃x,s'.get b=some x)/\dB (nw++accs)=true/\(∀b∈nw,c.blks.length+I3 c.inL<=b)/\(∀b∈accs,c.blks.length<=b)/\accs.length=I3 c.outL/\nw.length+c.blks.length=c.post.length/\
  c.rel (t8 U (n8 c.inL) es) (t8 U (n8 c.outL) es')
variable (P U) in
def Rb (c:Con)(Pm:Af->Prop)(X:Af->Hp->Av->Hp->Prop):Prop:=∀(es:Au),es.length=(n8 c.inL).length->c.pre (t8 U (n8 c.inL) es)-> ∀τ F hp xs,SD P U τ F (gst c (G3 U (n8 c.inL) 0 es) (n8 c.inL).length) hp->VDL P U τ F (fN c (G3 U (n8 c.inL) 0 es)) xs->Pm xs->RX P U c X es τ F hp xs
variable (P U ov) in
def n9 (c:Con)(g:Ay):Prop:=∀(es:Au),es.length=(n8 c.inL).length->c.pre (t8 U (n8 c.inL) es)-> ∀τ F hp xs,SD P U τ F (gst c (G3 U (n8 c.inL) 0 es) (n8 c.inL).length) hp->VDL P U τ F (fN c (G3 U (n8 c.inL) 0 es)) xs->RX P U c (Y0 P ov g) es τ F hp xs
def Km {run:As->M SV}{Pm:Af->Prop}{X:Af->Hp->Av->Hp->Prop}(r:∀es τ F hp xs,VDL P U τ F (fN c es) xs->Pm xs->SD P U τ F (gst c es (n8 c.inL).length) hp->OKh P U (run (fN c es)) τ F (gst c es (n8 c.inL).length) hp fun a τ' F' hp'=>∃v,X xs hp v hp'/\VD P U τ' F' a v)(Z:(cvc P U c run).vc U fun _=>True):Rb P U c Pm X:=by
 intro es e q τ F hp xs hs hx V;unfold RX;have hq:=iR _ _ _ Z es e;have hq:=hq (by rw[J4 _ _ _ e];exact q);generalize hds:G3 U (n8 c.inL) 0 es=ds at*;rw[A5]at hq;obtain⟨a,s1,hq,τ1,F1,hp1,C,hs1,v,j,Y⟩:=r _ τ F hp xs hx V hs _ hq hs;simp only[cfin,p9]at hq;cases y:Kl c.res a with
 |none=>rw[y]at hq;exact hq.elim|some l=>
 rw[y]at hq;simp only at hq;cases z:nC c.res l with
 |none=>rw[z]at hq;exact hq.elim|some D=>
 rw[z]at hq;cases c3:c.find' a s1 with
 |none=>rw[c3]at hq;exact hq.elim|some nw=>
 rw[c3]at hq;simp only at hq;cases A:oY s1 c.post (Z6 0 c.blks.length++nw)with
 |none=>rw[A]at hq;exact hq.elim|some E=>
 rw[A]at hq;obtain⟨us,O,R⟩:=Iv y Y;obtain⟨m,K,L,N⟩:=nD z O;obtain⟨n,G,J⟩:=mZ hs1 A;rw[A5]at hq;obtain⟨vs,s2,hq,τ2,F2,hp2,ex2,k,rfl,aa⟩:=hO c.outL (D++E) (m++n) τ1 F1 s1 hp1 (K.append G) hs1 _ hq hs1;rw[A5]at hq;obtain⟨⟨B,d⟩,s3,hq,o3,p,T⟩:=uJ (Z6 0 c.blks.length++nw) c.outL vs s2 _ hq k.fc;simp only[p9]at hq;cases x:(Z6 0 c.blks.length++nw).all (tX s3)&&dB (nw++d)&&nw.all (Nat.ble (c.blks.length+I3 c.inL))&&d.all (Nat.ble c.blks.length)&&Nat.beq d.length (I3 c.outL)&&Nat.beq (nw.length+c.blks.length) c.post.length with
 |false=>rw[x]at hq;exact hq.elim|true=>
 rw[x]at hq;simp only[Tl,TS,Up,Ub]at x;obtain⟨⟨⟨⟨⟨k1,k2⟩,k3⟩,k4⟩,k5⟩,k6⟩:=x;have g:=hq.1;have hd:t8 U (n8 c.inL) ds=t8 U (n8 c.inL) es:=by rw[<-hds];exact J4 _ _ _ e
 rw[hd]at g;have W:=k.only o3 p;exact⟨v,τ2,F2,s3,hp2,vs,m,n,B,nw,d,j,C.trans (ex2.trans (Vt k o3)),W,aa,L,fun u F3 gl rest hg=>R u F3 _ (N u F3 gl rest hg),J.mono ex2.t,T s3 o3.h,
  fun b hb=>pH (k1 b hb),k2,k3,k4,k5,k6,g⟩
def zD {run:As->M SV}{g:Ay}(h:C8 P U ov run g)(j:(cvc P U c run).vc U fun _=>True):n9 P U ov c g:=
 fun es d e τ F hp xs hs hx=>Km (Pm:=fun _=>True) (fun es τ F hp xs hl _ hs=>h _ xs τ F _ hp hl hs) j es d e τ F hp xs hs hx trivial
end
section
variable {P :Aw}{U:Ab}{ov:Aa}
variable {c:Con}{bl:Ah}
def sD {n i b:Nat}(hi:i<c.blks.length)(h:bl[i]? =some b):Y5 c bl n i=b:=by unfold Y5;rw[Ts hi,TE,List.getD,h];rfl
theorem sC {n k:Nat}:Y5 c bl n (c.blks.length+k)=n+k:=by
 unfold Y5;have:Nat.ble (c.blks.length+k+1) c.blks.length=false:=by
  cases h:Nat.ble (c.blks.length+k+1) c.blks.length with
  |false=>rfl|true=>simp_all;omega
 grind
theorem Rz {τ1:Tau}{F1:Ac}{s1:SS}{hp1:Hp}{kill:Ah}{G:Au}{fv:Nat}{τ':Tau}{F':Ac}{s':SS}{hp':Hp}{vs:As}{T V:Af}{es ds:Au}{nw d:Ah}(hs1:SD P U τ1 F1 s1 hp1)(bm:bl.length=c.blks.length)(bp:kill.length=I3 c.inL)(ap:∀b∈bl++kill,∃x,s1.get b=some x)(_:dB (bl++kill)=true)(be:∀b x,(gst c G fv).get b=some x-> ∃b' x',(bl++kill)[b]? =some b'/\s1.get b'=some x')(ex:Ext (rU τ1 (bl++kill)) F1 (gst c G fv) hp1 τ' F' s' hp')(hs:SD P U τ' F' s' hp')(hv:VDL P U τ' F' vs (T++V))(bn:T.length=(C9 c.res).length)(hb:BX τ' hp' c.post (Z6 0 c.blks.length++nw) V)(hm:jT P U (Z6 0 c.blks.length++nw) τ' F' s' c.outL vs es d)(hl:∀b∈Z6 0 c.blks.length++nw,∃x,s'.get b=some x)(hd:dB (nw++d)=true)(ce:∀b∈nw,c.blks.length+I3 c.inL<=b)(ca:∀b∈d,c.blks.length<=b)(bt:d.length=I3 c.outL)(cd:nw.length+c.blks.length=c.post.length)(bc:dK U (n8 c.outL) es ds):SD P U (K5 τ1 τ' s1.nx (nw++d)) F' (fst_ c ds s1 bl kill) hp'/\Ext τ1 F1 s1 hp1 (K5 τ1 τ' s1.nx (nw++d)) F' (fst_ c ds s1 bl kill) hp'/\VDL P U (K5 τ1 τ' s1.nx (nw++d)) F' (U8 c ds s1 bl) (T++V):=by
 have bb:c.post.length-c.blks.length=nw.length:=by omega
 have aw:(gst c G fv).nx=(bl++kill).length:=by show c.blks.length+I3 c.inL=_;rw[TO,bm,bp]
 have al:∀b x,s1.get b=some x->b<s1.nx:=fun b x h=>hs1.bound h;have au:∀b p,τ1 b=some p->b<s1.nx:=fun b p hb=>Nat.lt_of_not_le fun Z=>by rw[hs1.new b Z]at hb;cases hb
 have lo:∀b,b<s1.nx->K5 τ1 τ' s1.nx (nw++d) b=τ1 b:=fun b hb=>eY hb;have bi:∀k b,(bl++kill)[k]? =some b->b<s1.nx/\τ' k=τ1 b:=by intro k b h;obtain⟨x,hx⟩:=ap b (Tv h);exact⟨al b x hx,by rw[ex.st k (by rw[aw];exact(Tn.1 h).1),P8 h]⟩
 have N:∀i b,(Z6 0 c.blks.length++nw)[i]? =some b->K5 τ1 τ' s1.nx (nw++d) (Y5 c bl s1.nx i)=τ' b:=by
  intro i b h;by_cases hi:i<c.blks.length
  ·rw[Tu (by rw[E4];exact hi),hU,TJ hi,TT]at h;cases h;have W:bl[i]? =some (bl[i]'(by omega)):=Tx (by omega);have bu:(bl++kill)[i]? =some (bl[i]'(by omega)):=by grind
   obtain⟨k1,k2⟩:=bi i _ bu;rw[sD hi W,lo _ k1,k2]
  ·rw[Tt (by rw[E4];omega),E4]at h;obtain⟨k,rfl⟩:∃k,i=c.blks.length+k:=⟨i-c.blks.length,by omega⟩
   rw[UH]at h;rw[sC];exact jK (by rw[Tu (Tn.1 h).1];exact h)
 have ax:∀k b,d[k]? =some b->K5 τ1 τ' s1.nx (nw++d) (s1.nx+(c.post.length-c.blks.length)+k)=τ' b:=by intro k b h;rw[bb,Uu];exact jK (by rw[Tt (by omega),UH];exact h)
 have R:VDL P U (K5 τ1 τ' s1.nx (nw++d)) F' (U8 c ds s1 bl) (T++V):=hm.vals bc N ax hv;obtain⟨_,v2⟩:=R.split;rw[bn]at v2;have az:=hm.blks (nb:=s1.nx+(c.post.length-c.blks.length)) bc;have O:Tle τ1 (K5 τ1 τ' s1.nx (nw++d)):=fun b p hb=>by rw[lo b (au b p hb)];exact hb
 have B:∀k b,(Z6 0 c.blks.length++(nw++d))[k]? =some b->K5 τ1 τ' s1.nx (nw++d) (Y5 c bl s1.nx k)=τ' b:=by
  intro k b h;by_cases hi:k<c.blks.length;refine N k b ?_;rw[Tu (by rw[E4];exact hi)]at h⊢;exact h
  ·rw[Tt (by rw[E4];omega),E4]at h;obtain⟨j,rfl⟩:∃j,k=c.blks.length+j:=⟨k-c.blks.length,by omega⟩
   rw[UH]at h;rw[sC];exact jK h
 have av:∀(k k':Nat) b,(Z6 0 c.blks.length++(nw++d))[k]? =some b->(Z6 0 c.blks.length++(nw++d))[k']? =some b->k=k':=by
  have hge:∀b∈nw++d,c.blks.length<=b:=fun b hb=>by grind
  intro k k' b h h';by_cases hk:k<c.blks.length;rw[Tu (by rw[E4];exact hk),hU,TJ hk,TT]at h;cases h;by_cases L:k'<c.blks.length;rw[Tu (by rw[E4];exact L),hU,TJ L,TT]at h';grind;rw[Tt (by rw[E4];omega)]at h';have:=hge k (Tv h');omega;rw[Tt (by rw[E4];omega)]at h;by_cases L:k'<c.blks.length;rw[Tu (by rw[E4];exact L),hU,TJ L,TT]at h';cases h';have:=hge k' (Tv h);omega;rw[Tt (by rw[E4];omega)]at h';have:=dC hd _ _ b h h';rw[E4]at this;omega
 have J:∀b x,(fst_ c ds s1 bl kill).get b=some x->
   (∃k b',b=Y5 c bl s1.nx k/\(Z6 0 c.blks.length++(nw++d))[k]? =some b'/\(∃x',s'.get b'=some x')/\
    ((∃i o Y,τ' b'=some (some (i,o))/\hp'.m.get i=some Y/\F' i=none/\BD P U (K5 τ1 τ' s1.nx (nw++d)) F' o x Y)\/(τ' b'=some none/\E9 P U x)))\/
   (b<s1.nx/\b∉bl/\b∉kill/\s1.get b=some x):=by
  intro b x C;have g:(match lk (cD (Y5 c bl s1.nx) 0 c.post ((U8 c ds s1 bl).drop (C9 c.res).length)++(V2 c.outL ds (s1.nx+(c.post.length-c.blks.length))++(Y9 (kill++(bl++ [s1.nx]))++s1.h))) b with|some x=>x|none=>none)=some x:=C;rw[L1,L1,L1]at g;cases c1:lk (cD (Y5 c bl s1.nx) 0 c.post ((U8 c ds s1 bl).drop (C9 c.res).length)) b with
  |some y=>
   rw[c1]at g;simp only at g;subst g;rw[<-UV ((U8 c ds s1 bl).drop (C9 c.res).length)]at c1;obtain⟨j,bj,i,o,Y,e1,e2,_,e5,e6,e7⟩:=Bd hb v2 (fun j b hj=>by rw[TT];exact N j b hj) c1;left;obtain⟨x',ae⟩:=hl bj (Tv e2);have hF:F' i=none:=by rcases hs.live bj x' ae with⟨i',o',y',k1,_,k3,_⟩| ⟨k1,_⟩;grind;grind
   refine⟨j,bj,by rw[e1,TT],?_,⟨x',ae⟩,.inl ⟨i,o,Y,e5,e6,hF,e7⟩⟩;rw[<-Tz,Tu (Tn.1 e2).1];exact e2
  | none =>
   rw[c1]at g;simp only at g;cases c2:lk (V2 c.outL ds (s1.nx+(c.post.length-c.blks.length))) b with
   |some y=>rw[c2]at g;simp only at g;subst g;obtain⟨k,b',X,x',e1,e2,e3,e4,e5,e6⟩:=az b _ c2;cases e3;left;refine⟨c.blks.length+(nw.length+k),b',by rw[sC,e1,bb,Uu],?_,⟨x',e4⟩,?_⟩;rw[Tt (by rw[E4];omega),E4,UH,Tt (by omega),UH];exact e2;rcases hs.live b' x' e4 with⟨i,o,y,k1,k2,k3,k4⟩| ⟨k1,k2⟩;exact .inl ⟨i,o,y,k1,k2,k3,e5 _ o y k4⟩;exact .inr ⟨k1,e6 k2⟩
   |none=>
    rw[c2,T6]at g;simp only at g;by_cases hk:b∈kill++(bl++ [s1.nx])
    rw[TJ hk]at g;cases g
    ·rw[TH hk]at g;have t:s1.get b=some x:=g;refine .inr ⟨al b x t,fun K=>?_,fun h=>hk (Va _ h),t⟩;obtain⟨i,hi⟩:=Uq.1 K;have hlt:i<c.blks.length:=by have:=(Tn.1 hi).1;omega
     have:=uF (num:=Y5 c bl s1.nx) (r:=c.post) (fl:=(U8 c ds s1 bl).drop (C9 c.res).length) (i0:=0) (j:=i) (by omega);rw[TT,sD hlt hi]at this;exact absurd this (AY c1)
 obtain⟨lg,a1,a2,a3,a4,_⟩:=ex.hh;have A:∀b0 x i o,(gst c G fv).get b0=some x->rU τ1 (bl++kill) b0=some (some (i,o))-> ∃b' x',b'∈bl++kill/\s1.get b'=some x'/\τ1 b'=some (some (i,o)):=by intro b0 x i o h0 ht;obtain⟨b',x',k1,k2⟩:=be b0 x h0;rw[P8 k1]at ht;exact⟨b',x',Tv k1,k2,ht⟩
 have bh:∀b i o,b<(gst c G fv).nx->τ' b=some (some (i,o))-> ∃b' x',b'∈bl++kill/\s1.get b'=some x'/\τ1 b'=some (some (i,o)):=by intro b i o hb ht;rw[aw]at hb;have hg:=Tx hb;obtain⟨_,k2⟩:=bi b _ hg;obtain⟨x,hx⟩:=ap _ (Tv hg);rw[k2]at ht;exact⟨_,x,Tv hg,hx,ht⟩
 have ah:∀b i o,τ' b=some (some (i,o))->hp1.nx<=i\/ ∃b' x' o',b'∈bl++kill/\s1.get b'=some x'/\τ1 b'=some (some (i,o')):=by intro b i o ht;by_cases hb:b<(gst c G fv).nx;obtain⟨b',x',h1,h2,h3⟩:=bh b i o hb ht;exact .inr ⟨b',x',o,h1,h2,h3⟩;rcases a3 b i o (UL hb) ht with h| ⟨b0,x,o0,h1,h2,_⟩;omega;obtain⟨b',x',k1,k2,k3⟩:=A b0 x i o0 h1 h2;exact .inr ⟨b',x',o0,k1,k2,k3⟩
 have apart:∀b x i o c' y o',s1.get b=some x->b∉bl->b∉kill->τ1 b=some (some (i,o))->c'∈bl++kill->s1.get c'=some y->τ1 c'=some (some (i,o'))->False:=by
  intro b x i o c' y o' h1 h2 h3 h4 h5 h6 h7;have ab:b≠c':=fun e=>by subst e;rcases TY.1 h5 with h|h;exact h2 h;exact h3 h
  exact hs1.inj b c' x y i o i o' h1 h6 ab h4 h7 rfl
 have aq:∀b∈bl,b∈(cD (Y5 c bl s1.nx) 0 c.post ((U8 c ds s1 bl).drop (C9 c.res).length)).map Prod.fst:=by
  intro b K;obtain⟨i,hi⟩:=Uq.1 K;have hlt:i<c.blks.length:=by have:=(Tn.1 hi).1;omega
  have:=uF (num:=Y5 c bl s1.nx) (r:=c.post) (fl:=(U8 c ds s1 bl).drop (C9 c.res).length) (i0:=0) (j:=i) (by omega);rw[TT,sD hlt hi]at this;exact this
 have keys:∀b∈bl++kill,b∈(cD (Y5 c bl s1.nx) 0 c.post ((U8 c ds s1 bl).drop (C9 c.res).length)++(V2 c.outL ds (s1.nx+(c.post.length-c.blks.length))++Y9 (kill++(bl++ [s1.nx])))).map Prod.fst:=by intro b K;simp only[Ui,TY];rcases TY.1 K with h|h;exact .inl (aq b h);exact .inr (.inr (UO.2 ⟨(b,none),aM (by rw[T6,TJ (Va _ h)]),rfl⟩))
 have u:∀b x i o,s1.get b=some x->b∉bl->b∉kill->τ1 b=some (some (i,o))->hp'.m.get i=hp1.m.get i:=by intro b x i o h1 h2 h3 h4;refine a2 i (hs1.lt b i o h4) fun b0 x0 o0 k1 k2 _=>?_;obtain⟨b',x',q1,q2,q3⟩:=A b0 x0 i o0 k1 k2;exact apart b x i o b' x' o0 h1 h2 h3 h4 q1 q2 q3
 refine⟨⟨fun b x C=>?_,fun b D x y i o j q C ba ab e1 e2=>?_,hs.frz,fun b i o h=>?_,hs.flt,fun b Z=>?_,hs1.fc,fun r hr=>(hs1.fz r hr).mono O ex.f⟩,⟨O,ex.f,ex.nx,?_,fun b hb=>lo b hb,fun b x C hlt=>?_,⟨cD (Y5 c bl s1.nx) 0 c.post ((U8 c ds s1 bl).drop (C9 c.res).length)++(V2 c.outL ds (s1.nx+(c.post.length-c.blks.length))++Y9 (kill++(bl++ [s1.nx]))),?_,fun i hi ad=>?_,fun b i o ay ht=>?_,fun i y hi hy=>?_,fun hp=>absurd rfl (hp (s1.nx,none) (UQ _ (UQ _ (aM (by rw[T6,TJ (UQ _ (by simp))])))))⟩,⟨[],rfl⟩,⟨cD (Y5 c bl s1.nx) 0 c.post ((U8 c ds s1 bl).drop (C9 c.res).length)++(V2 c.outL ds (s1.nx+(c.post.length-c.blks.length))++Y9 (kill++(bl++ [s1.nx]))),?_,fun b c' e z i o cs n ay bv cb hg bq=>⟨cs,?_,fun _ _=>rfl⟩⟩⟩,R⟩
 rotate_right 2
 ·show cD (Y5 c bl s1.nx) 0 c.post ((U8 c ds s1 bl).drop (C9 c.res).length)++(V2 c.outL ds (s1.nx+(c.post.length-c.blks.length))++(Y9 (kill++(bl++ [s1.nx]))++s1.h))=
   (cD (Y5 c bl s1.nx) 0 c.post ((U8 c ds s1 bl).drop (C9 c.res).length)++(V2 c.outL ds (s1.nx+(c.post.length-c.blks.length))++Y9 (kill++(bl++ [s1.nx]))))++s1.h
  rw[Tz,Tz]
 ·have ad:b∉kill++(bl++ [s1.nx]):=fun q=>by obtain⟨_,q',_⟩:=bq none (UQ _ (UQ _ (aM (by rw[T6,TJ q]))));cases q'
  rw[u b _ i o ay (fun q=>ad (UQ _ (Va _ q))) (fun q=>ad (Va _ q)) bv];exact hg
 ·rcases J b x C with⟨k,b',rfl,e2,_,h⟩| ⟨hlt,aa,ac,t⟩;rcases h with⟨i,o,Y,h1,h2,h3,h4⟩| ⟨h1,h2⟩;exact .inl ⟨i,o,Y,by rw[B k b' e2];exact h1,h2,h3,h4⟩;exact .inr ⟨by rw[B k b' e2];exact h1,h2⟩
  ·rcases hs1.live b x t with⟨i,o,y,h1,h2,h3,h4⟩| ⟨h1,h2⟩
   ·refine .inl ⟨i,o,y,by rw[lo b hlt];exact h1,by rw[u b x i o t aa ac h1];exact h2,?_,h4.mono O ex.f⟩;cases hF:F' i with
    |none=>rfl|some y'=>exfalso;rcases a4 i y' (hs1.lt b i o h1) hF with h5| ⟨b0,o0,h5,_⟩;rw[h3]at h5;cases h5;rcases ah b0 i o0 h5 with h6| ⟨b',x',o',h6,h7,h8⟩;have:=hs1.lt b i o h1;omega;exact apart b x i o b' x' o' t aa ac h1 h6 h7 h8
   exact .inr ⟨by rw[lo b hlt];exact h1,h2⟩
 ·have mixed:∀ {b D x y i o j q} {k b':Nat},(Z6 0 c.blks.length++(nw++d))[k]? =some b'->K5 τ1 τ' s1.nx (nw++d) (Y5 c bl s1.nx k)=some (some (i,o))->b=Y5 c bl s1.nx k->s1.get D=some y->D<s1.nx->D∉bl->D∉kill->
    K5 τ1 τ' s1.nx (nw++d) D=some (some (j,q))->i≠j/\(x:B4)=x:=by
   intro b D x y i o j q k b' k1 k2 _ k3 k4 k5 k6 k7;refine⟨fun e=>?_,rfl⟩;subst e;rw[B k b' k1]at k2;rw[lo D k4]at k7;rcases ah b' i o k2 with h| ⟨bk,bz,bw,h1,h2,h3⟩;have:=hs1.lt D i q k7;omega;exact apart D y i q bk bz bw k3 k5 k6 k7 h1 h2 h3
  rcases J b x C with⟨k,b',rfl,k1,⟨x',ae⟩,_⟩| ⟨hlt,aa,ac,t⟩;rcases J D y ba with⟨k',ak,rfl,k2,⟨y',bg⟩,_⟩| ⟨M,ai,aj,ao⟩;rw[B k b' k1]at e1;rw[B k' ak k2]at e2;refine hs.inj b' ak x' y' i o j q ae bg (fun e=>?_) e1 e2;subst e;exact ab (by rw[av k k' b' k1 k2]);exact(mixed (b:=Y5 c bl s1.nx k) (x:=x) k1 e1 rfl ao M ai aj e2).1;rcases J D y ba with⟨k',ak,rfl,k2,⟨y',bg⟩,_⟩| ⟨M,ai,aj,ao⟩;exact Ne.symm (mixed (b:=Y5 c bl s1.nx k') (x:=x) k2 e2 rfl t hlt aa ac e1).1;rw[lo b hlt]at e1;rw[lo D M]at e2;exact hs1.inj b D x y i o j q t ao ab e1 e2
 by_cases hlt:b<s1.nx;rw[lo b hlt]at h;exact Uo (hs1.lt b i o h) ex.nx;unfold K5 at h;rw[TH hlt]at h;split at h;exact hs.lt _ i o h;cases h;have Z:s1.nx+(c.post.length-c.blks.length)+I3 c.outL<=b:=Z;unfold K5;rw[TH (by omega),Vi (by rw[TO,bt];omega)];show s1.nx<=s1.nx+(c.post.length-c.blks.length)+I3 c.outL;omega
 ·rcases J b x C with⟨k,b',rfl,k1,_⟩| ⟨_,_,_,t⟩
  ·by_cases hk:k<c.blks.length;have W:bl[k]? =some (bl[k]'(by omega)):=Tx (by omega);rw[sD hk W]at hlt⊢;exact ap _ (Va _ (Tv W))
   ·obtain⟨j,rfl⟩:∃j,k=c.blks.length+j:=⟨k-c.blks.length,by omega⟩
    rw[sC]at hlt;omega
  exact⟨x,t⟩
 ·show cD (Y5 c bl s1.nx) 0 c.post ((U8 c ds s1 bl).drop (C9 c.res).length)++(V2 c.outL ds (s1.nx+(c.post.length-c.blks.length))++(Y9 (kill++(bl++ [s1.nx]))++s1.h))=
   (cD (Y5 c bl s1.nx) 0 c.post ((U8 c ds s1 bl).drop (C9 c.res).length)++(V2 c.outL ds (s1.nx+(c.post.length-c.blks.length))++Y9 (kill++(bl++ [s1.nx]))))++s1.h
  rw[Tz,Tz]
 refine a2 i hi fun b0 x0 o0 k1 k2 _=>?_;obtain⟨b',x',q1,q2,q3⟩:=A b0 x0 i o0 k1 k2;exact ad b' x' o0 q2 q3 (keys b' q1);unfold K5 at ht;rw[TH (by omega)]at ht;split at ht;rcases ah _ i o ht with h| ⟨b',x',o',h1,h2,h3⟩;exact .inl h;exact .inr ⟨b',x',o',h2,h3,keys b' h1⟩;cases ht;rcases a4 i y hi hy with h| ⟨b0,o0,h5,_⟩;exact .inl h;rcases ah b0 i o0 h5 with h6| ⟨b',x',o',h6,h7,h8⟩;omega;exact .inr ⟨b',o',by rw[lo b' (al b' x' h7)];exact h8,keys b' h6⟩
theorem Pj {g:Ay}(hg:n9 P U ov c g):C8 P U ov (FP P U c) g:=by
 intro l args τ F s hp hl hs Q hq _;simp only[FP,p9]at hq;cases J:nC c.args l with
 |none=>rw[J]at hq;exact hq.elim|some K=>
 rw[J]at hq;cases c2:c.find l s with
 |none=>rw[c2]at hq;exact hq.elim|some bl=>
 rw[c2]at hq;simp only at hq;cases c3:oY s c.blks bl with
 |none=>rw[c3]at hq;exact hq.elim|some L=>
 rw[c3]at hq;obtain⟨y,R,T,V⟩:=nD J hl;obtain⟨M,N,O⟩:=mZ hs c3;rw[A5]at hq;obtain⟨vs,s2,hq,τ2,E,hp2,ex2,r,rfl,Y⟩:=hO c.inL (K++L) (y++M) τ F s hp (R.append N) hs _ hq hs;rw[A5]at hq;obtain⟨⟨es,e⟩,u,hq,Z,B,X⟩:=uJ (P:=P) (τ:=τ2) (F:=E) bl c.inL vs s2 _ hq r.fc;simp only[p9]at hq;cases D:bl.all (tX u)&&dB (bl++e)&&Nat.beq e.length (I3 c.inL)&&Nat.ble c.blks.length c.post.length with
 |false=>rw[D]at hq;exact hq.elim|true=>
 rw[D]at hq;simp at D;obtain⟨⟨⟨k1,k2⟩,k3⟩,k4⟩:=D;have C:=r.only Z B;have hm:=X u Z.h;have j:=hm.len;have m:=hq.1;have q:∀b∈bl,∃x,u.get b=some x:=fun b hb=>pH (k1 b hb);have A:=O.mono ex2.t;obtain⟨g1,g2,g3⟩:=Mh C Y T A hm k2 q k3 (M3 (n8 c.inL) 0 es j);have p:VDL P U (rU τ2 (bl++e)) E (fN c (G3 U (n8 c.inL) 0 es)) args:=by obtain⟨w1,_⟩:=g2.split;have:=V _ _ _ ((nF c (G3 U (n8 c.inL) 0 es)).drop y.length) w1;rwa[UX]at this
 obtain⟨v,τ',F',s',hp',aj,z,ai,n,nw,G,r1,r2,r3,r4,r5,r6,r7,r8,r9,aa,ab,ac,ad,ae,ah⟩:=hg es j m _ E hp2 args g1 p;have d:=r8.len;have hQ:=iR _ _ _ (hq.2 m) n d (by rw[J4 _ _ _ d];exact ah);have W:∀b∈bl++e,∃x,u.get b=some x:=fun b hb=>by rcases TY.1 hb with h|h;grind;obtain⟨k,hk⟩:=Uq.1 h;exact hm.live hk
 obtain⟨f1,f2,f3⟩:=Rz C A.len.1 k3 W k2 g3 r2 r3 r4 r5 r7 r8 r9 aa ab ac ad ae (M3 (n8 c.outL) u.fv n d);refine⟨_,_,hQ,_,F',hp',(ex2.trans (Vt r Z)).trans f2,f1,v,r1,?_⟩;obtain⟨w1,_⟩:=f3.split;have:=r6 _ _ _ ((U8 c (G3 U (n8 c.outL) u.fv n) u bl).drop z.length) w1;simp_all
end
def kK (P:Aw)(U:Ab):List (Ay×Con)->Ay->Bb (As->M SV)
 | [],_=>none|p::l,g=>bif Nat.beq p.1 g then some (FP P U p.2)else kK P U l g
section
variable {P :Aw}{U:Ab}{ov:Aa}
variable (P U ov) in
def O8 :List (Ay×Con)->Prop
 | []=>True|p::l=>n9 P U ov p.2 p.1/\O8 l
def CT :∀ {l:List (Ay×Con)},O8 P U ov l-> ∀g k,kK P U l g=some k->C8 P U ov k g
 | [],_,g,k,h=>by cases h
 |p::l,d,g,k,h=>by
  unfold kK at h;cases hb:Nat.beq p.1 g with
  |true=>rw[hb,TE,Tk]at h;rw[<-h,<-Tp hb];exact Pj d.1|false=>rw[hb,TF]at h;exact CT d.2 g k h
def noT {C:Ay->Prop}:∀g,isT (noOv g)=true->C g:=fun _ h=>Bool.noConfusion (show false=true from h)
theorem Ke {a:Ay}{t:Ax}{rest:Aa}(h:isT (some t)=false)(hr:∀g,isT (rest g)=false):∀g,isT (Bp a t rest g)=false:=by intro g;unfold Bp;grind
theorem F6 {L:Ay}{rest:Aa}{con:Ay->Bb (As->M SV)}(h:(con L).isSome=true)(hr:∀g,isT (rest g)=false:=by first|exact fun _=>rfl|exact Ke rfl (fun _=>rfl)|exact Ke rfl (Ke rfl (fun _=>rfl))|exact Ke rfl (Ke rfl (Ke rfl (fun _=>rfl)))):∀g,isT (Bp L kP rest g)=true->con g≠none:=by
 intro g hg e;unfold Bp at hg;cases hb:Nat.beq g L with
 |true=>simp_all|false=>grind
end
section
variable {P :Aw}{U:Ab}{ov:Aa}
end
inductive JK where
 |i (k:IntKind)
 |b
 |rp
structure Jn where
 name:String
 gh:As->SS->List (So×E)
 one:Bool
 res:List JK
 rel:Ar->Ar->Prop
section
variable {P :Aw}{U:Ab}{ov:Aa}
end
section
variable {P :Aw}{U:Ab}
def yesM :As->M SV:=fun l=>match l with
 | []=>i3 (.bool (.bool true))|_=>a8 "an argument"
def OJ (_ e:Ar):Prop:=e=[.bool true]
def cYes (n:String):Con:=⟨n,[],[],fun _ _=>some [],fun d=>d=[],[.one (.g .bool)],[],fun _ _=>some [],OJ⟩
theorem Lc {ov:Aa}{L:Ay}(h:isT (ov L)=true)(n:String):n9 P U ov (cYes n) L:=by
 refine zD (run:=yesM) (fun l args τ F s hp hl hs=>?_) fun _=>⟨rfl,fun _=>trivial⟩
 cases l with
 |cons a l=>exact VA|nil=>
  obtain rfl:args=[]:=Tq hl.1.symm;refine VC ⟨Value.bool true,⟨1,fun m hm=>?_⟩,VD.bool (.bool true)⟩;obtain⟨m,rfl⟩:∃k,m=k+1:=⟨m-1,by omega⟩
  show(bif isT (ov L)&&([]:Af).isEmpty then some (Value.bool true,hp)else _)=some (Value.bool true,hp);grind
end
def shrI (k:IntKind)(a b:Int):Int:=a.fdiv (2^(min b.toNat k.bits))
abbrev cI (L:Rows)(i:Int)(j:Nat):Int:=(D6 L i j).toInt
abbrev cS (L:Rows)(i:Int)(j:Nat):Ae:=(D6 L i j).toStr
abbrev cB (L:Rows)(i:Int)(j:Nat):Bool:=(D6 L i j).toBool
abbrev cL (L:Rows)(i:Int)(j:Nat):Rows:=(D6 L i j).rows
abbrev ln {α:Type}(l:List α):Int:=(l.length:Int)
abbrev Nr (x:Int)(q:Prop):Prop:=Nd (x=x) q
abbrev Ni (x:Int)(q:Prop):Prop:=Nd (¬x<x) q
def byteAt (s:Ae)(i:Int):Int:=((s.getD i.toNat 0).toNat:Int)
theorem uM {p q:Prop}:(p/\(p->p/\(p->q)))↔(p/\(p->q)):=(by grind)
def uL {p q:Prop}:(p->p/\(p->q))↔(p->q):=⟨fun h x=>(h x).2 x,fun h x=>⟨x,h⟩⟩
def V8 (n:Int):(Dat.int n).toInt=n:=rfl
def A6 (s:Ae):(Dat.str s).toStr=s:=rfl
def T8 (l:Rows):(Dat.lst l).rows=l:=rfl
section
variable {α :Type}{f:α->Ar}
theorem i9 {T:List α}{i:Int}{s:α}(h:T[i.toNat]? =some s)(j:Nat):D6 (T.map f) i j=(f s).getD j (.int 0):=by unfold D6;grind
def get_at {T:List α}{i:Int}(h0:0<=i)(h1:i<(T.length:Int)):∃o,T[i.toNat]? =some o:=⟨_,Tx (by omega)⟩
def X6 {l:List α}{a n:Int}:pQ (l.map f) a n=((l.drop a.toNat).take n.toNat).map f:=by unfold pQ;rw[<-List.map_drop,<-List.map_take]
theorem uB {d:Type}{f:α->d}(hf:∀a b,f a=f b->a=b):∀ {l m:List α},l.map f=m.map f->l=m
 | [],[],_=>rfl| [],b::m,h=>by grind|a::l,[],h=>by grind|a::l,b::m,h=>by simp at h;rw[hf a b h.1,uB hf h.2]
theorem Ee {rows:Rows}(f:α->Ar)(R:α->Prop)(h:∀r∈rows,∃a,R a/\r=f a):∃L:List α,(∀a∈L,R a)/\rows=L.map f:=by
 induction rows with
 |nil=>simp_all|cons r rows d=>obtain⟨a,g,e⟩:=h r (by simp);obtain⟨L,hL,e'⟩:=d fun r hr=>h r (by grind);exact⟨a::L,fun b hb=>by grind,by grind⟩
end
def Jb {k:IntKind}{n:Int}(h0:k.min<=n)(h1:n<=k.max):IntKind.wrap k n=n:=by cases k<;>simp[IntKind.min,IntKind.max,IntKind.signed,IntKind.bits,IntKind.wrap]at h0 h1⊢ <;>omega
def Z9 {α:Type}{l:List α}{k:Nat}{a:α}(h:l[k]? =some a):l.take (k+1)=l.take k++ [a]:=by rw[List.take_add_one,h];rfl
def HJ {α:Type}{l:List α}{k:Nat}{a:α}(h:l[k]? =some a):l.drop k=a::l.drop (k+1):=by have hk:=(Tn.1 h).1;rw[List.drop_eq_getElem_cons hk,(Tn.1 h).2]
def fA {k:Int}(h:0<=k):(k+1).toNat=k.toNat+1:=by omega
def numK :Kd->Bool
 | .int _=>true| .bool=>true| .str=>true|_=>false
def PV.num {P:Aw}{F F':Ac}{k:Kd}{v:Av}{d:Dat}(hk:numK k=true)(p:PV P F k v d):PV P F' k v d:=by
 cases p with
 |int k n=>exact .int k n|bool b=>exact .bool b|str s=>exact .str s|nils e=>cases hk
 |vague e=>cases hk
 |_=>cases hk
section
variable {P :Aw}{U:Ab}{ov:Aa}
def pW :SV->Bool
 | .int _ _=>true| .bool _=>true| .str _=>true|_=>false
def IE (a:SV):Bool:=match a with
 | .tup l=>l.all pW|a=>pW a
variable {F F':Ac}{v:Av}
def IC {τ τ':Tau}{a:SV}(h:pW a=true)(hv:VD P U τ F a v):VD P U τ' F' a v:=by
 cases hv with
 |int k e=>exact .int k e|bool e=>exact .bool e|str e=>exact .str e|_=>cases h
theorem NA {τ τ':Tau}{a:SV}(h:IE a=true)(hv:VD P U τ F a v):VD P U τ' F' a v:=by
 unfold IE at h;split at h
 ·cases hv with
  |tup _ xs h1 h2=>rw[TS]at h;exact .tup _ xs h1 fun i a x d hx=>IC (by grind) (h2 i a x d hx)
 exact IC h hv
def QT (P:Aw)(s:SS)(a:SV)(s1:SS):Tr (SV×SS):=match a,s1.h with
 | .sl b z o n c,(k,some (.rows L e z' ph))::(k2,none)::h=>
  bif Nat.beq h.length s.h.length&&Nat.beq k2 k&&Nat.ble s.nx k&&(kf P e).all numK then .ret (.sl b z o n c,⟨(k,some (.rows L e z' ph))::s.h,s1.nx,s1.fc,s1.fv,s.fz⟩)else .ret (.sl b z o n c,s1)
 |a,(k2,none)::h=>bif IE a&&Nat.beq h.length s.h.length&&Nat.ble s.nx k2 then .ret (a,⟨s.h,s1.nx,s1.fc,s1.fv,s.fz⟩)else .ret (a,s1)|a,_=>.ret (a,s1)
def Nj (P:Aw)(run:As->M SV):As->M SV:=fun l s=>(run l s).bind fun r=>QT P s r.1 r.2
theorem Nk {run:As->M SV}{g:Ay}(hr:C8 P U ov run g):C8 P U ov (Nj P run) g:=by
 intro l args τ F s hp hl hs Q hq _;unfold Nj at hq;rw[VZ]at hq;obtain⟨a,s1,h1,τ1,F1,hp1,ex,hs1,v,hx,hv⟩:=hr l args τ F s hp hl hs _ hq hs;simp only at h1;unfold QT at h1;split at h1
 ·rename_i b z o n c k L e C ph k2 h hh;cases hc:Nat.beq h.length s.h.length&&Nat.beq k2 k&&Nat.ble s.nx k&&(kf P e).all numK with
  |false=>rw[hc]at h1;exact⟨_,_,h1,τ1,F1,hp1,ex,hs1,v,hx,hv⟩|true=>
   rw[hc]at h1;simp only[Tl,Ub,Up,TS]at hc;obtain⟨⟨⟨D,c2⟩,c3⟩,c4⟩:=hc;subst k2;obtain⟨K,B,a2,a3,O,R⟩:=ex.hh;rw[hh]at B;have u: [(k,some (B4.rows L e C ph)),(k,none)]++h=K++s.h:=B;obtain⟨e1,e2⟩:=List.append_inj' u D;subst e1;subst e2;have get:∀b,(⟨(k,some (.rows L e C ph))::s.h,s1.nx,s1.fc,s1.fv,s.fz⟩:SS).get b=s1.get b:=fun b=>by unfold SS.get;rw[hh,A0,A0,A0];by_cases hb:k=b;rw[TJ hb,TJ hb];rw[TH hb,TH hb,TH hb]
   have old:∀b x,s1.get b=some x->k≠b->s.get b=some x:=fun b x hb A=>by rw[<-get]at hb;unfold SS.get at hb⊢;rwa[A0,TH A]at hb
   have new:∀b x,s.get b=some x->b∈ [(k,some (B4.rows L e C ph)),(k,none)].map Prod.fst->False:=fun b x hb hm=>by have:=hs.bound hb;simp only[Um,List.map_nil,TZ,List.not_mem_nil,or_false,or_self]at hm;omega
   refine⟨_,_,h1,τ1,F,hp1,⟨ex.t,Vu F,ex.nx,ex.snx,ex.st,fun b x hb hlt=>ex.low b x (by grind) hlt,⟨[(k,some (.rows L e C ph))],rfl,fun i hi J=>a2 i hi fun b x o p1 p2 m=>new b x p1 m,fun b i o hb ht=>?_,fun i y hi hy=>.inl hy,fun _ i y hy=>hy⟩,ex.hf,?_⟩,
    ⟨fun b x hb=>?_,fun b c x y i o j q hb hc=>hs1.inj b c x y i o j q (by grind) (by grind),fun i b hF=>hs1.frz i b (ex.f i b hF),hs1.lt,fun i b hF=>hs1.flt i b (ex.f i b hF),hs1.new,hs1.fc,fun r hr=>(hs.fz r hr).mono ex.t (Vu F)⟩,v,hx,?_⟩
   rcases a3 b i o hb ht with h| ⟨b0,x,o0,h1,h2,h3⟩;exact .inl h;exact(new b0 x h1 h3).elim;exact(by grind)
   ·rw[get]at hb;by_cases hk:k=b
    ·subst hk;have hx:x= .rows L e C ph:=by rw[<-get]at hb;unfold SS.get at hb;rw[A0,TJ rfl]at hb;exact(TN hb).symm
     subst hx;rcases hs1.live k _ hb with⟨i,o,y,p1,p2,m,cs,n,V,⟨r1,X,Y,Z⟩,W⟩|p
     ·refine .inl ⟨i,o,y,p1,p2,?_,cs,n,V,⟨r1,X,Y,fun r j row d hr T=>?_⟩,W⟩
      ·cases hF:F i with
       |none=>rfl|some y'=>rw[ex.f i y' hF]at m;cases m
      obtain⟨x,t1,t2⟩:=Z r j row d hr T;exact⟨x,t1,fun kd G=>(t2 kd G).num (by grind)⟩
     exact .inr p
    have E:=old b x hb hk;rcases hs.live b x E with⟨i,o,y,p1,p2,m,N⟩| ⟨p1,p2⟩;exact .inl ⟨i,o,y,ex.t _ _ p1,by rw[a2 i (hs.lt b i o p1) fun b x o p1 p2 m=>new b x p1 m];exact p2,m,N.mono ex.t (Vu F)⟩;exact .inr ⟨ex.t _ _ p1,p2⟩
   ·cases hv with
    |sl _ _ _ _ _ i o c h h0 h1 hc=>exact .sl _ _ _ _ _ i o c h h0 h1 hc|sl0 _ _ _ _ _ h h0 h1 hc=>exact .sl0 _ _ _ _ _ h h0 h1 hc
 ·rename_i a _ _ k2 h hh;cases hc:IE a&&Nat.beq h.length s.h.length&&Nat.ble s.nx k2 with
  |false=>rw[hc]at h1;exact⟨_,_,h1,τ1,F1,hp1,ex,hs1,v,hx,hv⟩|true=>
   rw[hc]at h1;simp only[Tl,Ub,Up]at hc;obtain⟨⟨c0,D⟩,c3⟩:=hc;obtain⟨K,B,a2,a3,O,R⟩:=ex.hh;rw[hh]at B;have u: [(k2,none)]++h=K++s.h:=B;obtain⟨e1,e2⟩:=List.append_inj' u D;subst e1;have new:∀b x,s.get b=some x->b∈ [(k2,(none:Bb B4))].map Prod.fst->False:=fun b x hb hm=>by have:=hs.bound hb;simp only[Um,List.map_nil,TZ,List.not_mem_nil,or_false]at hm;omega
   refine⟨_,_,h1,τ1,F,hp1,⟨ex.t,Vu F,ex.nx,ex.snx,ex.st,fun b x hb _=>⟨x,hb⟩,⟨[],rfl,fun i hi J=>a2 i hi fun b x o p1 p2 m=>new b x p1 m,fun b i o hb ht=>?_,fun i y hi hy=>.inl hy,fun _ i y hy=>hy⟩,ex.hf,(by grind)⟩,
    ⟨fun b x hb=>?_,fun b c x y i o j q hb hc A e1 e2=>hs.inj b c x y i o j q hb hc A (by rw[<-ex.st b (hs.bound hb)];exact e1) (by rw[<-ex.st c (hs.bound hc)];exact e2),fun i b hF=>hs1.frz i b (ex.f i b hF),hs1.lt,fun i b hF=>hs1.flt i b (ex.f i b hF),hs1.new,hs1.fc,fun r hr=>(hs.fz r hr).mono ex.t (Vu F)⟩,v,hx,NA c0 hv⟩
   rcases a3 b i o hb ht with h| ⟨b0,x,o0,h1,h2,h3⟩;exact .inl h;exact(new b0 x h1 h3).elim;rcases hs.live b x hb with⟨i,o,y,p1,p2,m,N⟩| ⟨p1,p2⟩;exact .inl ⟨i,o,y,ex.t _ _ p1,by rw[a2 i (hs.lt b i o p1) fun b x o p1 p2 m=>new b x p1 m];exact p2,m,N.mono ex.t (Vu F)⟩;exact .inr ⟨ex.t _ _ p1,p2⟩
 exact⟨_,_,h1,τ1,F1,hp1,ex,hs1,v,hx,hv⟩
variable (P U) in
def conP (l:List (Ay×Con))(g:Ay):Bb (As->M SV):=match kK P U l g with
 |some k=>some (Nj P k)|none=>none
end
def Con.below (c:Con)(mu:Ar->Nat)(n:Nat):Con:= {c with pre:=fun d=>c.pre d/\mu d<n}
section
variable {P :Aw}{U:Ab}{ov:Aa}
theorem GC {c:Con}{mu:Ar->Nat}{g:Ay}(h:∀n,n9 P U ov (c.below mu n) g->n9 P U ov (c.below mu (n+1)) g):n9 P U ov c g:=by
 have all:∀n,n9 P U ov (c.below mu n) g:=fun n=>by
  induction n with
  |zero=>intro es _ d;exact absurd d.2 (Nat.not_lt_zero _)
  |succ n j=>grind
 intro es e d;exact all (mu (t8 U (n8 c.inL) es)+1) es e ⟨d,Uv _⟩
