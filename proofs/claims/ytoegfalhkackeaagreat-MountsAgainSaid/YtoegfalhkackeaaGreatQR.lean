/- Mounts: Collect's contract stands.
  Conditions: none. -/
import Derived.Test.YtoegfalhkackeaaGreatGJ
set_option maxRecDepth 10000
set_option linter.all false
noncomputable section
namespace Go.D
open Go Go.Xe Go.Sx
section
variable {i g fr lv c0 c1 c2 c3 c4 c5 c6 c7:Int}{S st N:Sx.Rows}
def co_b0 :(gst cCo2 (coE i g S fr lv c0 c1 c2 c3 c4 c5 c6 c7 st N) 15).get 0=some (.cells [.int .u32 (.dat 0 (.int i)),.int .u32 (.dat 1 (.int g))] tHd 2):=by kernel_rfl
def co_b1 :(gst cCo2 (coE i g S fr lv c0 c1 c2 c3 c4 c5 c6 c7 st N) 15).get 1=some (.cells [.ptr 2 13 (.int 0) 0] tDp 1):=by kernel_rfl
def co_ar :fN cCo2 (coE i g S fr lv c0 c1 c2 c3 c4 c5 c6 c7 st N)=[.fn (.func bF) [] [.ptr 0 2 (.int 0) 0,.ptr 1 1 (.int 0) 0]]:=by kernel_rfl
end
section
variable {τ :Tau}{F:FB}{s:SS}{bl:Ah}
def Pn {t:Ax}{e:E}:LOK PR U0 bl τ F s (.g (.lst t)) (.lst t e false) (some e,none):=by
 refine⟨fun so h=>⟨e,rfl⟩,fun h=>(by cases h),fun _=>rfl,fun u b τ2 num nb d _ a _=>?_,fun h=>absurd rfl h⟩;have h:e.toR U0=d.toR U0:=a e .l rfl rfl;cases b with
 |lst _ _ _ _ hp _=>rw[h]at hp;exact .lst _ _ _ _ hp (fun h=>by cases h)
end
variable {v:Av}
def Oq {τ:Tau}{F:FB}{b z:Nat}(h:VD PR U0 τ F (.ptr b z (.int 0) 0) v):∃i o,v= .pointer (some ⟨i,o,none⟩)/\τ b=some (some (i,o)):=by
 cases h with
 |ptr _ _ _ _ i o h h0=>exact⟨i,o,by rw[show o+(E.int 0).toN U0*z+0=o by show o+0*z+0=o;omega],h⟩
def FI {D:DM}:∀ {l:Ah} {r k y:Nat},l[r]? =some y->k<2->(l.flatMap (hv D))[r*2+k]? =(hv D y)[k]?
 | [],r,k,y,h,_=>by simp at h|a::l,0,k,y,h,hk=>by simp at h;subst h;rw[List.flatMap_cons,Tu (by rw[FL];omega)];congr 1;omega|a::l,r+1,k,y,h,hk=>by rw[List.flatMap_cons,Tt (by rw[FL];omega),FL,show(r+1)*2+k-2=r*2+k by omega];exact FI (by simpa using h) hk
variable {D:DM}
def Ss {F:FB}{hp:FB}{l:Ah}{q:Ai}(h:SlK hp v l.length (l.flatMap (hv D)) q)(hl:l.length<=67108864)(hF:∀r,q=some r->F r=hp r):PV PR F (.sl tHd) v (.lst (l.map (z9 D.gen))):=by
 rcases h with⟨h1,rfl,_,_⟩| ⟨h1,r,c,rfl,h3,h4,h5⟩;rw[List.length_eq_zero_iff.1 h1];exact .nils _
 ·obtain⟨o,n⟩:=l9 h4;have m:=PV.sl (P:=PR) (F:=F) tHd r 0 (d9 l.length 0) (.cells c (l.length*2) tHn 2) c (l.length*2) 2 (zb:=2) (l.map (z9 D.gen)) (fun a k=>((l.flatMap (hv D))[a*2+k]?).getD undef) ((hF r h5).trans h3) rfl ⟨.inr ⟨l.length,rfl,hl,by rw[TG];exact hl⟩,roC.mk⟩ (by rw[TG];omega) (by rw[yD];rfl)
   (fun x hx=>by obtain⟨y,_,rfl⟩:=UO.1 hx;rfl)
   (fun a k row d hr e=>by
    obtain⟨y,hy,rfl⟩:=UO.1 (Tv hr);have b:a<l.length:=by have:=(Tn.1 hr).1;rwa[TG]at this
    have hk:k<2:=(Tn.1 e).1;have e1:=FI (D:=D) (Tx b) hk;have e2:=n (a*2+k) (by omega);show c.get (0+a*2+k)=some (((l.flatMap (hv D))[a*2+k]?).getD undef);rw[show 0+a*2+k=0+(a*2+k) by omega,<-e2,e1,Tx (show k<(hv D l[a]).length from hk)];rfl)
   (fun a k row kd d hr e hk=>by
    have b:a<l.length:=by have:=(Tn.1 hr).1;rwa[TG]at this
    have f:k<2:=by have:=(Tn.1 hk).1;rwa[yD]at this
    have j:row=z9 D.gen l[a]:=by rw[Ul,Tx b]at hr;simpa using hr.symm
    subst j;rw[yD]at hk;show PV PR F kd (((l.flatMap (hv D))[a*2+k]?).getD undef) d;rw[FI (Tx b) f]
    match k,f,e,hk with
    |0,_,e,hk=>cases e;cases hk;exact .int _ _
    |1,_,e,hk=>cases e;cases hk;exact .int _ _)
  rwa[TG]at m
def Rk {K c:Nat}{s:Sl}(w:WF D K)(hs:D.L[c]? =some s)(us:s.used=true):(bel D 1001 c).length<=1000:=by
 have:bel D 1001 c ⊆ List.range D.L.length:=fun j hj=>by obtain⟨_,sj,k,_⟩:=R9 w hs us j hj;exact List.mem_range.2 (Tn.1 k).1
 have:=(M8 w hs us (f:=1001)).length_le_of_subset this;have:=w.lim;simp at*;omega
def HE {D':DM}{S N:Sx.Rows}{fr lv h l:Int}{K p:Nat}(o:Rl D.gen D S N fr lv)(d:Rl D'.gen D' S N h l)(w:WF D K)(w':WF D' p):∀(f c:Nat) (s:Sl),D.L[c]? =some s->s.used=true->D'.gen c=D.gen c/\bel D' f c=bel D f c:=by
 have b:∀(c:Nat) (s:Sl),D.L[c]? =some s->s.used=true->D'.at c (D.gen c)=some c:=fun c s hs us=>by obtain⟨k,hk⟩:=d.vld.1 (o.vld.2 ⟨c,Vn hs us⟩);obtain⟨_,_,_,e,_⟩:=Vm hk;rw[hk];congr 1;omega
 have a:∀(c:Nat) (s:Sl),D.L[c]? =some s->s.used=true->D'.gen c=D.gen c:=fun c s hs us=>by obtain⟨s',h1,_,_,h4⟩:=Vm (b c s hs us);rw[Vo h1];omega
 intro f;induction f with
 |zero=>exact fun c s hs us=>⟨a c s hs us,rfl⟩
 |succ f x=>
  intro c s hs us;refine⟨a c s hs us,?_⟩;obtain⟨s1,m,_,a3,_,_,_,_,_,_,_,q⟩:=o.flds (Vn hs us);obtain⟨s2,y,_,t,_,_,_,_,_,_,_,u⟩:=d.flds (b c s hs us);rw[hs]at m;cases m;have e:s2.n.ch=s.n.ch:=by have:=congrArg (List.map fun r:Ar=>(r.getD 0 (.int 0)).toInt.toNat) (u.symm.trans q);simpa [List.map_map,Function.comp_def,z9,Dat.toInt]using this
  unfold bel;rw[a3,t,e];congr 1;rw[List.flatMap_def,List.flatMap_def];congr 1;refine List.map_congr_left fun j hj=>?_;obtain⟨sj,k1,k2,_⟩:=(w.ch c s hs us).2 j hj;exact(x j sj k1 k2).2
def len15 {α:Type}{l:List α}(h:l.length=15):∃a b c d e f g i j k m n o p q,l=[a,b,c,d,e,f,g,i,j,k,m,n,o,p,q]:=by
 match l,h with
 | [a,b,c,d,e,f,g,i,j,k,m,n,o,p,q],_=>exact⟨a,b,c,d,e,f,g,i,j,k,m,n,o,p,q,rfl⟩
variable {ov :Aa}
def r_co2 (U:Xe.isT (ov oF)=false)(V:Xe.isT (ov sF)=false)(R:Xe.isT (ov bF)=false)(T:Xe.isT (ov bG)=false)(hL:RRO PR U0 ov cLok lkF):RRO PR U0 ov cCo2 oF:=by
 intro es A B τ F hp xs hs hx;obtain⟨C,G,a2,a3,I,J,L,M,O,P,d,j,k,n,o,rfl⟩:=len15 (show es.length=15 from A);obtain⟨ui,ug,⟨D,K,H,w⟩,X⟩:=(show FD [.int (C.toI U0),.int (G.toI U0),.lst (a2.toR U0),.int (a3.toI U0),.int (I.toI U0),.int (J.toI U0),.int (L.toI U0),.int (M.toI U0),.int (O.toI U0),.int (P.toI U0),.int (d.toI U0),.int (j.toI U0),.int (k.toI U0),.lst (n.toR U0),.lst (o.toR U0)]from B)
 have hs:SD PR U0 τ F (gst cCo2 (coE (C.toI U0) (G.toI U0) (a2.toR U0) (a3.toI U0) (I.toI U0) (J.toI U0) (L.toI U0) (M.toI U0) (O.toI U0) (P.toI U0) (d.toI U0) (j.toI U0) (k.toI U0) (n.toR U0) (o.toR U0)) 15) hp:=hs;have hx:VDL PR U0 τ F (fN cCo2 (coE (C.toI U0) (G.toI U0) (a2.toR U0) (a3.toI U0) (I.toI U0) (J.toI U0) (L.toI U0) (M.toI U0) (O.toI U0) (P.toI U0) (d.toI U0) (j.toI U0) (k.toI U0) (n.toR U0) (o.toR U0))) xs:=hx;rw[co_ar]at hx;obtain⟨v0,ab,rfl,w0,hx⟩:=VDL.uncons hx;have Z:ab=[]:=Tq hx.1.symm;subst Z;cases w0 with
 |fn f l m ys zs h1 h2 h3 h4=>
 have aa:ys=[]:=Tq h1.symm;subst aa
 match zs,h3,h4 with
 | [p0, p1], _, h4 =>
 obtain⟨b,ob,rfl,tb⟩:=Oq (h4 0 _ _ rfl rfl);obtain⟨bd,od,rfl,td⟩:=Oq (h4 1 _ _ rfl rfl);rcases hs.live 0 _ co_b0 with⟨b',ah,y0,t0,m0,_,cs,nb,rfl,n0,g0⟩| ⟨_,_,_,_,_,h,_⟩;case inr=>cases h
 rw[tb]at t0;cases t0;rcases hs.live 1 _ co_b1 with⟨ac,ai,y1,t1,m1,_,cd,nd,rfl,n1,g1⟩| ⟨_,_,_,_,_,h,_⟩;case inr=>cases h
 rw[td]at t1;cases t1;obtain⟨x0,k0,w0⟩:=g0 0 _ rfl;obtain⟨x1,k1,w1⟩:=g0 1 _ rfl;obtain⟨u,ku,wu⟩:=g1 0 _ rfl;cases w0;cases w1;obtain⟨i',o',hu,_⟩:=Oq wu;obtain⟨c,hc⟩:=H.vld.1 X;obtain⟨s,s1,s2,s3,s4⟩:=Vm hc;have eg:=Vo s1;have e0:E.toI U0 (.dat 0 (.int (C.toI U0)))=c:=s3;have e1:E.toI U0 (.dat 1 (.int (G.toI U0)))=D.gen c:=by rw[eg];exact s4
 rw[e0]at k0;rw[e1]at k1;have hl:j9 cs ob 2=some (hv D c):=B3 (vs:=hv D c) fun q hq=>by
  match q,hq with
  |0,_=>exact k0|1,_=>exact k1
 have bl:=Rk w s1 s2;have hB:=Rj R T w (Po hL hs wu w H) hu s1 s2;obtain⟨v,hp1,X1,C1⟩:=PM V hB (by omega) m0 n0 hl (hs.lt _ _ _ tb) m1 n1 ku (hs.lt _ _ _ td);obtain⟨hp',X2,c1,c2,q,c3,c4⟩:=OS U X1 C1;let F':FB:=fun b=>if q=some b then hp'.m.get b else F b
 have z:∀r,r<hp.nx->F' r=F r:=fun r hr=>TH fun e=>by have:=(c4 r e).1;omega
 have t:FH F' hp':=fun r y h=>by by_cases e:q=some r;exact⟨(TJ e).symm.trans h,(c4 r e).2⟩;have h:F r=some y:=(TH e).symm.trans h;have:=hs.flt r y h;exact⟨by rw[c2 r this];exact hs.frz r y h,by omega⟩
 have W:PV PR F' (.sl tHd) v (.lst ((bel D 1001 c).map (z9 D.gen))):=Ss c3 (by omega) fun r e=>TJ e;refine⟨v,F',hp',[.dat 0 (.lst ((bel D 1001 c).map (z9 D.gen)))],fun _=>none,⟨[],0,[],0,[]⟩,[.lst tHd (.dat 0 (.lst ((bel D 1001 c).map (z9 D.gen)))) false],[v],[],X2,c1,fun r y h=>by rw[z r (hs.flt r y h)];exact h,t,c2,fun r y hr h=>by rw[<-z r hr];exact h,rfl,?_,SD.empty t 0,⟨_,_,[],rfl,rfl,Pn,rfl,rfl⟩,.cons (.lst _ _ _ _ W fun h=>by cases h) We,fun b hb=>by simp at hb,rfl,rfl,fun τ2 ws Y=>?_⟩
 ·intro D' K' c' a w' Q;obtain⟨ad,ae,a⟩:=a;have ec:c'=c:=by obtain⟨_,_,_,e,_⟩:=Vm Q;omega
  rw[ec,(HE H a w w' 1001 c s s1 s2).2];refine List.map_congr_left fun y hy=>?_;obtain⟨_,sy,k1,k2⟩:=R9 w s1 s2 y hy;show [Dat.int y,.int (D.gen y)]=[Dat.int y,.int (D'.gen y)]
  rw[(HE H a w w' 0 y sy k1 k2).1]
 ·obtain⟨x,p,rfl,hx,hn⟩:∃x p,ws=x::p/\VD PR U0 τ2 F' x v/\p=[]:=by
   match ws,Y with
   | [x],Y=>exact⟨x,[],rfl,Y.2 0 _ _ rfl rfl,rfl⟩
  exact hx
