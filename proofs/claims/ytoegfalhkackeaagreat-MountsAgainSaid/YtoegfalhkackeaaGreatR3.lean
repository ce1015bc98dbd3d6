/- The reference's DOM: the conditions of At, Copy, place, put, without, Find, insert hold.
  Conditions: none. -/
import Derived.Test.YtoegfalhkackeaaGreatQN
set_option maxRecDepth 100000
set_option linter.all false
noncomputable section
namespace Go.D
open Go Go.Xe Go.Sx
section
variable {l :Ah}{c:Nat}{k a:Int}{O:Sx.Rows}
end
section
variable {l :List Att}{k:Int}{n v:Str}{O:Sx.Rows}{p:Bool}
end
open Go Go.Xe Go.Sx
section
variable {D :DM}{L F L' F':Sx.Rows}{i g x y:Int}{K c p k:Nat}{cs cs':Ak}{s:Sl}{q q':Nod->Nod}{c0 c1 c2 c3 c4 c5 c6 c7:Int}
def Sl.r0 (s:Sl):s.row.getD 0 (.int 0)= .int s.g:=by unfold Sl.row;split<;>rfl
theorem Sl.r1 (s:Sl):s.row.getD 1 (.int 0)= .bool s.used:=by unfold Sl.row;split<;>simp_all
def Rf.vld (h:Rf D L F cs):K0 L i g=true↔ ∃c,D.at i g=some c:=by
 obtain⟨rfl,_,_⟩:=h;unfold K0 DM.at;by_cases h0:0<=i
 ·rw[TJ h0];cases hs:D.L[i.toNat]? with
  |none=>have:=List.getElem?_eq_none_iff.1 hs;simp;omega|some s=>
   have hi:i<(D.L.length:Int):=by have:=(Tn.1 hs).1;omega
   rw[i9 hs,i9 hs,s.r0,s.r1];simp[h0,hi,Dat.toBool,Dat.toInt];exact fun _=>decide_eq_true_iff
 simp[h0]
def Rf.len (h:Rf D L F cs)(w:WF D K):L.length<=1000:=by rw[h.1,TG];have:=w.lim;omega
def Rf.cells (h:Rf D L F cs)(hs:D.L[c]? =some s)(a:s.used=true):(c:Int)<ln L/\cI L c 2=s.n.kind/\cL L c 4=s.n.atts.map Att.row/\cI L c 9=s.n.par/\cL L c 10=s.n.ch.map rowI:=by
 obtain⟨rfl,_,_⟩:=h;have hc:D.L[((c:Nat):Int).toNat]? =some s:=by rw[Uc];exact hs
 have:=(Tn.1 hs).1;simp only[cI,cL,i9 hc,ln,TG];unfold Sl.row;rw[TJ a];exact⟨by omega,rfl,rfl,rfl,rfl⟩
def Rf.spot (h:Rf D L F cs)(hv:K0 L i g=true):∃(c:Nat) (s:Sl),D.at i g=some c/\i=c/\D.L[c]? =some s/\s.used=true/\D.nod c=s.n/\0<=i/\i<ln L/\cI L i 2=s.n.kind/\cL L i 4=s.n.atts.map Att.row/\cI L i 9=s.n.par/\cL L i 10=s.n.ch.map rowI:=by obtain⟨c,hc⟩:=h.vld.1 hv;obtain⟨s,h1,h2,rfl,_⟩:=Vm hc;obtain⟨k1,k2,k3,k4,a⟩:=h.cells h1 h2;exact⟨c,s,hc,rfl,h1,h2,Vp h1,by omega,k1,k2,k3,k4,a⟩
def Rf.none (h:Rf D L F cs)(hv:¬K0 L i g=true):D.at i g=none:=by
 cases e:D.at i g with
 |none=>rfl|some k=>exact absurd (h.vld.2 ⟨k,e⟩) hv
end
section
variable {D :DM}{L F L' F':Sx.Rows}{i g x y:Int}{K a c d p k:Nat}{cs cs':Ak}{s:Sl}{c0 c1 c2 c3 c4 c5 c6 c7:Int}
def Rf.opt (h:Rf D L F cs)(w:WF D K):(K0 L x y=true->D.opt x y=some x)/\(x=0->y=0->D.opt x y=some (-1))/\(¬K0 L x y=true-> ¬(x=0/\y=0)->D.opt x y=Option.none):=by unfold DM.opt;refine⟨fun hv=>?_,fun e1 e2=>by rw[TJ ⟨e1,e2⟩],fun hv hn=>by rw[TH hn,h.none hv]⟩;obtain⟨c,s,h1,h2,_⟩:=h.spot hv;have:=(w.u32 h1).2.2;rw[TH (by omega),h1,h2]
end
section
variable {D :DM}{L F L' F':Sx.Rows}{i g k:Int}{K c:Nat}{cs cs':Ak}{c0 c1 c2 c3 c4 c5 c6 c7:Int}{t x s:Str}
end
section
variable {l t d:List Att}{e:Ed}{a:Att}{n v:Str}
end
section
variable {D :DM}{L F:Sx.Rows}{i g:Int}{K:Nat}{cs:Ak}
end
open Go Go.Xe Go.Sx
def vcEqu (n:Nat):Prop:=
 ∀h i j d k b l m o f p c,(AQ [.int h,.str i,.str j,.lst d,.str k,.lst b,.int l,.str m,.str o,.lst f,.str p,.lst c]/\CY [.int h,.str i,.str j,.lst d,.str k,.lst b,.int l,.str m,.str o,.lst f,.str p,.lst c]<n+1)->((h=l->((i=m->((j=o->((k=p->((ln d=ln f->((ln b=ln c->Nd (CW [.lst d,.lst f] [.int 0]) (∀g,CW [.lst d,.lst f] [.int g]->((g<ln d->Nd (¬g<0) (Nd (g<ln d)<|Nd (¬g<0)<|Nd (g<ln f)<|(cS d g 0=cS f g 0->((cS d g 1=cS f g 1->Nd (I64 (g+1)) (Nd (CW [.lst d,.lst f] [.int (g+1)])<|Nd (eaMu [.lst d,.lst f] [.int (g+1)]<eaMu [.lst d,.lst f] [.int g]) True))/\(¬cS d g 1=cS f g 1->Nd (T4 [.int h,.str i,.str j,.lst d,.str k,.lst b,.int l,.str m,.str o,.lst f,.str p,.lst c] [.int 0]) True)))/\(¬cS d g 0=cS f g 0->Nd (T4 [.int h,.str i,.str j,.lst d,.str k,.lst b,.int l,.str m,.str o,.lst f,.str p,.lst c] [.int 0]) True)))/\(¬g<ln d->Nd (HL [.lst b,.lst c] [.int 0]) (∀a,HL [.lst b,.lst c] [.int a]->((a<ln b->Nd (¬a<0) (Nd (a<ln b)<|Nd (¬a<0)<|Nd (a<ln c)<|Nd (AQ [.int (cI b a 0),.str (cS b a 1),.str (cS b a 2),.lst (cL b a 3),.str (cS b a 4),.lst (cL b a 5),.int (cI c a 0),.str (cS c a 1),.str (cS c a 2),.lst (cL c a 3),.str (cS c a 4),.lst (cL c a 5)]/\CY [.int (cI b a 0),.str (cS b a 1),.str (cS b a 2),.lst (cL b a 3),.str (cS b a 4),.lst (cL b a 5),.int (cI c a 0),.str (cS c a 1),.str (cS c a 2),.lst (cL c a 3),.str (cS c a 4),.lst (cL c a 5)]<n)<|
 ∀q,T4 [.int (cI b a 0),.str (cS b a 1),.str (cS b a 2),.lst (cL b a 3),.str (cS b a 4),.lst (cL b a 5),.int (cI c a 0),.str (cS c a 1),.str (cS c a 2),.lst (cL c a 3),.str (cS c a 4),.lst (cL c a 5)] [.int q]->((q=0->Nd (T4 [.int h,.str i,.str j,.lst d,.str k,.lst b,.int l,.str m,.str o,.lst f,.str p,.lst c] [.int 0]) True)/\(¬q=0->Nd (I64 (a+1)) (Nd (HL [.lst b,.lst c] [.int (a+1)])<|Nd (ecMu [.lst b,.lst c] [.int (a+1)]<ecMu [.lst b,.lst c] [.int a]) True)))))/\(¬a<ln b->Nd (T4 [.int h,.str i,.str j,.lst d,.str k,.lst b,.int l,.str m,.str o,.lst f,.str p,.lst c] [.int 1]) True)))))))/\(¬ln b=ln c->Nd (T4 [.int h,.str i,.str j,.lst d,.str k,.lst b,.int l,.str m,.str o,.lst f,.str p,.lst c] [.int 0]) True)))/\(¬ln d=ln f->Nd (T4 [.int h,.str i,.str j,.lst d,.str k,.lst b,.int l,.str m,.str o,.lst f,.str p,.lst c] [.int 0]) True)))/\(¬k=p->Nd (T4 [.int h,.str i,.str j,.lst d,.str k,.lst b,.int l,.str m,.str o,.lst f,.str p,.lst c] [.int 0]) True)))/\(¬j=o->Nd (T4 [.int h,.str i,.str j,.lst d,.str k,.lst b,.int l,.str m,.str o,.lst f,.str p,.lst c] [.int 0]) True)))/\(¬i=m->Nd (T4 [.int h,.str i,.str j,.lst d,.str k,.lst b,.int l,.str m,.str o,.lst f,.str p,.lst c] [.int 0]) True)))/\(¬h=l->Nd (T4 [.int h,.str i,.str j,.lst d,.str k,.lst b,.int l,.str m,.str o,.lst f,.str p,.lst c] [.int 0]) True))
def vcEqu_eq (n:Nat):kq Go.Proofs.Tryz.prog (cEqu.below CY (n+1)) Hz ((55,cEqu.below CY n)::Ha 0) (Nh 0) 55=vcEqu n:=by kernel_rfl
def vcSam :Prop:=
 ∀a b c d f g h i j k l m,BB [.int a,.str b,.str c,.lst d,.str f,.lst g,.int h,.str i,.str j,.lst k,.str l,.lst m]->Nd (nR [.int a,.str b,.str c,.lst d,.str f,.lst g]) (∀o,bM [.int a,.str b,.str c,.lst d,.str f,.lst g] [.int o]->((o=0->Nd (nR [.int h,.str i,.str j,.lst k,.str l,.lst m]) (∀p,bM [.int h,.str i,.str j,.lst k,.str l,.lst m] [.int p]->((p=0->Nd (AQ [.int a,.str b,.str c,.lst d,.str f,.lst g,.int h,.str i,.str j,.lst k,.str l,.lst m]) (∀q,T4 [.int a,.str b,.str c,.lst d,.str f,.lst g,.int h,.str i,.str j,.lst k,.str l,.lst m] [.int q]->Nd (lU [.int a,.str b,.str c,.lst d,.str f,.lst g,.int h,.str i,.str j,.lst k,.str l,.lst m] [.int q]) True))/\(¬p=0->Nd (lU [.int a,.str b,.str c,.lst d,.str f,.lst g,.int h,.str i,.str j,.lst k,.str l,.lst m] [.int 0]) True))))/\(¬o=0->Nd (lU [.int a,.str b,.str c,.lst d,.str f,.lst g,.int h,.str i,.str j,.lst k,.str l,.lst m] [.int 0]) True)))
def vcSam_eq :kq Go.Proofs.Tryz.prog cSam Hz (Ha 1) (Nh 1) 15=vcSam:=by kernel_rfl
open Go Go.Xe Go.Sx
theorem OP {a b:Att}(h1:a.n=b.n)(h2:a.v=b.v):a=b:=by cases a;cases b;simp_all
def rK {α:Type}{f:α->Ar}(hf:∀a b,f a=f b->a=b){l m:List α}{k:Nat}(h:(l.map f).take k=(m.map f).take k):l.take k=m.take k:=by rw[<-List.map_take,<-List.map_take]at h;exact uB hf h
theorem vcEqu_ok (N:Nat):vcEqu N:=by
 rintro _ _ _ _ _ _ _ _ _ _ _ _ ⟨⟨⟨s,⟨rfl,rfl,rfl,rfl,rfl,rfl⟩,F⟩,s',⟨rfl,rfl,rfl,rfl,rfl,rfl⟩,G⟩,o⟩;have o:szRs (rows s.c)<N+1:=o;have A:=(B9 s).1 F;have B:=(B9 s').1 G;obtain⟨C,K⟩:=bB B.1;have no:s≠s'->T4 [.int s.k,.str s.t,.str s.y,.lst (s.a.map Att.row),.str s.x,.lst (rows s.c),.int s'.k,.str s'.t,.str s'.y,.lst (s'.a.map Att.row),.str s'.x,.lst (rows s'.c)] [.int 0]:=fun h a b l hb=>by rw[u9]at l hb;subst l;subst hb;exact(by grind)
 have w:ln (s.a.map Att.row)=(s.a.length:Int):=by simp[ln]
 have z:ln (s'.a.map Att.row)=(s'.a.length:Int):=by simp[ln]
 have q:ln (rows s.c)=(s.c.length:Int):=by simp[ln]
 have r:ln (rows s'.c)=(s'.c.length:Int):=by simp[ln]
 have n:∀a b:Att,a.row=b.row->a=b:=fun a b h=>by have:=bZ (a:=[a]) (b:=[b]) (by grind);simpa using this
 simp only[Nd,I64,w,z,q,r,UG,Ux];refine⟨fun hk=>⟨fun ht=>⟨fun hy=>⟨fun hx=>⟨fun l=>⟨fun hc=>⟨⟨by omega,by simp[ln],by omega,by simp⟩,fun _ i ⟨i0,L,M,u⟩=>⟨fun hi=>?_,fun hi=>?_⟩⟩,fun h=>no fun e=>h (by grind)⟩,fun h=>no fun e=>h (by grind)⟩,fun h=>no fun e=>h (by grind)⟩,fun h=>no fun e=>h (by grind)⟩,fun h=>no fun e=>h (by grind)⟩,fun h=>no fun e=>h (by grind)⟩;obtain⟨a,f⟩:=Sx.get_at i0 hi;obtain⟨b,g⟩:=Sx.get_at i0 (show i<(s'.a.length:Int) by omega);have ne:a≠b->s≠s':=fun h e=>h (by have d:=f;rw[e]at d;rw[g]at d;exact(TN d).symm);simp only[cS,i9 f,i9 g,at0,at1,A6];refine⟨by omega,fun _=>⟨hi,fun _=>⟨by omega,fun _=>⟨by omega,fun _=>⟨fun h1=>⟨fun h2=>⟨⟨by omega,by omega⟩,fun _=>⟨⟨by omega,by omega,by rw[w,z];exact l,?_⟩,fun _=>?_⟩⟩,fun h2=>no (ne fun e=>h2 (by grind))⟩,fun h1=>no (ne fun e=>h1 (by grind))⟩⟩⟩⟩⟩;rw[v7 i0 (J5 f),v7 i0 (J5 g),u,OP h1 h2];show(((s.a.map Att.row).length:Int)-(i+1)).toNat<(((s.a.map Att.row).length:Int)-i).toNat;rw[TG];omega
 ·have D:s.a=s'.a:=by have:=rK n u;rwa[B0 (by omega),B0 (by omega)]at this
  refine⟨⟨by omega,by simp[ln],by rw[q,r];exact hc,by simp⟩,fun _ j ⟨p,O,P,v⟩=>⟨fun hj=>?_,fun hj=>?_⟩⟩;obtain⟨a,f⟩:=Sx.get_at p hj;obtain⟨b,g⟩:=Sx.get_at p (show j<(s'.c.length:Int) by omega);have ne:a≠b->s≠s':=fun h e=>h (by have d:=f;rw[e]at d;rw[g]at d;exact(TN d).symm);have H:=dP f;simp only[cI,cS,cL,G5 f,G5 g,t0,t1,t2,t3,t4,t5,V8,A6,T8];refine⟨by omega,fun _=>⟨hj,fun _=>⟨by omega,fun _=>⟨by omega,fun _=>⟨⟨⟨⟨a,⟨rfl,rfl,rfl,rfl,rfl,rfl⟩,Q9 A.2 f⟩,b,⟨rfl,rfl,rfl,rfl,rfl,rfl⟩,Q9 B.2 g⟩,by show szRs (rows a.c)<N;omega⟩,fun _ m hm=>?_⟩⟩⟩⟩⟩;obtain⟨I,J⟩:=hm a b ⟨rfl,rfl,rfl,rfl,rfl,rfl⟩ ⟨rfl,rfl,rfl,rfl,rfl,rfl⟩;refine⟨fun h0=>no (ne fun e=>by have:=I e;omega),fun h0=>⟨⟨by omega,by omega⟩,fun _=>⟨⟨by omega,by omega,by rw[q,r];exact hc,?_⟩,fun _=>?_⟩⟩⟩;have e:a=b:=Classical.byContradiction fun c=>h0 (J c);rw[v7 p (J5 f),v7 p (J5 g),e];exact congrArg (· ++_) v;show(((rows s.c).length:Int)-(j+1)).toNat<(((rows s.c).length:Int)-j).toNat;rw[TG];omega
  ·have E:s.c=s'.c:=by have:=rK (fun a b=>sG) v;rwa[B0 (by omega),B0 (by omega)]at this
   have e:=vZ hk ht hy D hx E;intro a b l hb;rw[u9]at l hb;subst l;subst hb;exact⟨fun _=>rfl,fun c=>absurd e c⟩
theorem vcSam_ok :vcSam:=by
 rintro _ _ _ _ _ _ _ _ _ _ _ _ ⟨⟨s,rfl,rfl,rfl,rfl,rfl,rfl⟩,s',rfl,rfl,rfl,rfl,rfl,rfl⟩;have R:∀n:Int,((w9 s/\s=s'->n=1)/\(¬(w9 s/\s=s')->n=0))->lU [.int s.k,.str s.t,.str s.y,.lst (s.a.map Att.row),.str s.x,.lst (rows s.c),.int s'.k,.str s'.t,.str s'.y,.lst (s'.a.map Att.row),.str s'.x,.lst (rows s'.c)] [.int n]:=fun n h a b f hb=>by rw[u9]at f hb;grind
 refine⟨⟨s,rfl,rfl,rfl,rfl,rfl,rfl⟩,fun _ e he=>⟨fun h0=>⟨⟨s',rfl,rfl,rfl,rfl,rfl,rfl⟩,fun _ e2 d=>⟨fun h2=>?_,fun h2=>⟨R _ ⟨?_,fun _=>rfl⟩,fun _=>trivial⟩⟩⟩,fun h0=>⟨R _ ⟨?_,fun _=>rfl⟩,fun _=>trivial⟩⟩⟩;have v:=(he s ⟨rfl,rfl,rfl,rfl,rfl,rfl⟩).1.1 h0;have v':=(d s' ⟨rfl,rfl,rfl,rfl,rfl,rfl⟩).1.1 h2;refine⟨⟨⟨s,⟨rfl,rfl,rfl,rfl,rfl,rfl⟩,v.1⟩,s',⟨rfl,rfl,rfl,rfl,rfl,rfl⟩,v'.1⟩,fun _ n hn=>⟨R n ?_,fun _=>trivial⟩⟩;obtain⟨g,i⟩:=hn s s' ⟨rfl,rfl,rfl,rfl,rfl,rfl⟩ ⟨rfl,rfl,rfl,rfl,rfl,rfl⟩;grind;exact fun h=>absurd ((d s' ⟨rfl,rfl,rfl,rfl,rfl,rfl⟩).1.2 (h.2▸h.1)) h2;exact fun h=>absurd ((he s ⟨rfl,rfl,rfl,rfl,rfl,rfl⟩).1.2 h.1) h0
section
variable {D :DM}{L F:Sx.Rows}{K c b:Nat}{s:Sl}
end
section
variable {L F L' F' H S N S' N':Sx.Rows}{fr lv fr' lv' e e' i g r i' g' r' k:Int}{bs bs' cs cs':Ak}{K:Nat}{t x:Str}
def BI.op (h:∃K,K+1<=1000/\BI K L F bs H S fr lv cs N):DO S N fr lv cs/\rfPre L F bs/\HOK H/\H.length<=1000:=by obtain⟨K,a,D,h1,h2,h3,h4,h5⟩:=h;exact⟨⟨D,K,h2,h3⟩,⟨D,K,h1,h3⟩,h4,by omega⟩
end
section
variable {D :DM}{L F S N:Sx.Rows}{fr lv:Int}{bs cs:Ak}{K c:Nat}{s:Sl}{T:List RS}{M:List RN}
mutual
def Hc :∀s:a9,strip true s=s
 | .mk k t y a x c=>by unfold strip;rw[strips_true c];rfl
def strips_true :∀l:List a9,strips true l=l
 | []=>rfl|s::l=>by unfold strips;rw[Hc s,strips_true l]
end
