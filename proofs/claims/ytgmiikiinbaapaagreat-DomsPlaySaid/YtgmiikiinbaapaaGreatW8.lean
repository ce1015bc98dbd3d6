/- The conditions of contracts, as the engine's printer has written them, and that the kernel comes to the same.
  Conditions: none. -/
import Derived.Test.YtgmiikiinbaapaaGreatJ1
import Derived.Test.YtgmiikiinbaapaaGreatRows
import Derived.KernelRfl
import Derived.Test.YtgmiikiinbaapaaGreatA5
set_option linter.all false
set_option maxRecDepth 100000
namespace Go.D
open Go Go.Xe Go.Sx
def vcEqu (n:Nat):Prop:=
 ∀h i j d k b l m o f p c,(yW [.int h,.str i,.str j,.lst d,.str k,.lst b,.int l,.str m,.str o,.lst f,.str p,.lst c]/\Cc [.int h,.str i,.str j,.lst d,.str k,.lst b,.int l,.str m,.str o,.lst f,.str p,.lst c]<n+1)->((h=l->((i=m->((j=o->((k=p->((ln d=ln f->((ln b=ln c->Nd (Cb [.lst d,.lst f] [.int 0]) (∀g,Cb [.lst d,.lst f] [.int g]->((g<ln d->Nd (¬g<0) (Nd (g<ln d)<|Nd (¬g<0)<|Nd (g<ln f)<|(cS d g 0=cS f g 0->((cS d g 1=cS f g 1->Nd (I64 (g+1)) (Nd (Cb [.lst d,.lst f] [.int (g+1)])<|Nd (eaMu [.lst d,.lst f] [.int (g+1)]<eaMu [.lst d,.lst f] [.int g]) True))/\(¬cS d g 1=cS f g 1->Nd (O8 [.int h,.str i,.str j,.lst d,.str k,.lst b,.int l,.str m,.str o,.lst f,.str p,.lst c] [.int 0]) True)))/\(¬cS d g 0=cS f g 0->Nd (O8 [.int h,.str i,.str j,.lst d,.str k,.lst b,.int l,.str m,.str o,.lst f,.str p,.lst c] [.int 0]) True)))/\(¬g<ln d->Nd (Gu [.lst b,.lst c] [.int 0]) (∀a,Gu [.lst b,.lst c] [.int a]->((a<ln b->Nd (¬a<0) (Nd (a<ln b)<|Nd (¬a<0)<|Nd (a<ln c)<|Nd (yW [.int (cI b a 0),.str (cS b a 1),.str (cS b a 2),.lst (cL b a 3),.str (cS b a 4),.lst (cL b a 5),.int (cI c a 0),.str (cS c a 1),.str (cS c a 2),.lst (cL c a 3),.str (cS c a 4),.lst (cL c a 5)]/\Cc [.int (cI b a 0),.str (cS b a 1),.str (cS b a 2),.lst (cL b a 3),.str (cS b a 4),.lst (cL b a 5),.int (cI c a 0),.str (cS c a 1),.str (cS c a 2),.lst (cL c a 3),.str (cS c a 4),.lst (cL c a 5)]<n)<|
 ∀q,O8 [.int (cI b a 0),.str (cS b a 1),.str (cS b a 2),.lst (cL b a 3),.str (cS b a 4),.lst (cL b a 5),.int (cI c a 0),.str (cS c a 1),.str (cS c a 2),.lst (cL c a 3),.str (cS c a 4),.lst (cL c a 5)] [.int q]->((q=0->Nd (O8 [.int h,.str i,.str j,.lst d,.str k,.lst b,.int l,.str m,.str o,.lst f,.str p,.lst c] [.int 0]) True)/\(¬q=0->Nd (I64 (a+1)) (Nd (Gu [.lst b,.lst c] [.int (a+1)])<|Nd (ecMu [.lst b,.lst c] [.int (a+1)]<ecMu [.lst b,.lst c] [.int a]) True)))))/\(¬a<ln b->Nd (O8 [.int h,.str i,.str j,.lst d,.str k,.lst b,.int l,.str m,.str o,.lst f,.str p,.lst c] [.int 1]) True)))))))/\(¬ln b=ln c->Nd (O8 [.int h,.str i,.str j,.lst d,.str k,.lst b,.int l,.str m,.str o,.lst f,.str p,.lst c] [.int 0]) True)))/\(¬ln d=ln f->Nd (O8 [.int h,.str i,.str j,.lst d,.str k,.lst b,.int l,.str m,.str o,.lst f,.str p,.lst c] [.int 0]) True)))/\(¬k=p->Nd (O8 [.int h,.str i,.str j,.lst d,.str k,.lst b,.int l,.str m,.str o,.lst f,.str p,.lst c] [.int 0]) True)))/\(¬j=o->Nd (O8 [.int h,.str i,.str j,.lst d,.str k,.lst b,.int l,.str m,.str o,.lst f,.str p,.lst c] [.int 0]) True)))/\(¬i=m->Nd (O8 [.int h,.str i,.str j,.lst d,.str k,.lst b,.int l,.str m,.str o,.lst f,.str p,.lst c] [.int 0]) True)))/\(¬h=l->Nd (O8 [.int h,.str i,.str j,.lst d,.str k,.lst b,.int l,.str m,.str o,.lst f,.str p,.lst c] [.int 0]) True))
def vcEqu_eq (n:Nat):kq Go.Proofs.Tryz.prog (cEqu.below Cc (n+1)) Gi ((138,cEqu.below Cc n)::FF 0) (Kn 0) 138=vcEqu n:=by kernel_rfl
def vcSam :Prop:=
 ∀a b c d f g h i j k l m,tO [.int a,.str b,.str c,.lst d,.str f,.lst g,.int h,.str i,.str j,.lst k,.str l,.lst m]->Nd (cD [.int a,.str b,.str c,.lst d,.str f,.lst g]) (∀o,R7 [.int a,.str b,.str c,.lst d,.str f,.lst g] [.int o]->((o=0->Nd (cD [.int h,.str i,.str j,.lst k,.str l,.lst m]) (∀p,R7 [.int h,.str i,.str j,.lst k,.str l,.lst m] [.int p]->((p=0->Nd (yW [.int a,.str b,.str c,.lst d,.str f,.lst g,.int h,.str i,.str j,.lst k,.str l,.lst m]) (∀q,O8 [.int a,.str b,.str c,.lst d,.str f,.lst g,.int h,.str i,.str j,.lst k,.str l,.lst m] [.int q]->Nd (fA [.int a,.str b,.str c,.lst d,.str f,.lst g,.int h,.str i,.str j,.lst k,.str l,.lst m] [.int q]) True))/\(¬p=0->Nd (fA [.int a,.str b,.str c,.lst d,.str f,.lst g,.int h,.str i,.str j,.lst k,.str l,.lst m] [.int 0]) True))))/\(¬o=0->Nd (fA [.int a,.str b,.str c,.lst d,.str f,.lst g,.int h,.str i,.str j,.lst k,.str l,.lst m] [.int 0]) True)))
def vcSam_eq :kq Go.Proofs.Tryz.prog cSam Gi (FF 1) (Kn 1) 81=vcSam:=by kernel_rfl
open Go Go.Xe Go.Sx
theorem Gm {a b:Att}(h1:a.n=b.n)(h2:a.v=b.v):a=b:=by cases a;cases b;simp_all
def pE {α:Type}{f:α->Ar}(hf:∀a b,f a=f b->a=b){l m:List α}{k:Nat}(h:(l.map f).take k=(m.map f).take k):l.take k=m.take k:=by rw[<-List.map_take,<-List.map_take]at h;exact sD hf h
theorem vcEqu_ok (N:Nat):vcEqu N:=by
 rintro _ _ _ _ _ _ _ _ _ _ _ _ ⟨⟨⟨s,⟨rfl,rfl,rfl,rfl,rfl,rfl⟩,G⟩,s',⟨rfl,rfl,rfl,rfl,rfl,rfl⟩,H⟩,o⟩;have o:szRs (rows s.c)<N+1:=o;have A:=(J3 s).1 G;have B:=(J3 s').1 H;obtain⟨D,L⟩:=kC B.1;have no:s≠s'->O8 [.int s.k,.str s.t,.str s.y,.lst (s.a.map Att.row),.str s.x,.lst (rows s.c),.int s'.k,.str s'.t,.str s'.y,.lst (s'.a.map Att.row),.str s'.x,.lst (rows s'.c)] [.int 0]:=fun h a b l hb=>by rw[G7]at l hb;subst l;subst hb;exact(by grind)
 have z:ln (s.a.map Att.row)=(s.a.length:Int):=by simp[ln]
 have C:ln (s'.a.map Att.row)=(s'.a.length:Int):=by simp[ln]
 have r:ln (rows s.c)=(s.c.length:Int):=by simp[ln]
 have u:ln (rows s'.c)=(s'.c.length:Int):=by simp[ln]
 have n:∀a b:Att,a.row=b.row->a=b:=fun a b h=>by have:=Q6 (a:=[a]) (b:=[b]) (by grind);simpa using this
 simp only[Nd,I64,z,C,r,u,Qc,PP];refine⟨fun hk=>⟨fun ht=>⟨fun hy=>⟨fun hx=>⟨fun l=>⟨fun hc=>⟨⟨by omega,by simp[ln],by omega,by simp⟩,fun _ i ⟨i0,M,O,v⟩=>⟨fun hi=>?_,fun hi=>?_⟩⟩,fun h=>no fun e=>h (by grind)⟩,fun h=>no fun e=>h (by grind)⟩,fun h=>no fun e=>h (by grind)⟩,fun h=>no fun e=>h (by grind)⟩,fun h=>no fun e=>h (by grind)⟩,fun h=>no fun e=>h (by grind)⟩
 ·obtain⟨a,f⟩:=Sx.get_at i0 hi;obtain⟨b,g⟩:=Sx.get_at i0 (show i<(s'.a.length:Int) by omega);have q:a≠b->s≠s':=fun h e=>h (by have d:=f;rw[e]at d;rw[g]at d;exact(Pc d).symm);simp only[cS,i4 f,i4 g,at0,at1,C2];refine⟨by omega,fun _=>⟨hi,fun _=>⟨by omega,fun _=>⟨by omega,fun _=>⟨fun h1=>⟨fun h2=>⟨⟨by omega,by omega⟩,fun _=>⟨⟨by omega,by omega,by rw[z,C];exact l,?_⟩,fun _=>?_⟩⟩,fun h2=>no (q fun e=>h2 (by grind))⟩,fun h1=>no (q fun e=>h1 (by grind))⟩⟩⟩⟩⟩
  ·rw[m9 i0 (G2 f),m9 i0 (G2 g),v,Gm h1 h2]
  ·show(((s.a.map Att.row).length:Int)-(i+1)).toNat<(((s.a.map Att.row).length:Int)-i).toNat;rw[OV];omega
 ·have E:s.a=s'.a:=by have:=pE n v;rwa[A4 (by omega),A4 (by omega)]at this
  refine⟨⟨by omega,by simp[ln],by rw[r,u];exact hc,by simp⟩,fun _ j ⟨p,P,Q,w⟩=>⟨fun hj=>?_,fun hj=>?_⟩⟩
  ·obtain⟨a,f⟩:=Sx.get_at p hj;obtain⟨b,g⟩:=Sx.get_at p (show j<(s'.c.length:Int) by omega);have q:a≠b->s≠s':=fun h e=>h (by have d:=f;rw[e]at d;rw[g]at d;exact(Pc d).symm);have I:=uI f;simp only[cI,cS,cL,N6 f,N6 g,t0,t1,t2,t3,t4,t5,gJ,C2,aY];refine⟨by omega,fun _=>⟨hj,fun _=>⟨by omega,fun _=>⟨by omega,fun _=>⟨⟨⟨⟨a,⟨rfl,rfl,rfl,rfl,rfl,rfl⟩,fO A.2 f⟩,b,⟨rfl,rfl,rfl,rfl,rfl,rfl⟩,fO B.2 g⟩,by show szRs (rows a.c)<N;omega⟩,fun _ m hm=>?_⟩⟩⟩⟩⟩;obtain⟨J,K⟩:=hm a b ⟨rfl,rfl,rfl,rfl,rfl,rfl⟩ ⟨rfl,rfl,rfl,rfl,rfl,rfl⟩;refine⟨fun h0=>no (q fun e=>by have:=J e;omega),fun h0=>⟨⟨by omega,by omega⟩,fun _=>⟨⟨by omega,by omega,by rw[r,u];exact hc,?_⟩,fun _=>?_⟩⟩⟩
   ·have e:a=b:=Classical.byContradiction fun c=>h0 (K c);rw[m9 p (G2 f),m9 p (G2 g),e];exact congrArg (· ++_) w
   ·show(((rows s.c).length:Int)-(j+1)).toNat<(((rows s.c).length:Int)-j).toNat;rw[OV];omega
  ·have F:s.c=s'.c:=by have:=pE (fun a b=>qJ) w;rwa[A4 (by omega),A4 (by omega)]at this
   have e:=Dm hk ht hy E hx F;intro a b l hb;rw[G7]at l hb;subst l;subst hb;exact⟨fun _=>rfl,fun c=>absurd e c⟩
theorem vcSam_ok :vcSam:=by
 rintro _ _ _ _ _ _ _ _ _ _ _ _ ⟨⟨s,rfl,rfl,rfl,rfl,rfl,rfl⟩,s',rfl,rfl,rfl,rfl,rfl,rfl⟩;have R:∀n:Int,((V5 s/\s=s'->n=1)/\(¬(V5 s/\s=s')->n=0))->fA [.int s.k,.str s.t,.str s.y,.lst (s.a.map Att.row),.str s.x,.lst (rows s.c),.int s'.k,.str s'.t,.str s'.y,.lst (s'.a.map Att.row),.str s'.x,.lst (rows s'.c)] [.int n]:=fun n h a b f hb=>by rw[G7]at f hb;grind
 refine⟨⟨s,rfl,rfl,rfl,rfl,rfl,rfl⟩,fun _ e he=>⟨fun h0=>⟨⟨s',rfl,rfl,rfl,rfl,rfl,rfl⟩,fun _ i d=>⟨fun h2=>?_,fun h2=>⟨R _ ⟨?_,fun _=>rfl⟩,fun _=>trivial⟩⟩⟩,fun h0=>⟨R _ ⟨?_,fun _=>rfl⟩,fun _=>trivial⟩⟩⟩
 ·have v:=(he s ⟨rfl,rfl,rfl,rfl,rfl,rfl⟩).1.1 h0;have g:=(d s' ⟨rfl,rfl,rfl,rfl,rfl,rfl⟩).1.1 h2;refine⟨⟨⟨s,⟨rfl,rfl,rfl,rfl,rfl,rfl⟩,v.1⟩,s',⟨rfl,rfl,rfl,rfl,rfl,rfl⟩,g.1⟩,fun _ n hn=>⟨R n ?_,fun _=>trivial⟩⟩;obtain⟨j,l⟩:=hn s s' ⟨rfl,rfl,rfl,rfl,rfl,rfl⟩ ⟨rfl,rfl,rfl,rfl,rfl,rfl⟩;grind
 ·exact fun h=>absurd ((d s' ⟨rfl,rfl,rfl,rfl,rfl,rfl⟩).1.2 (h.2▸h.1)) h2
 ·exact fun h=>absurd ((he s ⟨rfl,rfl,rfl,rfl,rfl,rfl⟩).1.2 h.1) h0
end Go.D
