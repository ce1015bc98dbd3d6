/- DiffsApply: the conditions of the reference's Apply, and of the law, hold.
  Conditions: none. -/
import Derived.Test.YtcjhhnoaoldcmaaGreatT7
import Derived.Test.YtcjhhnoaoldcmaaGreatA5
import Derived.Test.YtcjhhnoaoldcmaaGreatW8
set_option linter.all false
namespace Go.D
open Go Go.Xe Go.Sx
open Go.C36 (row)
def iE (s:Stp):s.row=[.int s.w,.lst (s.p.map row),.str s.n,.str s.v,.int s.i,.int s.o,.int s.t.k,.str s.t.t,.str s.t.y,.lst (s.t.a.map Att.row),.str s.t.x,.lst (rows s.t.c)]:=by unfold Stp.row;rw[H9];rfl
variable {l:List Stp}
def vj {i:Int}{s:Stp}(h:l[i.toNat]? =some s):isS s (cI (l.map Stp.row) i 0) (cL (l.map Stp.row) i 1) (cS (l.map Stp.row) i 2) (cS (l.map Stp.row) i 3) (cI (l.map Stp.row) i 4) (cI (l.map Stp.row) i 5) (cI (l.map Stp.row) i 6) (cS (l.map Stp.row) i 7) (cS (l.map Stp.row) i 8) (cL (l.map Stp.row) i 9) (cS (l.map Stp.row) i 10) (cL (l.map Stp.row) i 11):=by simp only[cI,cS,cL,B4 h,iE];exact⟨rfl,rfl,rfl,rfl,rfl,rfl,rfl,rfl,rfl,rfl,rfl,rfl⟩
def HA {s s':Stp}(h:s.row=s'.row):s=s':=by rw[iE,iE]at h;simp at h;obtain⟨h1,h2,h3,h4,h5,c,h7,d,e,a,b,h12⟩:=h;exact rc ⟨rfl,rfl,rfl,rfl,rfl,rfl,rfl,rfl,rfl,rfl,rfl,rfl⟩ ⟨h1,h2,h3,h4,h5,c,h7,d,e,a,b,h12⟩
def nK {m:List Stp}(h:l.map Stp.row=m.map Stp.row):l=m:=Sx.map_inj_of (fun a b e=>HA e) h
def mD {s s':a8}{k:Int}{t y:Str}{a:Sx.Rows}{x:Str}{c:Sx.Rows}(h:isT s k t y a x c)(h':isT s' k t y a x c):s'=s:=by obtain⟨rfl,rfl,rfl,rfl,rfl,rfl⟩:=h;rwa[E3]at h'
theorem nI :∀ {l:List Stp} {K:Nat} {n r:a8},16<=K->M5 K n->y8 n l= .ok r->M5 (K+l.length) r
 | [],K,n,r,_,h,e=>by cases e;exact h
 |s::l,K,n,r,a,h,e=>by
  unfold y8 at e;split at e
  ·rename_i n' hn;have:=nI (by omega) (mh a h hn) e;grind
  ·cases e
variable {m:a8}
def oZ {r:a8}(h:y8 m l= .ok r)(a:z7 r):H5 m l= .ok r:=by unfold H5;rw[h];exact Ki a
def lZ {r:a8}(h:y8 m l= .ok r)(a:¬z7 r):H5 m l= .error 14:=by unfold H5;rw[h];exact Kg a
def wv {e:Int}(h:y8 m l= .error e):H5 m l= .error e:=by unfold H5;rw[h]
def vi :∀ {l:List Stp} {n:a8} {e:Int},y8 n l= .error e->e≠0
 | [],n,e,h=>by cases h
 |s::l,n,e,h=>by
  unfold y8 at h;split at h
  ·exact vi h
  ·rename_i he;cases h;exact jb he
theorem vcRap_ok :vcRap:=by
 rintro k t y a x c _ ⟨⟨m,hm,B⟩,l,rfl,hl,o⟩;have F:ln (l.map Stp.row)=(l.length:Int):=by grind
 have z:Sts (l.map Stp.row) l:=⟨rfl,hl,o⟩
 have v:∀ {l':List Stp},Sts (l.map Stp.row) l'->l'=l:=fun h=>(nK h.1).symm;have u:∀ {j:a8},isT j k t y a x c->j=m:=fun h=>mD hm h;simp only[Nd,uE,jt,F,KY,Li];refine⟨⟨KZ _,by omega,m,hm,fun j l' h _=>by rw[u h];rfl⟩,fun _ i k1 t1 M a1 L I ⟨i0,J,r,hr,b⟩=>⟨fun f=>⟨by omega,fun _=>⟨f,fun _=>⟨by omega,fun _=>⟨f,fun _=>?_⟩⟩⟩⟩,fun f=>?_⟩⟩
 ·obtain⟨s,hs⟩:=Sx.get_at i0 f;have w:=JV hs;have b:=b m l hm z;have hn:M5 990 r:=(nI (Kj _) B.nice b).mono (by grind);have g:=vj hs;refine⟨⟨⟨r,hr,hn⟩,⟨s,g,o s w⟩,s.p,g.2.1⟩,fun _ k2 t2 y2 a2 H A e ⟨⟨K,D⟩,q⟩=>?_⟩;have d:Ans (D7 r s) k2 t2 y2 a2 H A e:=q r s s.p hr g g.2.1;cases hc:D7 r s with
  |ok G=>
   rw[hc]at d;obtain⟨rfl,ht⟩:=d;refine⟨fun _=>⟨⟨by omega,by omega⟩,fun _=>⟨⟨by omega,by omega,G,ht,fun j l' h h'=>?_⟩,fun _=>?_⟩⟩,fun h=>absurd rfl h⟩
   ·rw[u h,v h',show(i+1).toNat=i.toNat+1 by omega];exact nH b hs hc
   ·show(ln (l.map Stp.row)-(i+1)).toNat<(ln (l.map Stp.row)-i).toNat;omega
  |error n=>rw[hc]at d;have d:e=n:=d;have C:=jb hc;refine⟨fun h=>by omega,fun _ j l' h h'=>?_⟩;rwa[u h,v h',wv (nJ b hs hc)]
 ·have b:=b m l hm z;rw[KK (by omega)]at b;refine⟨⟨r,hr⟩,fun _ e he=>?_⟩;have he:=he r hr;refine⟨fun e0 j l' h h'=>?_,fun e0 j l' h h'=>?_⟩
  ·rw[u h,v h',oZ b (he.1.1 e0)];exact⟨rfl,hr⟩
  ·rw[u h,v h',lZ b (fun E=>e0 (he.1.2 E))];rfl
theorem vcDap_ok :vcDap:=by
 rintro g q B _ ⟨v,l,rfl,hw⟩;have ll:ln (l.map Stp.row)=(l.length:Int):=by simp[ln]
 have lv:∀b:Bool,X6 [] [.bool b]->b=true:=fun b h=>by cases h;rfl
 have lp:X5 []:=rfl;have ul:∀ {l':List Stp},l.map Stp.row=l'.map Stp.row->l'=l:=fun h=>(nK h).symm;simp only[Nd,Ni,Nr,tu,M0,ll,lp,Ld,KF,KY,Li];refine⟨fun _ b hb=>lv b hb,fun Y=>⟨(by grind),fun _ i R ⟨i0,i1,x,k⟩=>⟨fun c=>⟨by omega,fun _=>⟨c,fun _=>⟨fun _ b hb=>lv b hb,fun X=>⟨by omega,fun _=>⟨c,fun _=>?_⟩⟩⟩⟩⟩,fun c=>?_⟩⟩⟩
 ·obtain⟨s,hs⟩:=Sx.get_at i0 c;have H:=vj hs;have J:s∈l:=JV hs;obtain⟨e0,K,y,S,A,T,ht⟩:=H;have hw:=hw s J;have f:(l.map Stp.row).take (i+1).toNat=(l.map Stp.row).take i.toNat++ [s.row]:=by rw[show(i+1).toNat=i.toNat+1 by omega,List.take_add_one,KL,hs];rfl
  have F:ln R=i:=by rw[x];simp only[ln,Kv,Kf];omega
  have u:Sx.chunk 12 1 [Dat.int (cI (l.map Stp.row) i 0),.lst (cL (l.map Stp.row) i 1),.str (cS (l.map Stp.row) i 2),.str (cS (l.map Stp.row) i 3),.int (cI (l.map Stp.row) i 4),.int (cI (l.map Stp.row) i 5),.int (cI (l.map Stp.row) i 6),.str (cS (l.map Stp.row) i 7),.str (cS (l.map Stp.row) i 8),.lst (cL (l.map Stp.row) i 9),.str (cS (l.map Stp.row) i 10),.lst (cL (l.map Stp.row) i 11)]=[s.row]:=by obtain⟨f0,U,V,C,W,D⟩:=ht;rw[e0,K,y,S,A,T,f0,U,V,C,W,D,iE];rfl
  have O:ln (cL (l.map Stp.row) i 1)=(s.p.length:Int):=by rw[K];simp[ln]
  rw[u,F,e0];refine⟨⟨by omega,by omega,s.t,ht⟩,fun _ w ⟨w1,w2,w3⟩=>⟨fun _ b hb=>lv b hb,fun L=>⟨by omega,fun _=>⟨c,fun _=>?_⟩⟩⟩⟩;obtain⟨P,Q⟩:=w3 (by omega);obtain⟨_,_,_,C,_,D⟩:=ht;rw[C]at P;rw[D]at Q;simp only[ln,rows,Kf]at P Q;have inv:R++ [s.row]=(l.map Stp.row).take (i+1).toNat/\ ∀l':List Stp,l.map Stp.row=l'.map Stp.row-> ∀z∈l'.take (i+1).toNat,z.p.length<=10/\Bd z:=by
   refine⟨by rw[f,x],fun l' h z hz=>?_⟩;rw[ul h,show(i+1).toNat=i.toNat+1 by omega,List.take_add_one,hs]at hz;rcases Kx.1 hz with hz|hz
   ·exact k l rfl z hz
   ·have:z=s:=by simpa using hz
    rw[this];exact⟨by omega,by omega,by omega⟩
  have mu:Di [.lst (l.map Stp.row)] [.int (i+1),.lst (R++ [s.row])]<Di [.lst (l.map Stp.row)] [.int i,.lst R]:=by show(ln (l.map Stp.row)-(i+1)).toNat<(ln (l.map Stp.row)-i).toNat;omega
  simp only[inv.1,Ld];exact⟨⟨by omega,by omega⟩,fun _=>⟨by omega,fun _=>⟨by omega,fun _=>⟨⟨by omega,by omega⟩,fun _=>⟨by omega,fun _=>⟨⟨by omega,by omega,inv.2⟩,fun _=>mu⟩⟩⟩⟩⟩⟩
 ·rw[KK (by grind)]at x;subst x;have e:∀s∈l,s.p.length<=10/\Bd s:=by have:=k l rfl;rwa[KK (by omega)]at this
  have d:Sts (l.map Stp.row) l:=⟨rfl,by omega,fun s hs=>(e s hs).2⟩
  refine⟨v,fun _ k1 t1 y1 a1 x1 c1 ⟨M,N⟩=>⟨⟨⟨_,M,N⟩,l,d,fun s hs=>(e s hs).1⟩,fun _ k2 t2 y2 a2 x2 c2 y h2=>⟨v,fun _ k3 t3 y3 a3 x3 c3 ⟨j,_⟩=>?_⟩⟩⟩;obtain⟨h2,E⟩:=h2 _ l M d;refine⟨by omega,fun _=>⟨⟨⟨_,j,N⟩,l,d⟩,fun _ k4 t4 y4 a4 x4 c4 A h4=>?_⟩⟩;have h4:=h4 _ l j d;cases a:H5 (ofN g q B) l with
  |ok r=>
   rw[a]at h2 h4;obtain⟨rfl,hr⟩:=h2;obtain⟨rfl,o⟩:=h4;have G:z7 r:=by
    unfold H5 at a;split at a
    ·split at a
     ·rename_i Z;cases a;exact Z
     ·cases a
    ·cases a
   refine⟨fun _=>⟨fun _=>⟨⟨⟨r,hr⟩,r,o⟩,fun _ n hn=>⟨fun _ b hb=>lv b hb,fun I=>absurd ((hn r r hr o).1 ⟨G,rfl⟩) I⟩⟩,fun h=>absurd rfl h⟩,fun h=>absurd rfl h⟩
  |error n=>
   rw[a]at h2 h4;have h2:y=n:=h2;have h4:A=n:=h4;have hn:n≠0:=by
    unfold H5 at a;split at a
    ·split at a
     ·cases a
     ·cases a;decide
    ·rename_i hs;cases a;exact vi hs
   obtain⟨z0,z1,z2,z3,z4,z5⟩:=E n a;subst z0 z1 z2 z3 z4 z5;refine⟨fun _=>⟨fun h=>by omega,fun _=>⟨fun _=>⟨fun _=>⟨fun _=>⟨fun _=>⟨by decide,fun _=>⟨fun h=>absurd h (by decide),fun _ b hb=>lv b hb⟩⟩,fun h=>absurd rfl h⟩,fun h=>absurd rfl h⟩,fun h=>absurd rfl h⟩,fun h=>absurd rfl h⟩⟩,fun h=>by omega⟩
end Go.D
