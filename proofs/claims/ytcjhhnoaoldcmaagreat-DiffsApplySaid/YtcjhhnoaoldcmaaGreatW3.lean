/- The reference's Check: the conditions of Name, Str and one hold.
  Conditions: none. -/
import Derived.Test.YtcjhhnoaoldcmaaGreatT3
import Derived.Test.YtcjhhnoaoldcmaaGreatA5
set_option linter.all false
namespace Go.D
open Go Go.Xe Go.Sx
theorem vcRname_ok :vcRname:=by
 unfold vcRname vcRname0 Nd;intro s hp;have F:¬(s.length:Int)<1->16<s.length\/s.all fN=true->(!decide (16<(s.length:Int)))=j8 s:=fun h h2=>by
  by_cases c:16<s.length
  ·rw[fk (.inr c),decide_eq_true (by omega)];rfl
  ·rw[qh (by omega) (by omega) (h2.resolve_left c),Ll (by omega)];rfl
 simp only[ln,I64,D4,B8,pX,kE,BG,N0,KY,Li];refine⟨⟨by omega,by omega,rfl⟩,fun _ k ⟨k0,k1,k2⟩=>⟨fun hk=>⟨fun a=>?_,fun a=>(by grind)⟩,fun hk=>⟨fun h=>(fk (.inl (by omega))).symm,fun h=>F h (.inr (Z6 k2 (by omega)))⟩⟩⟩;obtain⟨b,hb,d⟩:=lD k0 hk
 repeat' first| (refine Ko ?_ ?_)|intro _
 all_goals first|omega|exact(qg (gR hb (pK (by omega)))).symm|exact gS hb k0 k2 (uo (by omega))
def vcRstr_ok :vcRstr:=by
 unfold vcRstr Nd;intro s hp;simp only[ln,I64,L1,J5,uL,nF,rsMu,N0,KY,Li];refine⟨fun h=>(vu (by omega)).symm,fun h=>⟨⟨by omega,by omega,rfl⟩,fun _ k ⟨k0,k1,k2⟩=>⟨fun hk=>?_,fun hk=>(vw (by omega) (Z6 k2 (by omega))).symm⟩⟩⟩;obtain⟨b,hb,a⟩:=lD k0 hk
 repeat' first| (refine Ko ?_ ?_)|intro _
 all_goals first|omega|exact(nX (gR hb (nL (by omega)))).symm|exact gS hb k0 k2 (zU (by omega) (by omega))
open Go Go.Xe Go.Sx
def rG {a:List Att}{i:Int}:pM [.lst (a.map Att.row)] [.int i]↔0<=i/\i<=(a.length:Int)/\(∀z∈a.take i.toNat,j8 z.n=true/\A9 z.v=true)/\Asc ((a.take i.toNat).map Att.n):=by simp only[pM,ln,Kf];exact⟨fun⟨h0,h1,h⟩=>⟨h0,h1,h a rfl⟩,fun⟨h0,h1,h⟩=>⟨h0,h1,fun b e=>by rw[<-iY e];exact h⟩⟩
def rH {a:List Att}{i k:Int}:pN [.lst (a.map Att.row),.int i] [.int k]↔0<=k/\k<=i/\i<(a.length:Int)/\ ∀z∈a.take k.toNat,lt z.n (a.getD i.toNat ⟨[],[]⟩).n=true:=by simp only[pN,ln,Kf];exact⟨fun⟨h0,h1,h2,h⟩=>⟨h0,h1,h2,h a rfl⟩,fun⟨h0,h1,h2,h⟩=>⟨h0,h1,h2,fun b e=>by rw[<-iY e];exact h⟩⟩
variable {l:List Att}
theorem CM {b:Att}(h:Asc (l.map Att.n))(hb:∀z∈l,lt z.n b.n=true):Asc ((l++ [b]).map Att.n):=by unfold Asc at h⊢;grind
def IJ (h:Asc (l.map Att.n)){i k:Nat}{a b:Att}(hk:l[k]? =some a)(hi:l[i]? =some b)(c:k<i):lt a.n b.n=true:=zt h (J4 hk) (J4 hi) c
theorem EA (s:a8)(hk:s.k=1)(ht:j8 s.t=true)(hy:s.y=[]\/j8 s.y=true):vcOne0 s.x (s.a.map Att.row) s.k s.t s.y (rows s.c):=by
 have AL:de s↔(s.x=[]/\s.a.length<=8/\s.c.length<=16/\(∀a∈s.a,j8 a.n=true/\A9 a.v=true)/\Asc (s.a.map Att.n)/\gO (s.c.map a8.y)):=by
  constructor
  ·rintro (h|h)
   ·omega
   ·exact h.2.2.2
  ·exact fun h=>.inr ⟨hk,ht,hy,h⟩
 have L:=bW s.c;unfold vcOne0;simp only[Nd,I64,E9,E3,forall_eq,M8,V9,D4,L1,B8,J5,uN,cS,uu,pO,oaMu,ocMu,Ez,Bx,N0,L,ln,Kf,KY,Li,Ld,KF];refine⟨fun hx=>⟨fun J=>C9 fun h=>?_,fun J=>⟨fun C=>C9 fun h=>?_,fun C=>⟨rG.2 ⟨by omega,by omega,by simp,by simp[Asc]⟩,fun _ i hi=>⟨fun g=>?_,fun g=>?_⟩⟩⟩⟩,fun hx=>C9 fun h=>hx (AL.1 h).1⟩
 ·have:=(AL.1 h).2.1;omega
 ·have:=(AL.1 h).2.2.1;omega
 ·obtain⟨i0,K,u,w⟩:=rG.1 hi;obtain⟨b,hb⟩:=Sx.get_at i0 g;have p:=JV hb;have o:s.a.getD i.toNat ⟨[],[]⟩=b:=by rw[Kr,hb];rfl
  simp only[B4 hb,at0,at1,v9];refine⟨by omega,fun _=>⟨g,fun _=>⟨fun hn=>⟨by omega,fun _=>⟨g,fun _=>⟨fun G=>?_,fun G=>C9 fun h=>G ((AL.1 h).2.2.2.1 b p).2⟩⟩⟩,fun hn=>C9 fun h=>hn ((AL.1 h).2.2.2.1 b p).1⟩⟩⟩;refine⟨rH.2 ⟨by omega,by omega,g,by simp⟩,fun _ k r=>⟨fun E=>?_,fun E=>?_⟩⟩
  ·obtain⟨k0,k1,k2,k3⟩:=rH.1 r;obtain⟨a,ha⟩:=Sx.get_at k0 (show k<(s.a.length:Int) by omega);simp only[B4 ha,at0,v9];refine⟨by omega,fun _=>⟨by omega,fun _=>⟨by omega,fun _=>⟨g,fun _=>⟨fun hl=>⟨⟨by omega,by omega⟩,fun _=>⟨rH.2 ⟨by omega,by omega,g,?_⟩,fun _=>by omega⟩⟩,fun hl=>C9 fun h=>hl (IJ (AL.1 h).2.2.2.2.1 ha hb (by omega))⟩⟩⟩⟩⟩;rw[s8 k0 ha];intro z hz;rcases Kx.1 hz with hz|hz
   ·exact k3 z hz
   ·cases La.1 hz;rw[o];exact hl
  ·obtain⟨k0,k1,k2,k3⟩:=rH.1 r;have B:k=i:=by omega
   subst B;rw[o]at k3;refine⟨⟨by omega,by omega⟩,fun _=>⟨rG.2 ⟨by omega,by omega,?_,?_⟩,fun _=>by omega⟩⟩
   ·rw[s8 i0 hb];intro z hz;rcases Kx.1 hz with hz|hz
    ·exact u z hz
    ·cases La.1 hz;exact⟨hn,G⟩
   ·rw[s8 i0 hb];exact CM w k3
 ·obtain⟨i0,K,u,w⟩:=rG.1 hi;rw[E0 (by omega)]at u w;refine⟨⟨by omega,by omega,by simp[gO]⟩,fun _ j ⟨I,M,H⟩=>⟨fun hj=>?_,fun hj=>?_⟩⟩
  ·obtain⟨c,hc⟩:=Sx.get_at I hj;have m:=J4 (f:=a8.y) hc;have D:(s.c.map a8.y).getD j.toNat []=c.y:=by rw[Kr,m];rfl
   simp only[K5 hc,t2,v9,D];refine⟨⟨by omega,by omega,hj,.inr (by simp)⟩,fun _ k ⟨k0,k1,k2,k3⟩=>⟨fun F=>?_,fun F=>?_⟩⟩
   ·obtain⟨d,hd⟩:=Sx.get_at k0 (show k<(s.c.length:Int) by omega);have q:=J4 (f:=a8.y) hd;simp only[K5 hd,t2,v9];refine⟨by omega,fun _=>⟨hj,fun _=>⟨fun e=>⟨⟨by omega,by omega⟩,fun _=>⟨⟨by omega,by omega,hj,.inl e⟩,fun _=>by omega⟩⟩,fun e=>⟨by omega,fun _=>⟨hj,fun _=>⟨by omega,fun _=>⟨by omega,fun _=>⟨fun A=>C9 fun h=>tX q m (by omega) e A.symm (AL.1 h).2.2.2.2.2,fun A=>⟨⟨by omega,by omega⟩,fun _=>⟨⟨by omega,by omega,hj,.inr fun z hz=>?_⟩,fun _=>by omega⟩⟩⟩⟩⟩⟩⟩⟩⟩⟩;rw[s8 k0 q]at hz;rcases Kx.1 hz with hz|hz
    ·exact(k3.resolve_left e) z hz
    ·cases La.1 hz;exact fun c=>A c.symm
   ·have B:k=j:=by omega
    subst B;refine⟨⟨by omega,by omega⟩,fun _=>⟨⟨by omega,by omega,jg I m H k3⟩,fun _=>by omega⟩⟩
  ·rw[E0 (by grind)]at H;exact⟨fun _=>AL.2 ⟨hx,by omega,by omega,u,w,H⟩,fun _=>trivial⟩
theorem vcOne_ok :vcOne:=by
 rintro _ _ _ _ _ _ ⟨s,rfl,rfl,rfl,rfl,rfl,rfl⟩;have B:=EA s;simp only[Nd,E9,E3,forall_eq,M8,V9,D4,L1,B8,J5,uN,ln,Kf,KY,Li,Ld,KF];refine⟨fun hk=>?_,fun hk=>⟨fun h1=>⟨fun ht=>⟨fun hy=>B h1 ht (.inl hy),fun hy=>⟨fun h2=>B h1 ht (.inr h2),fun h2=>C9 fun h=>?_⟩⟩,fun ht=>C9 fun h=>?_⟩,fun h1=>C9 fun h=>?_⟩⟩
 ·have b:de s↔(A9 s.x=true/\s.t=[]/\s.y=[]/\s.a=[]/\s.c=[]):=by unfold de;simp[hk]
  simp_all
 all_goals
  rcases h<;>grind
open Go Go.Xe Go.Sx
def qR {c:List a8}{lv i n:Int}:km [.lst (rows c),.int lv] [.int i,.int n]↔0<=i/\i<=(c.length:Int)/\1<=lv/\1<=n/\n<=1000+64*lv/\(n<=64↔AllAs (c.take i.toNat)/\(a8.depths (c.take i.toNat):Int)+1<=lv/\a8.sizes (c.take i.toNat)+1<=64)/\(n<=64->n=a8.sizes (c.take i.toNat)+1):=by simp only[km,ln,Kf,zz,forall_eq']
def Gz {c:List a8}{lv i n m:Int}{a:a8}(h:km [.lst (rows c),.int lv] [.int i,.int n])(ha:c[i.toNat]? =some a)(hn:¬64<n)(p:1<=m)(m2:m<=1000+64*(lv+(-1)))(hm:m<=64↔Fits a (lv+(-1)))(b:m<=64->m=a.size):km [.lst (rows c),.int lv] [.int (i+1),.int (n+m)]:=by
 obtain⟨h0,h1,h2,h3,h4,h5,l⟩:=qR.1 h;have hi:=(JO.1 ha).1;obtain⟨e,j,k⟩:=h5.1 (by omega);refine qR.2 ⟨by omega,by omega,h2,by omega,by omega,?_,?_⟩
 ·rw[s8 h0 ha,eF,bO,L2,pP,EB];constructor
  ·intro hs;obtain⟨d,f,g⟩:=hm.1 (by omega);refine⟨⟨e,d,trivial⟩,by omega,by omega⟩
  ·rintro ⟨⟨k1,k2,_⟩,k3,o⟩;have:=b (hm.2 ⟨k2,by omega,by omega⟩);omega
 ·intro hs;rw[s8 h0 ha,L2,pP];omega
theorem vcRcnt_ok (N:Nat):vcRcnt N:=by
 rintro _ _ _ _ _ _ lv ⟨⟨h0,B,s,rfl,rfl,rfl,rfl,rfl,rfl⟩,j⟩;have j:lv.toNat<N+1:=j;have hd:=aP s;have hz:=P0 s;have no:∀n:Int,64<n->n<=1000+64*lv-> ¬Fits s lv->R7 [.int s.k,.str s.t,.str s.y,.lst (s.a.map Att.row),.str s.x,.lst (rows s.c),.int lv] [.int n]:=fun n h1 h2 h3=>by refine⟨by omega,h2,fun a ha=>?_⟩;rw[E3]at ha;grind
 simp only[Nd,E9,E3,forall_eq,I64];refine⟨fun hl=>⟨no _ (by omega) (by omega) fun f=>by have:=f.2.1;omega,fun _=>trivial⟩,fun hl=>⟨⟨s,rfl,rfl,rfl,rfl,rfl,rfl⟩,fun _ b hb=>⟨fun p=>?_,fun o=>⟨no _ (by omega) (by omega) fun f=>o (hb.2 ((B6 s).1 f.1).1),fun _=>trivial⟩⟩⟩⟩;have g:=hb.1 p;have r:=(gT g).1;refine⟨qR.2 ⟨by omega,by omega,by omega,by omega,by omega,by simp[AllAs,a8.depths,a8.sizes];omega,by simp[a8.sizes]⟩,fun _ i n hi=>?_⟩;obtain⟨i0,C,D,v,q,l,w⟩:=qR.1 hi;have A:ln (rows s.c)=(s.c.length:Int):=by grind
 simp only[A];refine⟨fun e=>⟨fun d=>⟨no n d q fun f=>?_,fun _=>trivial⟩,fun d=>?_⟩,fun e=>⟨?_,fun _=>trivial⟩⟩
 ·have u:=((B6 s).1 f.1).2;have:=po s.c i.toNat;have:=uY s.c i.toNat;have:=l.2 ⟨wb u _,by have:=f.2.1;omega,by have:=f.2.2;omega⟩;omega
 ·obtain⟨a,ha⟩:=Sx.get_at i0 e;simp only[cI,cS,cL,K5 ha,t0,t1,t2,t3,t4,t5,fg,v9,bD,R7,eO,ju,E3,forall_eq,exists_eq,Li];refine⟨by omega,fun _=>⟨e,fun _=>⟨⟨by omega,by omega⟩,fun _=>⟨(by grind),fun _ m ⟨z,m2,m3,m4⟩=>⟨⟨by omega,by omega⟩,fun _=>⟨⟨by omega,by omega⟩,fun _=>⟨Gz hi ha d z m2 m3 m4,fun _=>⟨?_,fun _=>trivial⟩⟩⟩⟩⟩⟩⟩⟩;show(((rows s.c).length:Int)-(i+1)).toNat<(((rows s.c).length:Int)-i).toNat;rw[Kf];omega
 ·rw[E0 (by omega)]at l w;refine⟨v,q,fun a ha=>?_⟩;rw[E3]at ha;subst ha;refine⟨⟨fun h=>?_,fun f=>?_⟩,fun h=>by omega⟩
  ·obtain⟨k1,k2,k3⟩:=l.1 h;exact⟨(B6 _).2 ⟨g,k1⟩,by omega,by omega⟩
  ·exact l.2 ⟨((B6 _).1 f.1).2,by have:=f.2.1;omega,by have:=f.2.2;omega⟩
theorem vcRchk_ok :vcRchk:=by
 rintro _ _ _ _ _ _ ⟨s,rfl,rfl,rfl,rfl,rfl,rfl⟩;simp only[Nd,R7,eO,V7,dK,E3,forall_eq,exists_eq,Li,KY];have V:Fits s 6↔z7 s:=⟨fun f=>⟨f.1,f.2.2,by have:=f.2.1;omega⟩,fun v=>⟨v.1,by have:=v.2.2;omega,v.2.1⟩⟩
 grind
open Go Go.Xe Go.Sx
open Go.C36 (row)
theorem vcWg2_ok (N:Nat):vcWg2 N:=by
 rintro _ _ _ _ _ _ lv ⟨⟨h0,j,s,rfl,rfl,rfl,rfl,rfl,rfl⟩,e⟩;have e:lv.toNat<N+1:=e;have g:ln (rows s.c)=(s.c.length:Int):=by grind
 have f:ln (s.a.map Att.row)=(s.a.length:Int):=by grind
 simp only[Nd,cO,nY,FF,qj,ID,vC,I64,g,f,Li,KY];refine⟨fun h=>by omega,fun h=>⟨fun h2=>by omega,fun h2=>⟨fun h3=>by omega,fun h3=>⟨by omega,fun _ i n ⟨i0,k,o,p,q⟩=>⟨fun b=>⟨fun d=>by omega,fun d=>?_⟩,fun b=>by omega⟩⟩⟩⟩⟩;obtain⟨a,ha⟩:=Sx.get_at i0 b;simp only[cI,cS,cL,K5 ha,t0,t1,t2,t3,t4,t5,fg,v9,bD,E3,exists_eq,Li];refine⟨by omega,fun _=>⟨b,fun _=>⟨⟨by omega,by omega⟩,fun _=>⟨(by grind),fun _ m ⟨r,m2,_⟩=>⟨⟨by omega,by omega⟩,fun _=>⟨⟨by omega,by omega⟩,fun _=>⟨by omega,fun _=>?_⟩⟩⟩⟩⟩⟩⟩;show(((rows s.c).length:Int)-(i+1)).toNat<(((rows s.c).length:Int)-i).toNat;grind
variable {l:List Att}
theorem Du {s:Str}{i:Nat}{a:Att}(h:∀z∈l.take i,z.n≠s)(ha:l[i]? =some a)(e:a.n=s):hC l s=i:=by
 have hi:=(JO.1 ha).1;have:l.findIdx? (fun a=>a.n==s)=some i:=by rw[List.findIdx?_eq_some_iff_getElem];refine⟨hi,by grind,fun j hj=>?_⟩;have:=h l[j] (by rw[List.mem_take_iff_getElem];exact⟨j,by omega,rfl⟩);grind
 unfold hC;grind
theorem Dv {s:Str}(h:∀z∈l,z.n≠s):hC l s= -1:=by
 have:l.findIdx? (fun a=>a.n==s)=none:=by grind
 unfold hC;grind
theorem vcRfd_ok :vcRfd:=by
 rintro _ s ⟨l,rfl,hl⟩;have c:ln (l.map Att.row)=(l.length:Int):=by grind
 have un:∀ {m:List Att},l.map Att.row=m.map Att.row->m=l:=fun h=>(iY h).symm;simp only[Nd,tF,jw,c,KY,Li];refine⟨(by grind),fun _ i ⟨i0,d,hi⟩=>⟨fun b=>⟨by omega,fun _=>⟨b,fun _=>?_⟩⟩,fun b m hm=>?_⟩⟩
 ·obtain⟨a,ha⟩:=Sx.get_at i0 b;have hc:cS (l.map Att.row) i 0=a.n:=by simp only[cS,B4 ha];rfl
  rw[hc];refine⟨fun e m hm=>?_,fun e=>⟨⟨by omega,by omega⟩,fun _=>⟨⟨by omega,by omega,fun m hm z hz=>?_⟩,fun _=>?_⟩⟩⟩
  ·cases un hm;rw[Du (hi l rfl) ha e];omega
  ·cases un hm;rw[show(i+1).toNat=i.toNat+1 by omega,List.take_add_one,ha]at hz;grind
  ·show(((l.map Att.row).length:Int)-(i+1)).toNat<(((l.map Att.row).length:Int)-i).toNat;grind
 ·cases un hm;rw[Dv];have:=hi l rfl;rwa[KK (by omega)]at this
theorem vcCed_ok :vcCed:=by
 rintro _ ⟨n,v,rfl⟩;have d:ln [[Dat.str n,.bool false,.str v]]=1:=rfl;have un:∀ {n' v':Str},[[Dat.str n,.bool false,.str v]]=[[.str n',.bool false,.str v']]->n'=n/\v'=v:=fun h=>by grind
 simp only[Nd,pe,tp,fZ,d,KY,Li];refine⟨(by grind),fun _ i ⟨i0,m,hi⟩=>⟨fun b=>⟨by omega,fun _=>⟨b,fun _=>?_⟩⟩,fun b=>⟨KZ _,fun _ j hj=>⟨fun h=>by omega,fun _ n' v' h=>?_⟩⟩⟩⟩
 ·have e:i=0:=by omega
  subst e;have f:cS [[Dat.str n,.bool false,.str v]] 0 0=n:=rfl;have g:cS [[Dat.str n,.bool false,.str v]] 0 2=v:=rfl;have k:cB [[Dat.str n,.bool false,.str v]] 0 1=false:=rfl;let t:a8:= .mk 1 [97] [] [⟨n,v⟩] [] []
  have ht:isT t 1 [97] [] (Sx.chunk 2 1 [.str n,.str v]) [] []:=⟨rfl,rfl,rfl,rfl,rfl,rfl⟩
  have c:z7 t↔j8 n=true/\A9 v=true:=by
   constructor
   ·rintro ⟨⟨h,_⟩,_⟩;rcases h with⟨h,_⟩| ⟨_,_,_,_,_,_,h,_⟩
    ·cases h
    ·exact h ⟨n,v⟩ (La.2 rfl)
   ·rintro ⟨h1,h2⟩;refine⟨⟨.inr ⟨rfl,(show j8 [97]=true from by decide),.inl rfl,rfl,(show 1<=8 by omega),(show 0<=16 by omega),fun a ha=>?_,by simp[Asc,a8.a],List.Pairwise.nil⟩,trivial⟩,by simp[a8.size,a8.sizes,t],by simp[a8.depth,a8.depths,t]⟩;have:=La.1 ha;grind
  refine⟨⟨t,ht⟩,fun _ e he=>?_⟩;have he:=he t ht;rw[c]at he;refine⟨fun e0=>⟨fun h=>(by grind),fun _=>⟨by decide,fun _=>⟨⟨by omega,by omega,fun n' v' h=>?_⟩,fun _=>?_⟩⟩⟩,fun e0 n' v' h=>?_⟩
  ·grind
  ·show(((1:Nat):Int)-(0+1)).toNat<(((1:Nat):Int)-0).toNat;decide
  ·grind
 ·grind
end Go.D
