/- DomsCopy: Copy: the condition holds.
  Conditions: none. -/
import Derived.Test.YtgmiikiinbaapaaGreatZ3
set_option linter.all false
noncomputable section
namespace Go.D
open Go Go.Xe Go.Sx
section
variable {A B L N S S' N':Sx.Rows}{k i g fr lv fr' lv':Int}{r s:Ar}{D:DM}{K c:Nat}{cs:Ak}{T:List RS}{G G':Nat->Nat}
def vcClo_ok :vcClo:=by
 unfold vcClo;intro S h;have h:S.length<=1000:=h;have d:0<=ln S:=by simp only[ln];omega
 have e:ln S<=1000:=by simp only[ln];omega
 have a:ln S=0->S=[]:=fun h=>QG (by simp only[ln]at h;omega);intro b;refine⟨fun _ h0=>ndt (by rw[a h0];rfl),fun _=>nin<|nrn<|ndi (by omega) ⟨fun _=>nin<|nrn<|ndt rfl,fun h0=>?_⟩⟩;have:=a (by omega);subst this;exact ndi (by simp[ln,Sx.over,b8])<|ndi rfl<|ndi (by simp[ln])<|ndt rfl
def FF :∀ {T:List RS} {k j:Nat} {r:RS},T[j]? =some r->r.u=true->[Dat.int ((k+j:Nat):Int),.int r.g]∈hdF (T.map RS.row) k
 | [],k,j,r,h,_=>by simp at h|a::T,k,0,r,h,b=>by simp at h;subst h;rw[RC];unfold hdF;rw[QW (by exact b)];simp[RS.row]|a::T,k,j+1,r,h,b=>by have:=FF (k:=k+1) (j:=j) (r:=r) (by simpa using h) b;rw[show k+1+j=k+(j+1) by omega]at this;rw[RC];unfold hdF;split;exact RK _ this;exact this
def Rl.anew (h:Rl G D S N fr lv)(hk:D.at i g=some c)(hr:∀j,j<10->r[j]? =some (p8 N (atF S i g) j))(hl:r.length=10):Rl G D (a8 S i 3 (.int (ln N))) (N++ [r]) fr lv:=by
 obtain⟨s,k1,k2,k3,Y,_,_,J⟩:=h.node hk;obtain⟨T,M,rfl,rfl,h⟩:=h;obtain⟨s',q,R,y,I,U,o,V,W,X⟩:=h.at_ hk;rw[k1]at y;cases y;subst k2;have F:r=(s.n.rn G).row:=List.ext_getElem? fun j=>by by_cases hj:j<10;rw[hr j hj,J,Rh];rw[QL (l:=(s.n.rn G).row) (by exact hj)];rfl;rw[SK (by omega),SK (by exact Sf hj)]
 have old:∀j:Nat,∀rj,T[j]? =some rj->rj.u=true->rj.p<M.length:=fun j rj h1 h2=>by obtain⟨sj,v,O,w,P⟩:=h.back h1;obtain⟨Z,Q⟩:=P (by rw[<-w];exact h2);have:=(QD.1 Q).1;omega
 have t:q.u=true:=by obtain⟨s',v,O,w,_⟩:=h.back o;rw[k1]at v;cases v;rw[w];exact I
 refine⟨T.modify c fun r=> {r with p:=(M.length:Int)},M++ [s.n.rn G],?_,by simp[F],by simpa using h.len,fun j sj hj=>?_,fun a b z rb d hb C E e=>?_,h.free.mod fun hc=>?_,h.nodup,h.all,h.lv⟩;rw[O0 (fun r:RS=> {r with p:=(M.length:Int)}) (fun a=>by simp[RS.row,ln]),Rs];simp only[j6];obtain⟨rj,h1,h2,h3,h4⟩:=h.row j sj hj;by_cases e:c=j;subst e;rw[k1]at hj;cases hj;rw[QW rfl,h1];exact⟨_,rfl,h2,h3,fun _=>⟨by simp,by simp⟩⟩;rw[QU e];refine⟨rj,h1,h2,h3,fun t=>?_⟩;obtain⟨H,x⟩:=h4 t;exact⟨H,by rw[QJ (QD.1 x).1];exact x⟩;simp only[j6]at d hb;by_cases f:c=a<;>by_cases m:c=b;omega;rw[QW f]at d;rw[QU m]at hb;subst f;rw[o]at d;cases d;have:=old b rb hb E;simp only at e;omega;rw[QU f]at d;rw[QW m]at hb;subst m;rw[o]at hb;cases hb;have:=old a z d C;simp only at e;omega;rw[QU f]at d;rw[QU m]at hb;exact h.inj a b z rb d hb C E e;obtain⟨r',h1,h2⟩:=h.free.unused c hc;rw[o]at h1;cases h1;rw[t]at h2;cases h2
def vcDcp_ok :vcDcp:=by
 unfold vcDcp;intro S fr lv c0 c1 c2 c3 c4 c5 c6 c7 st N h;obtain⟨D,K,t,w⟩:=h;have lS:=t.1.slen w;obtain⟨Z,Y⟩:=t.1.hds w;refine nin<|nrn<|ndi lS fun S0 e=>?_;have e: [Dat.lst S0]=[.lst S]:=e;simp at e;subst e;refine nin<|nrn<|ndi Z fun H l=>nin<|nrn<|ndi ⟨rfl,rfl,rfl,rfl,by omega,by omega,List.prefix_rfl,fun D K h _ _=>⟨h,fun r hr=>by simp at hr⟩⟩ fun d k S1 fr' lv' d0 d1 d2 d3 d4 d5 d6 d7 z ac hI=>?_;have l:H=hdF S0 0:=l;obtain⟨rfl,rfl,rfl,hc,k0,k1,hp,hI⟩:=hI;have lH:H.length<=1000:=by have:=w.live t.1;have:=Z.2.1;rw[l];omega
 obtain⟨f,hf⟩:=hI D K t.1 w l;refine⟨fun hk=>?_,fun hk=>nin<|nrn<|nin<|nrn<|ndi (by simp)<|ndt ⟨rfl,rfl,rfl,rfl,hp,fun j hj v=>?_,fun D' C h' w'=>⟨(hI D' C h'.1 w' l).1,by rw[hc];exact h'.2⟩⟩⟩
 ·have hk:k<H.length:=hk;obtain⟨r,r1,W,r3⟩:=dO k0 hk;rw[l]at W;obtain⟨i,g,c,rfl,o⟩:=Y r W;have e0:cI H k 0=i:=by simp only[cI,r3];rfl
  have e1:cI H k 1=g:=by simp only[cI,r3];rfl
  have u:=w.u32 o;have Q:=f.slen w;obtain⟨s,h1,h2,h3,h4,h5,h6,X⟩:=f.node o;have hv:=f.vld.2 ⟨c,o⟩;unfold z9 at hv;simp only[QB,QV]at hv;obtain⟨⟨⟨v0,q⟩,v2⟩,v3⟩:=hv;have kids:(cL d (atF S1 i g) 2).length<=1000/\(cL d (atF S1 i g) 9).length<=1000:=by
   have e2:cL d (atF S1 i g) 2=s.n.atts.map Att.row:=by unfold cL;rw[X];rfl
   have e9:cL d (atF S1 i g) 9=s.n.ch.map (E3 D.gen):=by unfold cL;rw[X];rfl
   rw[e2,e9,QT,QT];have:=(w.atts c s h1 h3).1;have:=w.kidlen h1 h3;omega
  rw[e0,e1];have ui:0<=i/\i<4294967296:=u.1;have ab:ln S1=(S1.length:Int):=rfl;refine ndi (by omega)<|ndi hk<|nin<|nrn<|ndi (by simp)<|ndi ⟨u.1,u.2.1,Q⟩ fun p hp'=>?_;have hp':p=atF S1 i g:=hp';subst hp';refine ndi (by omega)<|ndi h6<|ndi kids fun y0 y1 y2 y3 y4 y5 y6 y7 y8 y9 hy=>?_;have hy: [Dat.int y0,.str y1,.lst y2,.str y3,.int y4,.int y5,.bool y6,.int y7,.int y8,.lst y9]=[.int (cI d (atF S1 i g) 0),.str (cS d (atF S1 i g) 1),.lst (cL d (atF S1 i g) 2),.str (cS d (atF S1 i g) 3),.int (cI d (atF S1 i g) 4),.int (cI d (atF S1 i g) 5),.bool (cB d (atF S1 i g) 6),.int (cI d (atF S1 i g) 7),.int (cI d (atF S1 i g) 8),.lst (cL d (atF S1 i g) 9)]:=hy;refine ndi (by omega)<|ndi (by omega) ⟨fun _=>ndi (by omega)<|ndi q<|ndi q ⟨fun _=>ndi q ⟨fun _=>ndi q<|ndi (by unfold I64;omega)<|nin<|nrn<|ndi ⟨rfl,rfl,rfl,hc,by omega,by omega,hp.trans (List.prefix_append ..),fun D' C y U V=>?_⟩<|ndt ?_,fun h=>absurd v3 h⟩,fun h=>absurd v2 h⟩,fun h=>absurd q h⟩
  ·obtain⟨q4,q5⟩:=hI D' C y U V;obtain⟨_,I⟩:=y.hds U;obtain⟨i',g',c',e',m⟩:=I _ W;simp only[RW,Dat.int.injEq,Sa]at e';obtain⟨rfl,rfl⟩:=e';obtain⟨s',_,_,_,_,_,_,F⟩:=q4.node m;refine⟨?_,fun r hr=>?_⟩
   ·rw[hy];refine q4.anew m (fun j hj=>?_) rfl;have:∀j,p8 d (atF S1 i g) j=(s'.n.rn D'.gen).row.getD j (.int 0):=F;simp only[cI,cS,cL,cB,this]
    match j,hj with
    |0,_=>rfl|1,_=>rfl|2,_=>rfl|3,_=>rfl|4,_=>rfl|5,_=>rfl|6,_=>rfl|7,_=>rfl|8,_=>rfl|9,_=>rfl
   ·have lp:(N.length:Int)<=ln d:=by have:=hp.length_le;simp only[ln];omega
    have new:cI (a8 S1 i 3 (.int (ln d))) i 3=ln d:=by
     obtain⟨T,M,rfl,rfl,hT⟩:=f;have O:T[i.toNat]? =some (T[i.toNat]'(by rw[QT]at q;omega)):=QL _;have hx:(T.modify i.toNat fun r:RS=> {r with p:=ln (M.map RN.row)})[i.toNat]? =some {T[i.toNat]'(by rw[QT]at q;omega)with p:=ln (M.map RN.row)}:=by rw[j6,QW rfl,O];rfl
     rw[O0 (fun r:RS=> {r with p:=ln (M.map RN.row)}) (fun _=>rfl)];simp only[cI];rw[c9 hx];rfl
    have R:∀a:Int,a.toNat≠i.toNat->cI (a8 S1 i 3 (.int (ln d))) a 3=cI S1 a 3:=fun a ha=>by simp only[cI,p8,a8,Rh,j6];rw[QU (fun e=>ha e.symm)]
    by_cases x:(r.getD 0 (.int 0)).toInt.toNat=i.toNat
    ·rw[show(k+1).toNat=k.toNat+1 by omega,List.take_add_one,r1]at hr;have aa:0<=(r.getD 0 (.int 0)).toInt:=by
      have:r∈hdF S0 0:=by rw[<-l];rcases Ro.1 hr with h|h;exact Sp h;simp at h;subst h;exact QK r1
      obtain⟨a,b,c,rfl,hc⟩:=Y _ this;have:=(w.u32 hc).1.1;exact this
     have x:(r.getD 0 (.int 0)).toInt=i:=by omega
     rw[x,new];exact lp
    rw[R _ x];rw[show(k+1).toNat=k.toNat+1 by omega,List.take_add_one,r1]at hr;rcases Ro.1 hr with h|h;exact q5 r h;simp at h;subst h;exact absurd rfl x
  show(H.length-(k+1)).toNat<(H.length-k).toNat;omega
 ·have hk:¬k<(H.length:Int):=hk;rw[RA (by omega),l]at hf;obtain⟨T,M,rfl,rfl,hT⟩:=t.1;obtain⟨E,M1,rfl,rfl,J⟩:=f;rw[QT]at hj;have P:E[((j:Nat):Int).toNat]? =some E[j]:=by rw[Rs];exact QL hj
  simp only[cB]at v;rw[c9 P]at v;have v:(E[j]).u=true:=v;obtain⟨s,y,U,V,_⟩:=J.back (QL hj);obtain⟨r0,p1,p2,p3,_⟩:=hT.row j s y;have:=hf _ (FF (k:=0) p1 (by rw[p3,<-V];exact v));simpa [Dat.toInt]using this
end
section
variable {A B L N S S' N':Sx.Rows}{k i g fr lv fr' lv':Int}{r s:Ar}{D D2:DM}{K c:Nat}{cs:Ak}{T:List RS}{G G':Nat->Nat}
def Pa (k0:0<=k)(hk:k<(D.L.map Sl.row).length):∃s:Sl,(D.L.map Sl.row)[k.toNat]? =some s.row/\D.L[k.toNat]? =some s/\ ∀j,p8 (D.L.map Sl.row) k j=s.row.getD j (.int 0):=by rw[QT]at hk;have h:D.L[k.toNat]? =some (D.L[k.toNat]'(by omega)):=QL _;exact⟨_,by rw[RB,h];rfl,h,fun j=>c9 h j⟩
def vcEql_ok :vcEql:=by
 unfold vcEql;intro L F b0 x y C E H J M L2 F2 O P Q R U V W X h;obtain⟨⟨D,K,⟨rfl,rfl,hb⟩,w⟩,D2,K2,⟨rfl,rfl,hd⟩,w2⟩:=h;have no:¬(D.L.map Sl.row=D2.L.map Sl.row/\D.free.map l9=D2.free.map l9/\[b0,x,y,C,E,H,J,M]=[O,P,Q,R,U,V,W,X])->vcEql0 (D.L.map Sl.row) (D.free.map l9) b0 x y C E H J M (D2.L.map Sl.row) (D2.free.map l9) O P Q R U V W X:=fun h=>ndt ⟨fun e=>by simp at e,fun e=>absurd e h⟩;have u:∀j,¬([b0,x,y,C,E,H,J,M].getD j 0=[O,P,Q,R,U,V,W,X].getD j 0)->vcEql0 (D.L.map Sl.row) (D.free.map l9) b0 x y C E H J M (D2.L.map Sl.row) (D2.free.map l9) O P Q R U V W X:=fun j h=>no fun e=>h (by rw[e.2.2]);have I:∀ {k:Int} {n:Nat},k<n->n<=1000->0<=k->I64 (k+1):=fun h1 h2 h3=>by unfold I64;omega
 have fl:D.free.length<=1000:=by
  have hs:D.free ⊆ List.range D.L.length:=fun j hj=>by obtain⟨s,h1,_⟩:=w.free.2 j hj;exact List.mem_range.2 (QD.1 h1).1
  have h9:=w.free.1.length_le_of_subset hs;have:=w.lim;rw[List.length_range]at h9;omega
 have ll:(D.L.map Sl.row).length<=1000:=by rw[QT];have:=w.lim;omega
 have p:∀ {A B:Sx.Rows},ln A=ln B->I1 [.lst A,.lst B] [.int 0]:=fun{A B} h=>⟨by omega,by omega,by have h:(A.length:Int)=B.length:=h;omega,rfl⟩
 have mu:∀ {A B:Sx.Rows} {k:Int},k<A.length->0<=k->V7 [.lst A,.lst B] [.int (k+1)]<V7 [.lst A,.lst B] [.int k]:=fun{A B k} h1 h2=>by show(A.length-(k+1)).toNat<(A.length-k).toNat;omega
 have v:∀ {l m:Ah} {k:Int},0<=k->k<(l.map l9).length->k<(m.map l9).length->cI (l.map l9) k 0=cI (m.map l9) k 0->(l.map l9)[k.toNat]? =(m.map l9)[k.toNat]? :=fun{l m k} k0 h1 h2 e=>by obtain⟨r,r1,r2,r3⟩:=dO k0 h1;obtain⟨s,s1,s2,s3⟩:=dO k0 h2;obtain⟨a,_,rfl⟩:=Sj.1 r2;obtain⟨b,_,rfl⟩:=Sj.1 s2;simp only[cI,r3,s3]at e;rw[r1,s1];have e:(a:Int)=b:=e;rw[show a=b by omega]
 refine⟨fun e0=>⟨fun e1=>⟨fun e2=>⟨fun e3=>⟨fun e4=>⟨fun e5=>⟨fun e6=>⟨fun e7=>⟨fun el=>⟨fun ef=>ndi (p ef) fun k hI=>?_,fun h=>no fun e=>h (by rw[e.2.1])⟩,fun h=>no fun e=>h (by rw[e.1])⟩,u 7⟩,u 6⟩,u 5⟩,u 4⟩,u 3⟩,u 2⟩,u 1⟩,u 0⟩;obtain⟨k0,k1,kl,ke⟩:=hI;refine⟨fun hk=>?_,fun hk=>ndi (p el) fun i hI=>?_⟩;have hk:k<(D.free.map l9).length:=hk;exact ndi (by omega)<|ndi hk<|ndi (by omega)<|ndi (show k<(D2.free.map l9).length by omega) ⟨fun e=>ndi (I hk (by rw[QT];exact fl) k0)<|ndi ⟨by omega,by omega,kl,cO k0 ke (v k0 hk (by omega) e)⟩<|ndt (mu hk k0),fun h=>no fun e=>h (by rw[e.2.1])⟩;have eF:=iO hk k1 kl ke;obtain⟨i0,i1,il,ie⟩:=hI;refine⟨fun hi=>?_,fun hi=>ndt ⟨fun _=>⟨iO hi i1 il ie,eF,by rw[e0,e1,e2,e3,e4,e5,e6,e7]⟩,fun _=>rfl⟩⟩;have hi:i<(D.L.map Sl.row).length:=hi;have aa:i<(D2.L.map Sl.row).length:=by omega
 obtain⟨s,s1,s2,s3⟩:=Pa i0 hi;obtain⟨q,q1,q2,q3⟩:=Pa i0 aa;have cl:∀ {α:Type} (f:Dat->α) (j:Nat),¬f (p8 (D.L.map Sl.row) i j)=f (p8 (D2.L.map Sl.row) i j)->vcEql0 (D.L.map Sl.row) (D.free.map l9) b0 x y C E H J M (D2.L.map Sl.row) (D2.free.map l9) O P Q R U V W X:=fun f j h=>no fun e=>h (by rw[e.1]);have Y:∀ {D:DM} {K:Nat},WF D K-> ∀ {s:Sl},D.L[i.toNat]? =some s-> ∃(l:List Att) (c:Ah),s.row.getD 4 (.int 0)= .lst (l.map Att.row)/\s.row.getD 10 (.int 0)= .lst (c.map l9)/\l.length<=8/\c.length<=1000:=fun w s h=>by unfold Sl.row;by_cases hu:s.used=true;rw[QW hu];exact⟨_,_,rfl,rfl,(w.atts _ s h hu).1,w.kidlen h hu⟩;rw[QU hu];exact⟨[],[],rfl,rfl,by simp,by simp⟩
 obtain⟨l,c,a1,a2,a3,a4⟩:=Y w s2;obtain⟨m,d,c1,c2,c3,c4⟩:=Y w2 q2;have e4:cL (D.L.map Sl.row) i 4=l.map Att.row:=by simp only[cL,s3,a1];rfl
 have ab:cL (D2.L.map Sl.row) i 4=m.map Att.row:=by simp only[cL,q3,c1];rfl
 have t:cL (D.L.map Sl.row) i 10=c.map l9:=by simp only[cL,s3,a2];rfl
 have o:cL (D2.L.map Sl.row) i 10=d.map l9:=by simp only[cL,q3,c2];rfl
 refine ndi (by omega)<|ndi hi<|ndi (by omega)<|ndi aa ⟨fun f0=>⟨fun f1=>⟨fun f2=>⟨fun f3=>⟨fun f5=>⟨fun f6=>⟨fun f7=>⟨fun f8=>⟨fun f9=>?_,cl Dat.toInt 9⟩,fun h=>cl Dat.toBool 8 fun e=>h (by unfold cB;rw[e];simp)⟩,cl Dat.toInt 7⟩,cl Dat.toInt 6⟩,cl Dat.toStr 5⟩,cl Dat.toStr 3⟩,cl Dat.toInt 2⟩,fun h=>cl Dat.toBool 1 fun e=>h (by unfold cB;rw[e];simp)⟩,cl Dat.toInt 0⟩;refine ndi ⟨l,m,e4,ab,a3⟩ fun z hz=>⟨fun h=>cl Dat.rows 4 fun e=>by have:=hz.1 e;omega,fun z0=>⟨fun ac=>ndi (p ac) fun n hI=>?_,fun h=>cl (fun d=>ln d.rows) 10 h⟩⟩
 have f4:cL (D.L.map Sl.row) i 4=cL (D2.L.map Sl.row) i 4:=Classical.byContradiction fun h=>z0 (hz.2 h);obtain⟨n0,n1,nl,ne⟩:=hI;rw[t]at n1;rw[t,o]at nl ne⊢;have cd:¬c.map l9=d.map l9->vcEql0 (D.L.map Sl.row) (D.free.map l9) b0 x y C E H J M (D2.L.map Sl.row) (D2.free.map l9) O P Q R U V W X:=fun h=>cl Dat.rows 10 fun e=>h (by rw[<-t,<-o];exact e);refine⟨fun hn=>?_,fun hn=>?_⟩;have hn:n<(c.map l9).length:=hn;exact ndi (by omega)<|ndi hn<|ndi (by omega)<|ndi (show n<(d.map l9).length by omega) ⟨fun e=>ndi (I hn (by rw[QT];exact a4) n0)<|ndi ⟨by omega,by omega,nl,cO n0 ne (v n0 hn (by omega) e)⟩<|ndt (mu hn n0),fun h=>cd fun e=>h (by rw[e])⟩
 ·have Z:=iO hn n1 nl ne;rw[<-t,<-o]at Z;refine ndi (I hi ll i0)<|ndi ⟨by omega,by omega,il,cO i0 ie ?_⟩<|ndt (mu hi i0);have x1:=s.row_eta s3;have x2:=q.row_eta q3;have f1:cB (D.L.map Sl.row) i 1=cB (D2.L.map Sl.row) i 1:=by simpa using f1
  have f8:cB (D.L.map Sl.row) i 8=cB (D2.L.map Sl.row) i 8:=by simpa using f8
  rw[show cI (D.L.map Sl.row) i 0=_ from f0,f1,show cI (D.L.map Sl.row) i 2=_ from f2,show cS (D.L.map Sl.row) i 3=_ from f3,f4,show cS (D.L.map Sl.row) i 5=_ from f5,show cI (D.L.map Sl.row) i 6=_ from f6,show cI (D.L.map Sl.row) i 7=_ from f7,f8,show cI (D.L.map Sl.row) i 9=_ from f9,Z,x2]at x1;simp only[RW,Sa]at x1;rw[s1,q1,x1]
