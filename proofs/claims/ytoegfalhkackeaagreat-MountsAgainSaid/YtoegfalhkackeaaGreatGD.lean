/- Mounts: stripped trees; a tree that is dropped, and one that takes its slots: plain law.
  Conditions: none. -/
import Derived.Test.YtoegfalhkackeaaGreatGB
set_option maxRecDepth 100000
set_option linter.all false
noncomputable section
namespace Go.D
open Go Go.Xe Go.Sx
mutual
def eU :∀s:a9,(strip false s).size=s.size/\(strip false s).depth=s.depth/\strip false (strip false s)=strip false s/\(J3 s->J3 (strip false s))
 | .mk k t y a x c=>by obtain⟨h1,h2,h3,h4,h5,b⟩:=strips_size c;simp only[strip,a9.size,a9.depth,h1,h2,h3];refine⟨trivial,trivial,rfl,fun h=>?_⟩;unfold J3 at h⊢;refine⟨?_,h4 h.2⟩;rcases h.1 with q|q;have d:c=[]:=q.2.2.2.2.2;exact .inl ⟨q.1,q.2.1,q.2.2.1,rfl,q.2.2.2.2.1,by rw[d];rfl⟩;exact .inr ⟨q.1,q.2.1,.inl rfl,q.2.2.2.1,q.2.2.2.2.1,by show(strips false c).length<=16;rw[b];exact q.2.2.2.2.2.1,q.2.2.2.2.2.2.1,q.2.2.2.2.2.2.2.1,by show fV ((strips false c).map a9.y);rw[h5];unfold fV;rw[List.pairwise_map];exact List.pairwise_of_forall fun _ _ h=>absurd rfl h⟩
def strips_size :∀l:List a9,a9.sizes (strips false l)=a9.sizes l/\a9.depths (strips false l)=a9.depths l/\strips false (strips false l)=strips false l/\(AllAs l->AllAs (strips false l))/\(strips false l).map a9.y=l.map (fun _=>[])/\(strips false l).length=l.length
 | []=>⟨rfl,rfl,rfl,id,rfl,rfl⟩
 | .mk k t y a x c::l=>by obtain⟨h1,h2,h3,h4⟩:=eU (.mk k t y a x c);obtain⟨k1,k2,k3,k4,b,d⟩:=strips_size l;simp only[strips,a9.sizes,a9.depths,h1,h2,h3,k1,k2,k3,Um,b,Ue,d];refine⟨trivial,trivial,trivial,fun h=>?_,rfl,trivial⟩;unfold AllAs at h⊢;exact⟨h4 h.1,k4 h.2⟩
end
def Ez {s:a9}(h:w9 s):w9 (strip false s):=by obtain⟨h1,h2,_,h4⟩:=eU s;exact⟨h4 h.1,by rw[h1];exact h.2.1,by rw[h2];exact h.2.2⟩
section
variable {D D1 D2 D':DM}{K r i j k a:Nat}{s n m:a9}{l:Ah}{sl:Sl}
def Rx (w:WF D K)(ht:TA D s a l)(q:s.depth<=6)(hs:D.L[a]? =some sl)(pr:sl.n.par= -1):bel D 1001 a=l/\(fY D a (D.gen a)).2=0/\(fY D a (D.gen a)).1.free=l.reverse++D.free/\(fY D a (D.gen a)).1.L.length=D.L.length/\(fY D a (D.gen a)).1.C.headD 0=D.C.headD 0-l.length/\(∀j,j∉l->(fY D a (D.gen a)).1.L[j]? =D.L[j]?)/\ ∀j∈l,(fY D a (D.gen a)).1.gen j=D.gen j+1:=by
 obtain⟨l',e⟩:=ht.head;obtain⟨sl',h1,h2⟩:=ht.used s a (by rw[e];exact List.mem_cons_self);rw[hs]at h1;cases h1;have g:=Vn hs h2;have hb:bel D 1001 a=l:=ht.bel s (by omega);have hn:=M8 (f:=1001) w hs h2;rw[hb]at hn;obtain⟨p,cl,o⟩:∃a l,D.C=a::l:=by obtain⟨a,b,c,d,e,f,h,h1,_⟩:=w.cnt;exact⟨_,_,h1⟩
 unfold fY;rw[g];simp only;rw[Vp hs,TJ pr];unfold pE;rw[g];simp only;rw[Vp hs,TH (by rw[pr];exact fun h=>h rfl),hb];refine⟨rfl,rfl,iU,nE,?_,fun j hj=>I0 hj,fun j hj=>?_⟩;simp only[o];simp;obtain⟨sj,k1,k2⟩:=ht.used s j hj;unfold DM.gen;rw[iW hn hj k1,k1]
end
open Go Go.Xe Go.Sx
def vcCln :Prop:=
 ∀p q a b c d f g h i j k l m o,Fz (.int p::.int q::JD a b c d f g h i j k l m o)->Ni (ln a) (Nr (ln a)<|Nd (vT (.int p::.int q::JD a b c d f g h i j k l m o))<|∀u v w r x y s,iJ (.int p::.int q::JD a b c d f g h i j k l m o) [.int u,.str v,.str w,.lst r,.str x,.lst y,.int s]->((s=0->Ni (ln r) (Nr (ln r)<|Ni (ln a)<|Nr (ln a)<|Nd (pL (.int u::.str v::.str w::.lst r::.str x::.lst y::JD a b c d f g h i j k l m o))<|∀z A B t C D F G H I J K L M N O,lK (.int u::.str v::.str w::.lst r::.str x::.lst y::JD a b c d f g h i j k l m o) (.int z::.int A::.int B::JD t C D F G H I J K L M N O)->Ni (ln t) (Nr (ln t)<|Nd (AI (.int p::.int q::JD a b c d f g h i j k l m o) (.int z::.int A::.int B::JD t C D F G H I J K L M N O)) True)))/\(¬s=0->Ni (ln a) (Nr (ln a)<|Nd (AI (.int p::.int q::JD a b c d f g h i j k l m o) (.int 0::.int 0::.int s::JD a b c d f g h i j k l m o)) True))))
def vcCln_eq :kq Go.Proofs.Tryz.prog cCln Lu (IT 1) (In 1) 11=vcCln:=by kernel_rfl
def WF.drp {D:DM}{K:Nat}{i g:Int}(w:WF D K)(a:K+2<=1000):WF (fY D i g).1 (K+2):=by unfold fY;split;exact w.mono (by omega) a;split;exact(w.fre (i:=i) (g:=g) (by omega)).mono (by omega) a;exact(w.rem (i:=i) (g:=g) (by omega)).fre (by omega)
def WF.drpL :∀ {l:List (Int×Int)} {D:DM} {K:Nat},WF D K->K+2*l.length<=1000->WF (Go.D.drpL D l) (K+2*l.length)
 | [],D,K,w,_=>w|x::l,D,K,w,h=>by simp only[Ue]at h;have:=WF.drpL (l:=l) (w.drp (i:=x.1) (g:=x.2) (by omega)) (by omega);simp only[Ue];rwa[show K+2*(l.length+1)=K+2+2*l.length by omega]
def vcCln_ok :vcCln:=by
 unfold vcCln;rintro i g S fr lv c0 z A c3 B C E F st N ⟨O,M,D0,p,hR0,f,j⟩;refine nin (nrn (ndi ⟨O,M,D0,p,hR0.1,f⟩ fun k t y a x c r H=>?_));have get:∀ {D K},RlC D S N fr lv [c0,z,A,c3,B,C,E,F]->WF D K->match D.at i g with
   |none=>r=11|some q=>(w9 (J1 D 6 q)->r=0/\isT (J1 D 6 q) k t y a x c)/\(¬w9 (J1 D 6 q)->r=14):=fun{D K} d h=>by
  have:=H D K ⟨fr,lv,d.1⟩ h;split at this;rename_i e;rw[e];exact this;rename_i q e;rw[e];refine⟨fun v=>?_,this.2⟩;obtain⟨h1,s,h2,h3⟩:=this.1 v;rw[oE]at h2;exact⟨h1,by rw[<-h2];exact h3⟩
 have g0:=get hR0 f;refine⟨fun r0=>?_,fun r0=>nin (nrn (ndt ⟨by unfold U32;omega,by unfold U32;omega,Vv,fun D K d h u=>?_⟩))⟩
 ·have h0:∃q,D0.at i g=some q/\w9 (J1 D0 6 q)/\isT (J1 D0 6 q) k t y a x c:=by
   split at g0;omega
   ·rename_i q e;have v:w9 (J1 D0 6 q):=Classical.byContradiction fun n=>by have:=g0.2 n;omega
    exact⟨q,e,v,(g0.1 v).2⟩
  obtain⟨J,w,v0,t0⟩:=h0;refine nin (nrn (nin (nrn (ndi ⟨_,D0,p,t0,hR0,f,j J w⟩ fun Z g' r' S' G I Q R T U V W X Y L P l=>?_))));obtain⟨o,m,hF,l⟩:=l;refine nin (nrn (ndt ⟨o,m,hF,fun D K d h u=>?_⟩));have b:=get d h;split at b;omega
  ·rename_i q e;rw[e];have v:w9 (J1 D 6 q):=Classical.byContradiction fun n=>by have:=b.2 n;omega
   exact⟨fun _=>(l _ D K (b.1 v).2 d h).1 v (u q e v),fun n=>absurd v n⟩
 have b:=get d h;split at b;rename_i e;rw[e];exact⟨d,b⟩;rename_i q e;rw[e];exact⟨fun v=>absurd (b.1 v).1 r0,fun n=>⟨d,b.2 n⟩⟩
def DE :DM:=⟨[],[],[0,0,0,0,0,0,0,0]⟩
def wfE :WF DE 0:=⟨⟨TK _,by omega⟩,fun s h=>by simp[DE]at h,fun i s h=>by simp[DE]at h,fun i s h=>by simp[DE]at h,⟨fun _=>0,fun _=>TK _,fun i s h=>by simp[DE]at h⟩,fun i s h=>by simp[DE]at h,⟨0,0,0,0,0,0,0,rfl,rfl,by omega,by simp⟩,fun i s h=>by simp[DE]at h,⟨List.nodup_nil,fun i h=>by simp[DE]at h⟩⟩
def rlE {N:Sx.Rows}{cs:Ak}(h:∃M:List RN,N=M.map RN.row)(hc:cs=[0,0,0,0,0,0,0,0]):RlC DE [] N 0 0 cs:=by obtain⟨M,e⟩:=h;exact⟨⟨[],M,rfl,e,rfl,fun i s h=>by simp[DE]at h,fun i j ri rj h=>by simp at h,rfl,List.nodup_nil,fun i s h=>by simp[DE]at h,rfl⟩,hc⟩
def yesB {d:Ar}{b:Bool}(h:Dq d [.bool b]):b=true:=by have h: [Dat.bool b]=[.bool true]:=h;simpa using h
def Sm (s:a9):Prop:=w9 s/\s.size<=20
def Sm.cost {s:a9}(h:Sm s):G7 s<=200:=by have:=Du s h.1.1;have:=h.2;omega
def Sm.strip {s:a9}(h:Sm s):Sm (Go.D.strip false s):=⟨Ez h.1,by rw[(eU s).1];exact h.2⟩
structure Mag (n m:a9)(D1 D2 D3 D4 D5:DM)(a b c h:Nat):Prop where
 e1:M2 DE n=(D1,(a:Int),(D1.gen a:Int))
 e2:M2 D1 m=(D2,(b:Int),(D2.gen b:Int))
 e3:M2 D2 (strip false n)=(D3,(c:Int),(D3.gen c:Int))
 e4:fY D3 a (D1.gen a)=(D4,0)
 e5:M2 D4 n=(D5,(h:Int),(D5.gen h:Int))
 w1:WF D1 200
 w2:WF D2 400
 w3:WF D3 600
 w4:WF D4 602
 w5:WF D5 802
 ne:a≠b/\a≠c/\b≠c
 a2:D2.at a (D1.gen a)=some a
 t2:J1 D2 6 a=strip false n
 a3:D3.at a (D1.gen a)=some a
 c3:D3.at c (D3.gen c)=some c
 t3:J1 D3 6 c=strip false n
 h5:D5.at h (D5.gen h)=some h
 len:(bel D3 1001 a).length=n.size
 rev:bel D5 1001 h=(bel D3 1001 a).reverse
 gen:∀j∈bel D3 1001 a,D5.gen j=2
 live:D5.C.headD 0=2*n.size+m.size
 b5:D5.at b (D2.gen b)=some b
 t5:J1 D5 6 b=strip false m
def Fv {D D':DM}{j:Nat}{sl:Sl}(h:D.L[j]? =some sl)(a:sl.used=true)(h':D'.L[j]? =some sl):D'.gen j=D.gen j/\D'.at j (D.gen j)=some j:=by
 have e:D'.gen j=D.gen j:=by rw[Vo h,Vo h']
 have:=Vn h' a;rw[e]at this;exact⟨e,this⟩
def Pp {n m:a9}(o:Sm n)(s:Sm m):∃D1 D2 D3 D4 D5 a b c h,Mag n m D1 D2 D3 D4 D5 a b c h:=by
 have y:=o.strip;have kn:=o.cost;have km:=s.cost;have ks:=y.cost;have Z:=o.1.2.2;have dm:=s.1.2.2;obtain⟨z1,z2,z3,_⟩:=eU n;obtain⟨a,ea,p⟩:=uH n wfE o.1.1 (by omega);have w1:=(WF.mnt n wfE o.1.1 (by omega)).mono (show 0+G7 n<=200 by omega) (by omega);generalize K:(M2 DE n).1=D1 at*;obtain⟨b,eb,k⟩:=uH m w1 s.1.1 (by omega);have w2:=(WF.mnt m w1 s.1.1 (by omega)).mono (show 200+G7 m<=400 by omega) (by omega);generalize M:(M2 D1 m).1=D2 at*;obtain⟨c,ec,d⟩:=uH (strip false n) w2 y.1.1 (by omega);have w3:=(WF.mnt (strip false n) w2 y.1.1 (by omega)).mono (show 400+G7 (strip false n)<=600 by omega) (by omega);generalize N:(M2 D2 (strip false n)).1=D3 at*;obtain⟨w,v,r,pa,_⟩:=p.own;obtain⟨x,F,z,pb,_⟩:=k.own;obtain⟨sc,c3,uc,pc,G⟩:=d.own;have a2:=k.gw.old a w v r id;have a3:=d.gw.old a w a2 r id;have b3:=d.gw.old b x F z id;obtain⟨aa,A⟩:=Fv v r a2;obtain⟨I,B⟩:=Fv v r a3;have R:a≠b:=fun e=>by have:=k.un w1 (sl:=w) (by rw[<-e];exact v);rw[r]at this;cases this
 have S:a≠c:=fun e=>by have:=d.un w2 (sl:=w) (by rw[<-e];exact a2);rw[r]at this;cases this
 have T:b≠c:=fun e=>by have:=d.un w2 (sl:=x) (by rw[<-e];exact F);rw[z]at this;cases this
 have t:=k.gw.ta p.ta fun _ _=>id;have u:=d.gw.ta t fun _ _=>id;have W:=d.gw.ta k.ta fun _ _=>id;obtain⟨V,q2,q3,q4,q5,q6,q7⟩:=Rx w3 u Z a3 pa;have w4:=w3.drp (i:=a) (g:=(D3.gen a:Int)) (by omega);generalize O:(fY D3 a (D3.gen a)).1=D4 at*;have e4:fY D3 a (D1.gen a)=(D4,0):=by rw[<-I];exact Prod.ext O q2
 have off:∀j∈D1.nx m.size,j∉DE.nx n.size:=fun j hj Q=>by obtain⟨sl,k1,k2⟩:=p.ta.used n j Q;have:=Ij w1 hj k1;rw[k2]at this;cases this
 have X:TA D4 m b (D1.nx m.size):=W.frame m fun j hj=>by unfold vw;rw[q6 j (off j hj)]
 obtain⟨lb,H⟩:=k.ta.head;have b4:D4.L[b]? =some x:=(q6 b (off b (by rw[H];exact List.mem_cons_self))).trans b3;obtain⟨h,eh,q⟩:=uH n w4 o.1.1 (by omega);have w5:=(WF.mnt n w4 o.1.1 (by omega)).mono (show 602+G7 n<=802 by omega) (by omega);generalize P:(M2 D4 n).1=D5 at*;obtain⟨sh,h5,uh,ph,J⟩:=q.own;have Y:=q.gw.ta X fun _ _=>id;have b5:=q.gw.old b x b4 z id;obtain⟨ab,E⟩:=Fv F z b5;have ln:(DE.nx n.size).length=n.size:=Bk;have U:D4.nx n.size=(DE.nx n.size).reverse:=by show Go.D.nx _ _ _=_;rw[q3];have:=Ii (f:=(DE.nx n.size).reverse) (l:=D3.free) (n:=D4.L.length);rwa[List.length_reverse,ln]at this
 have hC:DE.C.headD 0=0:=rfl;have l1:=p.gw.cnt;have l2:=k.gw.cnt;have l3:=d.gw.cnt;have l5:=q.gw.cnt;refine⟨D1,D2,D3,D4,D5,a,b,c,h,Prod.ext K ea,Prod.ext M eb,Prod.ext N ec,e4,Prod.ext P eh,w1,w2,w3,w4,w5,⟨R,S,T⟩,A,t.tre n o.1.1 Z,B,G,?_,J,by rw[V,ln],?_,fun j hj=>?_,by omega,E,Y.tre m s.1.1 dm⟩;rw[d.ta.tre _ y.1.1 (by omega),z3];rw[V,q.ta.bel n (by omega),U];rw[V]at hj;obtain⟨s3,k1,k2⟩:=u.used n j hj;obtain⟨s1,k3,k4⟩:=p.ta.used n j hj;have j3:=(Tn.1 k1).1;have j1:=(Tn.1 k3).1;have x1:=k.gw.len;rw[q.gw.gen j (by omega),q7 j hj,d.gw.gen j (by omega),k.gw.gen j j1,p.gw.new j (UY _) j1]
