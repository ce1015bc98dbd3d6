/- The DOM: changes of which children a node has: lists, and what is common to Insert, Remove and Move.
  Conditions: none. -/
import Derived.Test.YtoegfalhkackeaaGreatB9
set_option linter.all false
noncomputable section
namespace Go.D
open Go Go.Xe Go.Sx
section
variable {G :Nat->Nat}{c:Nat}{a:Nat}
def Pc {j:Nat}(h:((z9 G j).getD 0 (.int 0)).toInt=(c:Int)/\((z9 G j).getD 1 (.int 0)).toInt=(G c:Int)):j=c:=by have h:(j:Int)=c:=h.1;omega
def AX :∀ {l:Ah} {k:Int},ixF (l.map (z9 G)) c (G c) k=if c∈l then k+(l.idxOf c:Nat)else-1
 | [],k=>rfl|j::l,k=>by
  rw[Um,tS,AX (l:=l)];by_cases e:j=c;subst e;rw[TJ ⟨rfl,rfl⟩,TJ (by simp)];simp
  ·rw[TH fun h=>e (Pc h)];by_cases m:c∈l
   ·rw[TJ m,TJ (by simp[m]),List.idxOf_cons];have:(j==c)=false:=by simpa using e
    rw[this];simp;omega
   rw[TH m,TH (by simp[m];exact fun h=>e h.symm)]
def Ce :∀ {l:Ah},l.Nodup->c∈l->l.take (l.idxOf c)++l.drop (l.idxOf c+1)=aQ l c
 | [],_,h=>by simp at h|j::l,hn,h=>by
  obtain⟨h1,h2⟩:=List.nodup_cons.1 hn;unfold aQ;rw[List.idxOf_cons];by_cases e:j=c;subst e;simp;exact(List.filter_eq_self.2 fun x hx=>by simp;rintro rfl;exact h1 hx).symm
  ·have he:(j==c)=false:=by simpa using e
   have hm:c∈l:=by rcases TZ.1 h with h|h;exact absurd h.symm e;exact h
   rw[he];have:=Ce h2 hm;unfold aQ at this;simp[e,this]
def Ip :∀ {l:Ah},a∉l->(l.flatMap fun(x:Nat)=>if(x:Int)=(a:Int)then [c,x]else [x])=l
 | [],_=>rfl|j::l,h=>by have h1:¬(j:Int)=a:=fun e=>h (by simp[show j=a by omega]);rw[List.flatMap_cons,TH h1,Ip fun m=>h (by simp[m])];rfl
def GA :∀ {l:Ah},l.Nodup->a∈l->l.take (l.idxOf a)++ [c]++l.drop (l.idxOf a)=gC l c a
 | [],_,h=>by simp at h|j::l,hn,h=>by
  obtain⟨h1,h2⟩:=List.nodup_cons.1 hn;unfold gC;rw[TH (by omega),UV,List.idxOf_cons,List.flatMap_cons];by_cases e:j=a;subst e;rw[TJ rfl,Ip h1];simp
  ·have he:(j==a)=false:=by simpa using e
   have hm:a∈l:=by rcases TZ.1 h with h|h;exact absurd h.symm e;exact h
   have h3:¬(j:Int)=a:=by omega
   rw[he,TH h3];have:=GA h2 hm;unfold gC at this;rw[TH (by omega),UV]at this;rw[<-this];simp
def Bs {l:Ah}{z:Int}(h:z<0):gC l c z=l++ [c]:=by
 unfold gC;rw[TJ h];congr 1;induction l with
 |nil=>rfl|cons j l b=>rw[List.flatMap_cons,TH (by omega),b];rfl
end
section
variable {D :DM}{S N S' N':Sx.Rows}{fr lv i g j m x y:Int}{K c p k:Nat}{G:Nat->Nat}{cs:Ak}{Lr:Sx.Rows}
def Rl.flds (h:Rl G D S N fr lv)(hk:D.at i g=some c):∃s,D.L[c]? =some s/\s.used=true/\D.nod c=s.n/\i=c/\(s.g:Int)=g/\0<=atF S i g/\atF S i g<N.length/\cI N (atF S i g) 0=s.n.kind/\cI N (atF S i g) 7=hI s.n.par/\cI N (atF S i g) 8=hG' G s.n.par/\cL N (atF S i g) 9=s.n.ch.map (z9 G):=by obtain⟨s,h1,h2,h3,h4,h5,d,b⟩:=h.node hk;refine⟨s,h1,h3,Vp h1,h2,h4,h5,d,?_,?_,?_,?_⟩;unfold cI;rw[b];rfl;unfold cI;rw[b];rfl;unfold cI;rw[b];rfl;unfold cL;rw[b];rfl
def DM.setN_at {q:Nod->Nod}:(D.setN p q).at i g=D.at i g:=by unfold DM.at DM.setN;simp only[m9];by_cases e:p=i.toNat<;>cases D.L[i.toNat]? <;>simp[e]
variable {s:Sl}
def DM.gen_of (h:D.L[c]? =some s):D.gen c=s.g:=by unfold DM.gen;rw[h]
def Vo:type_of% @DM.gen_of:=@DM.gen_of
def DM.kids_gen {l:Ah}{z:Int}:(D.kids p c l z k).gen=D.gen:=by unfold DM.kids;have:∀D:DM,(D.cnt k).gen=D.gen:=fun _=>rfl;rw[this,DM.setN_gen,DM.setN_gen]
def Bo {f:DM->DM×Prop}(hf:∀D K,RlC D S N fr lv cs->WF D K-> ∃p c l z,D.at i g=some p/\D.at j m=some c/\(f D).1=D.kids p c l z k/\(f D).2/\Lr=l.map (z9 D.gen)/\x=hI z/\y=hG' D.gen z)(h0:∃D K,RlC D S N fr lv cs/\WF D K){cs':Ak}(h:cs'=cs.modify k (· +1)):nP S N fr lv cs S (i6 (i6 (i6 N (atF S i g) 9 (.lst Lr)) (atF S j m) 7 (.int x)) (atF S j m) 8 (.int y)) fr lv cs' f:=by
 have e:i6 (i6 (i6 N (atF S i g) 9 (.lst Lr)) (atF S j m) 7 (.int x)) (atF S j m) 8 (.int y)=(N.modify (atF S i g).toNat fun r=>r.set 9 (.lst Lr)).modify (atF S j m).toNat fun r=>(r.set 7 (.int x)).set 8 (.int y):=by unfold i6;rw[N8 (L:=N.modify _ _)]
 rw[e,h];refine⟨?_,fun D K b d=>?_⟩;obtain⟨D,K,b,d⟩:=h0;obtain⟨p,c,l,z,h1,h2,_⟩:=hf D K b d;exact b.1.frame h2 (b.1.frame h1 Vv);obtain⟨p,c,l,z,h1,h2,h3,h4,rfl,rfl,rfl⟩:=hf D K b d;refine⟨?_,h4⟩;rw[h3];refine⟨?_,by rw[b.2];rfl⟩;rw[DM.kids_gen];have s1:=b.1.mod h1 (q:=fun n=> {n with ch:=l}) (q':=fun r=> {r with c:=l.map (z9 D.gen)}) (F:=fun r=>r.set 9 (.lst (l.map (z9 D.gen)))) (fun _=>rfl) (fun _=>rfl);have s2:=s1.mod (i:=j) (g:=m) (c:=c) (by rw[DM.setN_at];exact h2) (q:=fun n=> {n with par:=z}) (q':=fun r=> {r with pi:=hI z,pg:=hG' D.gen z}) (F:=fun r=>(r.set 7 (.int (hI z))).set 8 (.int (hG' D.gen z))) (fun _=>rfl) (fun _=>rfl);exact s2.cnt k
variable {rest:Ar}{Q:Int->Prop}
def aV {a b:Int}(h:U32 i/\U32 g/\S.length<=1000)(k:Q (atF S i g)):Ni a (Nr b (Sx.Nd (H8 (.int i:: .int g:: .lst S::rest)) (∀p,G2 (.int i:: .int g:: .lst S::rest) [.int p]->Q p))):=
 nin (nrn (ndi h fun p hp=>by have hp:p=atF S i g:=hp;subst hp;exact k))
def kH {a b:Int}{Q:Bool->Prop}(h:U32 i/\U32 g/\S.length<=1000)(k:Q (K0 S i g)):Ni a (Nr b (Sx.Nd (V9 (.int i:: .int g:: .lst S::rest)) (∀p,M5 (.int i:: .int g:: .lst S::rest) [.bool p]->Q p))):=
 nin (nrn (ndi h fun p hp=>by have hp:p=K0 S i g:=hp;subst hp;exact k))
def CO {q:Int}(h:U32 i/\U32 g/\0<=q/\q<N.length/\(cL N q 9).length<=1000)(k:Q (plF (cL N q 9) i g)):Sx.Nd (eO [.int q,.int i,.int g,.lst N]) (∀p,cG [.int q,.int i,.int g,.lst N] [.int p]->Q p):=
 ndi h fun p hp=>by have hp:p=plF (cL N q 9) i g:=hp;subst hp;exact k
def P3 {q:Int}{Q:Prop}(h0:0<=q)(h1:q<N.length)(k:Q):Sx.Nd (¬q<0) (Sx.Nd (q<ln N) Q):=ndi (by omega) (ndi h1 k)
def WF.kidlen (w:WF D K)(h:D.L[c]? =some s)(b:s.used=true):s.n.ch.length<=1000:=by
 obtain⟨h1,h2⟩:=w.ch c s h b;have:s.n.ch.length<=D.L.length:=by
  have hs:s.n.ch ⊆ List.range D.L.length:=fun j hj=>by obtain⟨sj,h3,_⟩:=h2 j hj;exact List.mem_range.2 (Tn.1 h3).1
  have:=h1.length_le_of_subset hs;simpa using this
 have:=w.lim;omega
def WF.hI_zero (w:WF D K)(h:D.L[c]? =some s)(d:s.used=true):(hI s.n.par=0/\hG' D.gen s.n.par=0)↔s.n.par= -1:=by
 rcases w.par c s h d with e| ⟨q,b,e,h1,h2,h3⟩;rw[e];simp[hI,hG']
 ·rw[e];have hg:hG' D.gen (q:Int)=b.g:=by unfold hG';rw[TH (by omega),Uc,Vo h1]
  rw[hg];have:=w.gen b (Tv h1);constructor;intro h;omega;intro h;omega
end
section
variable {D :DM}{S N S' N':Sx.Rows}{fr lv i g j m x y:Int}{K c p k:Nat}{G:Nat->Nat}{cs:Ak}{Lr:Sx.Rows}
def Rl.par (h:Rl D.gen D S N fr lv)(w:WF D K)(hk:D.at i g=some c)(hp:(D.nod c).par≠ -1):∃(q:Nat) (a:Sl),(D.nod c).par=q/\D.at (cI N (atF S i g) 7) (cI N (atF S i g) 8)=some q/\D.L[q]? =some a/\a.used=true/\D.nod q=a.n/\c∈a.n.ch/\a.n.ch.Nodup/\a.n.ch.length<=1000/\cL N (atF S (cI N (atF S i g) 7) (cI N (atF S i g) 8)) 9=a.n.ch.map (z9 D.gen)/\plF (a.n.ch.map (z9 D.gen)) i g=(a.n.ch.idxOf c:Nat)/\0<=atF S (cI N (atF S i g) 7) (cI N (atF S i g) 8)/\atF S (cI N (atF S i g) 7) (cI N (atF S i g) 8)<N.length/\U32 (cI N (atF S i g) 7)/\U32 (cI N (atF S i g) 8):=by
 obtain⟨s,h1,h2,h3,h4,h5,C,E,F,H,o,r⟩:=h.flds hk;obtain⟨s',k1,k2,k3,k4,t⟩:=IZ h w hk;rw[h1]at k1;cases k1;rw[h3]at hp⊢;rcases t with⟨e,_⟩| ⟨q,e,hq,a,b,d,l⟩;exact absurd e hp
 ·obtain⟨B,r1,J,v,M,O,z,A,P,Q,u,f⟩:=h.flds hq;rw[b]at r1;cases r1;have I:=w.u32 hk;have hg:g=(D.gen c:Int):=by rw[Vo h1,h5]
  refine⟨q,a,e,hq,b,d,v,l,(w.ch q a b d).1,w.kidlen b d,f,?_,z,A,(w.u32 hq).1,(w.u32 hq).2.1⟩;unfold plF;rw[TH (by omega),h4,hg,AX,TJ l];omega
def tQ {l:Ah}(h:c∈l):l.idxOf c<l.length:=List.idxOf_lt_length_of_mem h
def vcRem0_ok (i g:Int){S st N:Sx.Rows}{fr lv c0 O P c3 Q R T U:Int}(hp:∃D K,RlC D S N fr lv [c0,O,P,c3,Q,R,T,U]/\WF D K)(hv:K0 S i g=true)(hi:U32 i)(hg:U32 g)(hn:¬(cI N (atF S i g) 7=0/\cI N (atF S i g) 8=0)):vcRem0 S i g fr lv c0 O P c3 Q R T U st N:=by
 have hp':=hp;obtain⟨D,K,⟨J,hc⟩,u⟩:=hp;have a:=J.slen u;have facts:∀ {D K},RlC D S N fr lv [c0,O,P,c3,Q,R,T,U]->WF D K-> ∃c,D.at i g=some c/\(D.nod c).par≠ -1:=by intro D K H u;obtain⟨c,hk⟩:=H.1.vld.1 hv;obtain⟨s,h1,h2,h3,h4,h5,E,F,h8,Y,C,V⟩:=H.1.flds hk;refine⟨c,hk,fun e=>hn ?_⟩;rw[Y,C];exact(u.hI_zero h1 h2).2 (by rw[<-h3];exact e)
 obtain⟨c,hk,d⟩:=facts ⟨J,hc⟩ u;obtain⟨q,f,e1,e2,e3,e4,e5,I,W,X,B,v,r,o,w,A⟩:=J.par u hk d;obtain⟨s,h1,h2,h3,h4,h5,E,F,h8,Y,C,V⟩:=J.flds hk;have ix:=tQ I;unfold vcRem0;refine aV ⟨hi,hg,a⟩ (P3 E F (aV ⟨hi,hg,a⟩ (P3 E F (aV ⟨w,A,a⟩ (CO ⟨hi,hg,r,o,by rw[B,TG];exact X⟩ (P3 r o fun b=>?_))))));have L:ln (cL N (atF S (cI N (atF S i g) 7) (cI N (atF S i g) 8)) 9)=(f.n.ch.length:Int):=by rw[B];simp[ln]
 have M:plF (cL N (atF S (cI N (atF S i g) 7) (cI N (atF S i g) 8)) 9) i g=(f.n.ch.idxOf c:Nat):=by rw[B,v]
 refine⟨fun _ h=>?_,fun _=>ndi (by rw[L];omega) ⟨fun _=>?_,fun h=>?_⟩⟩;rw[L]at h;omega
 ·refine ndi (by rw[M];unfold I64;omega) (nin (ndi (by rw[M];omega) (ndi (by omega) (ndi (by rw[L,M];omega) (aV ⟨w,A,a⟩ (aV ⟨hi,hg,a⟩ ?_))))));refine P3 r o (P3 E F (ndi (by omega) (ndi ?_ (ndi o (P3 E F (ndi (u.i64 (k:=4) (by rw[<-hc];rfl)) (nin (nrn (ndt ?_)))))))));rw[M,B];simp[ln,pQ,d8];omega
  ·refine Bo (k:=4) (fun D K H u=>?_) hp' rfl;obtain⟨c,hk,d⟩:=facts H u;obtain⟨q,f,e1,e2,e3,e4,e5,I,W,X,B,v,r,o,w,A⟩:=H.1.par u hk d;have ix:=tQ I;refine⟨q,c,aQ f.n.ch c, -1,e2,hk,?_,?_,?_,rfl,rfl⟩;unfold Bx;rw[hk];simp only;rw[TH d,e1,Uc,e5];unfold Bx;rw[hk];simp only;rw[TH d]
   ·rw[B,v];have z:d8 2 0 []++f.n.ch.map (z9 D.gen)=f.n.ch.map (z9 D.gen):=rfl;rw[z,X6,X6,<-Ui,X6,<-Ce W I];congr 1;have l1:ln (f.n.ch.map (z9 D.gen))=(f.n.ch.length:Int):=by simp[ln]
    rw[l1];generalize f.n.ch.idxOf c=t at*;have Z:((t:Int)+1).toNat=t+1:=by omega
    have a2:((f.n.ch.length:Int)-((t:Int)+1)).toNat=f.n.ch.length-(t+1):=by omega
    rw[Z,a2,Uc,Int.toNat_zero,UZ,UZ,Uk (l:=f.n.ch.drop (t+1)) (by simp)];rw[Uk (by simp;omega)]
 rw[L]at h;omega
def vcRem_ok :vcRem:=by unfold vcRem;intro i g S fr lv c0 v w c3 z A B C st N h;obtain⟨hi,hg,hp⟩:=h;have hp':=hp;obtain⟨D,K,⟨o,hc⟩,l⟩:=hp;have a:=o.slen l;refine kH ⟨hi,hg,a⟩ ⟨fun hv=>?_,fun hv=>nin (nrn (ndt (N9 fun D K f l=>?_)))⟩;obtain⟨c,hk⟩:=o.vld.1 hv;obtain⟨s,h1,h2,h3,h4,h5,q,r,u,t,b,n⟩:=o.flds hk;refine aV ⟨hi,hg,a⟩ (P3 q r ⟨fun d=>⟨fun e=>nin (nrn (ndt (N9 fun D K f l=>?_))),fun e=>vcRem0_ok i g hp' hv hi hg fun h=>e h.2⟩,fun d=>vcRem0_ok i g hp' hv hi hg fun h=>d h.1⟩);obtain⟨c,hk⟩:=f.1.vld.1 hv;obtain⟨s,h1,h2,h3,h4,h5,q,r,u,t,b,n⟩:=f.1.flds hk;rw[t]at d;rw[b]at e;have:=(l.hI_zero h1 h2).1 ⟨d,e⟩;unfold Bx;rw[hk];simp only;rw[TJ (by rw[h3];exact this)];exact⟨rfl,rfl⟩;unfold Bx;rw[f.1.none hv];exact⟨rfl,rfl⟩
