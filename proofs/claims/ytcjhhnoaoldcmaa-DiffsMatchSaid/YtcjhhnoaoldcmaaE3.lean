/- What DiffsMatch computes: its condition holds.
  Conditions: none. -/
import Derived.Test.YtcjhhnoaoldcmaaE2
import Derived.Test.YtcjhhnoaoldcmaaD8
set_option linter.unusedVariables false
set_option linter.unusedSimpArgs false
namespace Go.D
open Go Go.Xe Go.Sx
open Go.C36 (row A2 lis cLong cRlong longPre longRel rlongPre rlongRel)
theorem ov8 {a0 a1 a2 a3 a4 a5 a6 a7 w z : Int} (h : 1 ≤ w ∧ w ≤ 6) :
  let O:=Sx.over (Sx.chunk 1 8 [(.int a0),(.int a1),(.int a2),(.int a3),(.int a4),(.int a5),(.int a6),(.int a7)]) w (Sx.chunk 1 1 [(.int z)])
  cI O 0 0=a0/\cI O 1 0=(if w=1 then z else a1)/\cI O 2 0=(if w=2 then z else a2)/\cI O 3 0=(if w=3 then z else a3)/\cI O 4 0=(if w=4 then z else a4)/\cI O 5 0=(if w=5 then z else a5)/\cI O 6 0=(if w=6 then z else a6)/\cI O 7 0=a7:=by
 have:w=1\/w=2\/w=3\/w=4\/w=5\/w=6:=by omega
 rcases this with rfl|rfl|rfl|rfl|rfl|rfl<;>exact⟨rfl,rfl,rfl,rfl,rfl,rfl,rfl,rfl⟩
theorem gt8 {a0 a1 a2 a3 a4 a5 a6 a7 w:Int}(h:1<=w/\w<=6):cI (Sx.chunk 1 8 [(.int a0),(.int a1),(.int a2),(.int a3),(.int a4),(.int a5),(.int a6),(.int a7)]) w 0=if w=1 then a1 else if w=2 then a2 else if w=3 then a3 else if w=4 then a4 else if w=5 then a5 else a6:=by
 have:w=1\/w=2\/w=3\/w=4\/w=5\/w=6:=by omega
 rcases this with rfl|rfl|rfl|rfl|rfl|rfl<;>rfl
theorem tmod8 {w:Int}(h:1<=w/\w<=6):w.tmod 8=w:=by
 have:w=1\/w=2\/w=3\/w=4\/w=5\/w=6:=by omega
 rcases this with rfl|rfl|rfl|rfl|rfl|rfl<;>rfl
theorem cnt_step (k:Int){S:Sx.Rows}{i:Int}(h0:0<=i)(hi:i<ln S):(cnt k 0 (S.take (i+1).toNat):Int)=cnt k 0 (S.take i.toNat)+if cI S i 0=k/\ln (cL S i 1)=0 then 1 else 0:=by
 obtain⟨r,hr⟩:=Sx.get_at h0 hi
 have e1:cI S i 0=wh r:=by simp only[cI,A1,wh,bI5 (l:=S),hr];rfl
 have e2:ln (cL S i 1)=pln r:=by simp only[cL,ln,A1,pln,bI5 (l:=S),hr];rfl
 rw[take_step h0 hr,cnt_app,e1,e2]
 unfold cnt
 by_cases h:wh r=k/\pln r=0
 ·rw[List.filter_cons_of_pos (by simpa using h),bH6 ⟨h.1,by omega⟩];simp
 ·rw[List.filter_cons_of_neg (by simpa using h),bH4 (fun c=>h ⟨c.1,by omega⟩)];simp
theorem cI_irow {l:List Bool}{i:Int}{b:Bool}(h:l[i.toNat]? =some b):cI (l.map irow) i 0=if b then 1 else 0:=by
 unfold cI A1
 simp only[bI5,bK4,h];rfl
theorem wn_inv {m:List Int}{i k j:Int}:wnInv [.lst (m.map row),.lst ((stayM m).map irow)] [.int i,.int k,.int j]↔0<=i/\i<=(m.length:Int)/\k=(pl (m.take i.toNat)).length/\0<=j/\k=j+mvs (m.take i.toNat) ((stayM m).take i.toNat):=by
 simp only[wnInv,ln,bH3,rowm_eq,bP3,bJ8]
theorem wn_mu {W I:Sx.Rows}{i k j k' j':Int}(h:i<ln W):wnMu [.lst W,.lst I] [.int (i+1),.int k',.int j']<wnMu [.lst W,.lst I] [.int i,.int k,.int j]:=by
 show((W.length:Int)-(i+1)).toNat<((W.length:Int)-i).toNat
 simp only[ln]at h;omega
theorem wn_step {m : List Int} {i k j : Int} {b : Bool} (h : wnInv [.lst (m.map row), .lst ((stayM m).map irow)] [.int i, .int k, .int j]) (hi : i < (m.length : Int)) (hb : (stayM m)[i.toNat]? = some b) :
  (m.getD i.toNat 0<0->wnInv [.lst (m.map row),.lst ((stayM m).map irow)] [.int (i+1),.int k,.int j])/\(¬m.getD i.toNat 0<0->wnInv [.lst (m.map row),.lst ((stayM m).map irow)] [.int (i+1),.int (k+1),.int (j+if b then 1 else 0)]):=by
 obtain⟨h0,h1,hk,hj,he⟩:=wn_inv.1 h
 have hv:=getD_at (l:=m) (d:=0) h0 hi
 generalize m.getD i.toNat 0=v at*
 have hq:=stay_len m
 have hmv:=mvs_snoc (m.take i.toNat) ((stayM m).take i.toNat) v b (by rw[bI9,bI9,hq])
 refine⟨fun c=>wn_inv.2 ⟨by omega,by omega,?_,hj,?_⟩,fun c=>wn_inv.2 ⟨by omega,by omega,?_,by cases b<;>simp<;>omega,?_⟩⟩
 ·rw[take_step h0 hv,pl_snoc,bH4 (by omega)];exact hk
 ·rw[take_step h0 hv,take_step h0 hb,hmv,bH4 (by omega)];exact he
 ·rw[take_step h0 hv,pl_snoc,bH6 (by omega),bI1];simp;omega
 ·rw[take_step h0 hv,take_step h0 hb,hmv]
  cases b
  ·have:(if 0<=v/\false=false then 1 else 0)=1:=bH6 ⟨by omega,rfl⟩
   rw[this]
   simp only[bM6,bO5];omega
  ·have:(if 0<=v/\true=false then 1 else 0)=0:=bH4 fun c=>by cases c.2
   rw[this]
   simp only[bO6];omega
theorem cu_mu {S:Sx.Rows}{i:Int}{l l':List Dat}(h:i<ln S):cuMu [.lst S] (.int (i+1)::l')<cuMu [.lst S] (.int i::l):=by
 show((S.length:Int)-(i+1)).toNat<((S.length:Int)-i).toNat
 simp only[ln]at h;omega
theorem wh_at {S:Sx.Rows}{i a b:Int}{p:Nat}(h:SOK a b p S)(h0:0<=i)(hi:i<ln S):a<=cI S i 0/\cI S i 0<=b:=by
 obtain⟨r,hr⟩:=Sx.get_at h0 hi
 have e1:cI S i 0=wh r:=by simp only[cI,A1,wh,bI5 (l:=S),hr];rfl
 rw[e1]
 exact⟨(h r (bG4 hr)).1,(h r (bG4 hr)).2.1⟩
theorem cu_goal {S : Sx.Rows} {i c0 c1 c2 c3 c4 c5 c6 c7 : Int} (h0 : 0 ≤ i) (hi : i ≤ ln S) (b0 : 0 ≤ c0 ∧ c0 ≤ i) (b1 : 0 ≤ c1 ∧ c1 ≤ i) (b2 : 0 ≤ c2 ∧ c2 ≤ i) (b3 : 0 ≤ c3 ∧ c3 ≤ i) (b4 : 0 ≤ c4 ∧ c4 ≤ i) (b5 : 0 ≤ c5 ∧ c5 ≤ i) (b6 : 0 ≤ c6 ∧ c6 ≤ i) (b7 : 0 ≤ c7 ∧ c7 ≤ i)
  (e4:c4=cnt 4 0 (S.take i.toNat)) (e5:c5=cnt 5 0 (S.take i.toNat)) (e6:c6=cnt 6 0 (S.take i.toNat)):cuInv [.lst S] [.int i,.int c0,.int c1,.int c2,.int c3,.int c4,.int c5,.int c6,.int c7]:=
 ⟨h0,hi,fun c hc=>by
  simp only[bJ2,List.not_mem_nil,or_false]at hc
  rcases hc with rfl|rfl|rfl|rfl|rfl|rfl|rfl|rfl<;>assumption,fun _=>⟨e4,e5,e6⟩⟩
theorem cu_step {S : Sx.Rows} {n a0 a1 a2 a3 a4 a5 a6 a7 : Int} (sok : SOK 1 6 0 S) (h : cuInv [.lst S] [.int n, .int a0, .int a1, .int a2, .int a3, .int a4, .int a5, .int a6, .int a7]) (hn : n < ln S) :
  let C:=Sx.chunk 1 8 [(.int a0),(.int a1),(.int a2),(.int a3),(.int a4),(.int a5),(.int a6),(.int a7)]
  let O:=Sx.over C (cI S n 0) (Sx.chunk 1 1 [.int (cI C (cI S n 0) 0+1)])
  0<=cI C (cI S n 0) 0/\cI C (cI S n 0) 0<=n/\(ln (cL S n 1)=0->cuInv [.lst S] [.int (n+1),.int (cI O 0 0),.int (cI O 1 0),.int (cI O 2 0),.int (cI O 3 0),.int (cI O 4 0),.int (cI O 5 0),.int (cI O 6 0),.int (cI O 7 0)])/\
   (¬ln (cL S n 1)=0->cuInv [.lst S] [.int (n+1),.int a0,.int a1,.int a2,.int a3,.int a4,.int a5,.int a6,.int a7]):=by
 intro C O
 obtain⟨n0,n1,hb,hc⟩:=h
 obtain⟨e4,e5,e6⟩:=hc sok
 have b0:=hb a0 (by simp)
 have b1:=hb a1 (by simp)
 have b2:=hb a2 (by simp)
 have b3:=hb a3 (by simp)
 have b4:=hb a4 (by simp)
 have b5:=hb a5 (by simp)
 have b6:=hb a6 (by simp)
 have b7:=hb a7 (by simp)
 obtain⟨w1,w2⟩:=wh_at sok n0 hn
 have q4:=cnt_step 4 n0 hn
 have q5:=cnt_step 5 n0 hn
 have q6:=cnt_step 6 n0 hn
 rw[<-e4]at q4
 rw[<-e5]at q5
 rw[<-e6]at q6
 have hg:cI C (cI S n 0) 0=_:=gt8 ⟨w1,w2⟩
 obtain⟨o0,o1,o2,o3,o4,o5,o6,o7⟩:=ov8 (a0:=a0) (a1:=a1) (a2:=a2) (a3:=a3) (a4:=a4) (a5:=a5) (a6:=a6) (a7:=a7) (z:=cI C (cI S n 0) 0+1) ⟨w1,w2⟩
 have hg0:0<=cI C (cI S n 0) 0/\cI C (cI S n 0) 0<=n:=by
  rw[hg]
  repeat' split
  all_goals omega
 refine⟨hg0.1,hg0.2,fun hp=>?_,fun hp=>?_⟩
 ·show cuInv _ [.int (n+1),.int (cI (Sx.over C _ _) 0 0),.int (cI (Sx.over C _ _) 1 0),.int (cI (Sx.over C _ _) 2 0),.int (cI (Sx.over C _ _) 3 0),.int (cI (Sx.over C _ _) 4 0),.int (cI (Sx.over C _ _) 5 0),.int (cI (Sx.over C _ _) 6 0),.int (cI (Sx.over C _ _) 7 0)]
  rw[o0,o1,o2,o3,o4,o5,o6,o7]
  generalize cI C (cI S n 0) 0=g at*
  generalize cI S n 0=w at*
  refine cu_goal (by omega) (by omega) (by omega) ?_ ?_ ?_ ?_ ?_ ?_ (by omega) ?_ ?_ ?_
  any_goals (split<;>omega)
 ·refine cu_goal (by omega) (by omega) (by omega) (by omega) (by omega) (by omega) (by omega) (by omega) (by omega) (by omega) ?_ ?_ ?_
  ·rw[q4,bH4 (fun d=>hp d.2)];omega
  ·rw[q5,bH4 (fun d=>hp d.2)];omega
  ·rw[q6,bH4 (fun d=>hp d.2)];omega
theorem vcDm_ok :vcDm:=by
 unfold vcDm
 rintro t1 y1 C1 t2 y2 C2 ⟨p1,p2,p3,p4,p5,p6⟩
 simp only[Nd,Nr,Ni]
 refine⟨⟨p1,p2,p3⟩,fun _ _ _ _ _ _ _ ⟨s,⟨hsk,hst,hsy,hsa,hsx,hsc⟩,v,k1⟩=>⟨⟨p4,p5,p6⟩,fun _ _ _ _ _ _ _ ⟨s0,⟨h0k,_,h0y,h0a,h0x,h0c⟩,v0,k0⟩=>?_⟩⟩
 subst hsk;subst hst;subst hsy;subst hsa;subst hsx;subst hsc;subst h0k;subst h0y;subst h0a;subst h0x;subst h0c
 obtain⟨A,vs,vd⟩:=v
 obtain⟨A0,vs0,vd0⟩:=v0
 have hA:=(AllA_iff s).1 A
 have hA0:=(AllA_iff s0).1 A0
 obtain⟨u,hu,vu,uc⟩:∃u:Tree,isT u s0.k s.t s0.y (s0.a.map Att.row) s0.x (rows s0.c)/\Valid u/\u.c=s0.c:=by
  refine⟨.mk s0.k s.t s0.y s0.a s0.x s0.c,⟨rfl,rfl,rfl,rfl,rfl,rfl⟩,⟨(AllA_iff _).2 ⟨?_,hA0.2⟩,?_,?_⟩,rfl⟩
  ·rcases hA.1 with c|c
   ·have:=c.1;omega
   ·rcases hA0.1 with d|d
    ·have:=d.1;omega
    ·exact .inr ⟨d.1,c.2.1,d.2.2⟩
  ·rw[size_def]at vs0⊢;exact vs0
  ·rw[depth_def]at vd0⊢;exact vd0
 have hs:isT s s.k s.t s.y (s.a.map Att.row) s.x (rows s.c):=⟨rfl,rfl,rfl,rfl,rfl,rfl⟩
 have hkk:s.k=s0.k:=by omega
 have hf:kids s u=s.c:=fit_kids (hkk.trans hu.1) hu.2.1
 have hk0:=kids_keys hA0.1
 have o16:=(alone_c hA.1).1
 have n16:=(alone_c hA0.1).1
 refine⟨⟨⟨s,hs⟩,u,hu⟩,fun _ O e hD=>?_⟩
 obtain⟨rfl,hO⟩:=(hD s u hs hu).1 ⟨⟨A,vs,vd⟩,vu⟩
 rw[hf,uc]at hO
 subst hO
 refine⟨⟨hkk,rfl,⟨s,hs,A,vs,vd⟩,u,hu,vu⟩,fun _ S e hE=>?_⟩
 obtain⟨rfl,hS,sok,c4,c5,c6⟩:=hE s u hs hu
 rw[uc]at c4 c5 c6
 have hmn:=mtch_len s.c s0.c
 have hok:=mtch_ok s.c hk0
 refine⟨⟨_,_,rfl,rfl,by omega,by omega⟩,fun _ W hW=>?_⟩
 obtain rfl:=hW _ _ rfl rfl
 generalize mtch s.c s0.c=m at*
 have hq:=stay_len m
 have hnp:=negs_pl m
 refine⟨⟨m,rfl,by omega⟩,fun _ Q hQ=>?_⟩
 obtain rfl:=(hQ m rfl).1 hok
 refine⟨⟨m,rfl,by omega⟩,fun _ I hI=>?_⟩
 obtain rfl:=hI m rfl
 have l1:ln (m.map row)=(m.length:Int):=by simp[ln]
 have l2:ln ((stayM m).map brow)=(m.length:Int):=by simp[ln,hq]
 have l3:ln ((stayM m).map irow)=(m.length:Int):=by simp[ln,hq]
 have l4:ln (rows s.c)=(s.c.length:Int):=by simp[ln]
 have l5:ln (rows s0.c)=(s0.c.length:Int):=by simp[ln]
 simp only[l1,l2,l3,l4,l5,I64,cI_row,cB_row,bJ8,not_true_eq_false,false_implies,bM7]
 refine⟨⟨by omega,by omega⟩,fun _=>⟨fun _=>⟨wn_inv.2 ⟨by omega,by omega,rfl,by omega,rfl⟩,fun _ i k j hw=>?_⟩,fun c=>absurd rfl c⟩⟩
 obtain⟨i0,i1,hk,hj,he⟩:=wn_inv.1 hw
 have hpl:((pl (m.take i.toNat)).length:Int)<=16:=by
  have:=pl_le (m.take i.toNat)
  rw[bI9]at this;omega
 refine⟨fun hi=>?_,fun hi=>?_⟩
 ·have hb:=getD_at (l:=stayM m) (d:=false) i0 (by omega)
  obtain⟨W1,W2⟩:=wn_step hw hi hb
  rw[cI_irow hb]
  generalize (stayM m).getD i.toNat false=b at*
  have hbb:(b==decide ((if b then 1 else 0:Int)=1))=true:=by cases b<;>rfl
  have hb01:0<=(if b then 1 else 0:Int)/\(if b then 1 else 0:Int)<=1:=by cases b<;>decide
  have M:∀ {k' j'},wnMu [.lst (m.map row),.lst ((stayM m).map irow)] [.int (i+1),.int k',.int j']<wnMu [.lst (m.map row),.lst ((stayM m).map irow)] [.int i,.int k,.int j]:=wn_mu (by omega)
  simp only[hbb,not_true_eq_false,false_implies,bJ8,bM7,bL7]
  refine⟨by omega,fun _=>⟨hi,fun _=>⟨by omega,fun _=>⟨hi,fun _=>⟨by omega,fun _=>⟨hi,fun _=>⟨by omega,fun _=>⟨hi,fun _=>⟨by omega,fun _=>⟨hi,fun _=>⟨fun c=>?_,fun c=>?_⟩⟩⟩⟩⟩⟩⟩⟩⟩⟩⟩
  ·exact⟨⟨by omega,by omega⟩,fun _=>⟨W1 c,fun _=>M⟩⟩
  ·exact⟨⟨by omega,by omega⟩,fun _=>⟨by omega,fun _=>⟨hi,fun _=>⟨⟨by omega,by omega⟩,fun _=>⟨⟨by omega,by omega⟩,fun _=>⟨W2 c,fun _=>M⟩⟩⟩⟩⟩⟩
 ·rw[take_full (by omega)]at hk he
  rw[take_full (by omega)]at he
  have s0:∀k,(0:Int)=cnt k 0 (S.take (0:Int).toNat):=fun k=>by simp[cnt]
  refine⟨cu_goal (by omega) (by simp only[ln];omega) (by omega) (by omega) (by omega) (by omega) (by omega) (by omega) (by omega) (by omega) (s0 4) (s0 5) (s0 6),fun _ n a0 a1 a2 a3 a4 a5 a6 a7 hcu=>?_⟩
  have hcu2:=hcu
  obtain⟨n0,n1,hb,hc⟩:=hcu2
  obtain⟨e4,e5,e6⟩:=hc sok
  have hsl:ln S<=6400:=by simp only[ln];omega
  refine⟨fun hn=>⟨by omega,fun _=>⟨hn,fun _=>?_⟩⟩,fun hn=>?_⟩
  ·obtain⟨w1,w2⟩:=wh_at sok n0 hn
   obtain⟨g0,g1,G1,G2⟩:=cu_step sok hcu hn
   rw[tmod8 ⟨w1,w2⟩]
   have M:∀l,cuMu [.lst S] (.int (n+1)::l)<cuMu [.lst S] [.int n,.int a0,.int a1,.int a2,.int a3,.int a4,.int a5,.int a6,.int a7]:=fun l=>cu_mu hn
   refine⟨fun hp=>?_,fun hp=>⟨⟨by omega,by omega⟩,fun _=>⟨G2 hp,fun _=>⟨M _,fun _=>trivial⟩⟩⟩⟩
   exact⟨by omega,fun _=>⟨hn,fun _=>⟨by omega,fun _=>⟨by omega,fun _=>⟨by omega,fun _=>⟨⟨by omega,by omega⟩,fun _=>⟨by omega,fun _=>⟨by omega,fun _=>⟨by omega,fun _=>⟨⟨by omega,by omega⟩,fun _=>⟨G1 hp,fun _=>⟨M _,fun _=>trivial⟩⟩⟩⟩⟩⟩⟩⟩⟩⟩⟩⟩
  ·rw[take_full (by simp only[ln]at hn n1;omega)]at e4 e5 e6
   have hL:livesPre []:=rfl
   refine⟨⟨by omega,by omega⟩,fun _=>⟨fun _=>⟨⟨by omega,by omega⟩,fun _=>⟨fun _=>⟨⟨by omega,by omega⟩,fun _=>⟨fun _=>⟨fun _=>⟨hL,fun _ x h=>⟨by cases x with|true=>exact rfl|false=>exact absurd h (by simp[livesRel,aP0]),fun _=>trivial⟩⟩,fun c=>absurd hkk c⟩,fun c=>absurd ?_ c⟩⟩,fun c=>absurd ?_ c⟩⟩,fun c=>absurd ?_ c⟩⟩
   all_goals omega
end Go.D
