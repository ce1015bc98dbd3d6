/- copied: the attributes, in the executor; code that comes to an end.
  Conditions: none. -/
import Derived.Test.YtcjhhnoaoldcmaaMA
set_option linter.unusedVariables false
set_option linter.unusedSimpArgs false
set_option maxRecDepth 10000
noncomputable section
namespace Go.D
open Go Go.Xe Go.Sx
open Go.C36 (row)
variable {ov :FuncId->Option TypeId}
abbrev pF :FuncId:=43
theorem pc_eq :f5 PR pF=Go.Proofs.Try.f43.body.getD .skip:=by kernel_rfl
theorem p_fn :PR.funcs[pF]? =some Go.Proofs.Try.f43:=by kernel_rfl
theorem p_ok :O7 Go.Proofs.Try.f43=true:=by kernel_rfl
theorem xops_keep {call:c8}{nt x:Nat}{all:List Oper}:∀ {l:List Oper} {tm tm':T Value} {hp hp':Hp},ap1 PR call nt all l tm hp=some (tm',hp')->(∀o∈l,o.dst≠some x)->tm'.get x=tm.get x
 | [],tm,tm',hp,hp',h,_=>by
  rw[ac1]at h
  cases h;rfl
 |o::l,tm,tm',hp,hp',h,hd=>by
  rw[H1]at h
  have put:∀v,(j2 tm o.dst v).get x=tm.get x:=fun v=>by
   have:=hd o (List.mem_cons_self ..)
   cases a:o.dst with
   |none=>rfl
   |some d=>rw[gp,bC1 (fun e=>this (by rw[a,e]))]
  cases h1:l5 nt o.dst with
  |false=>rw[h1]at h;cases h
  |true=>
   rw[h1,bB8]at h
   cases h2:f8 all tm o with
   |false=>
    rw[h2,bB9]at h
    exact(xops_keep h fun o a=>hd o (bF9 _ a)).trans (put _)
   |true=>
    rw[h2,bB8]at h
    cases h3:xop PR call tm hp o.op with
    |none=>rw[h3]at h;cases h
    |some q=>
     rw[h3]at h
     exact(xops_keep h fun o a=>hd o (bF9 _ a)).trans (put _)
theorem xopsD_keep {call:c8}{nt x:Nat}{all:List Oper}:∀ {l:List Oper} {tm tm':T Value} {hp hp':Hp} {ds a:List Df},Q5 PR call nt all l tm hp ds=some (tm',hp',a)->(∀o∈l,o.dst≠some x)->tm'.get x=tm.get x
 | [],tm,tm',hp,hp',ds,a,h,_=>by
  unfold Q5 at h
  cases h;rfl
 |o::l,tm,tm',hp,hp',ds,a,h,hd=>by
  unfold Q5 at h
  have put:∀v,(j2 tm o.dst v).get x=tm.get x:=fun v=>by
   have:=hd o (List.mem_cons_self ..)
   cases c:o.dst with
   |none=>rfl
   |some d=>rw[gp,bC1 (fun e=>this (by rw[c,e]))]
  have b:∀ {v h1 f},Q5 PR call nt all l (j2 tm o.dst v) h1 f=some (tm',hp',a)->tm'.get x=tm.get x:=fun h=>(xopsD_keep h fun o c=>hd o (bF9 _ c)).trans (put _)
  cases h1:l5 nt o.dst with
  |false=>rw[h1]at h;cases h
  |true=>
   rw[h1,bB8]at h
   cases h2:f8 all tm o with
   |false=>rw[h2,bB9]at h;exact b h
   |true=>
    rw[h2,bB8]at h
    split at h
    ·split at h
     ·exact b h
     ·cases h
    ·split at h
     ·exact b h
     ·cases h
theorem xk_keep {nt x a:Nat}{ops:Array Oper}{tm tm':T Value}{hp hp':Hp}{e:Exit}(h:XK PR ov nt (.region a ops false) tm hp e tm' hp')(hd:∀o∈ops.toList,o.dst≠some x):tm'.get x=tm.get x:=by
 obtain⟨⟨b,_,n0,h⟩,_⟩:=h
 have h:=h n0 (n0+1) [] (bC4 _) (bH4 _)
 simp only[d7,bB9]at h
 cases h1:ap1 PR (exec PR ov n0) nt ops.toList ops.toList tm hp with
 |none=>
  rw[h1]at h
  simp only[aT4,bB9]at h
  split at h
  ·rename_i h2
   simp only[bA1,XR.mk.injEq]at h
   obtain⟨_,rfl,_⟩:=h
   exact xopsD_keep h2 hd
  ·cases h
 |some q=>
  rw[h1]at h
  simp only[bA1,XR.mk.injEq]at h
  obtain⟨_,rfl,_⟩:=h
  exact xops_keep h1 hd
def caD (t:Tree):List Dat:=[.int t.k,.str t.t,.str t.y,.lst (t.a.map Att.row),.str t.x,.lst (rows t.c)]
def caE (t:Tree):List E:=[.dat 0 (.int t.k),.dat 1 (.str t.t),.dat 2 (.str t.y),.dat 3 (.lst (t.a.map Att.row)),.dat 4 (.str t.x),.dat 5 (.lst (rows t.c))]
def caS (t:Tree):SS:=⟨[(0,some (.cells [.int .u8 (.dat 0 (.int t.k)),.str (.dat 1 (.str t.t)),.str (.dat 2 (.str t.y)),.lst tAt (.dat 3 (.lst (t.a.map Att.row))) false,.str (.dat 4 (.str t.x)),.lst tN (.dat 5 (.lst (rows t.c))) false] tN 6))],1,[],6,[]⟩
def caT (ib:Nat):Tau:=fun b=>match b with
 |0=>some (some (ib,0))
 |_=>none
theorem caS_0 (t:Tree):(caS t).get 0=some (.cells [.int .u8 (.dat 0 (.int t.k)),.str (.dat 1 (.str t.t)),.str (.dat 2 (.str t.y)),.lst tAt (.dat 3 (.lst (t.a.map Att.row))) false,.str (.dat 4 (.str t.x)),.lst tN (.dat 5 (.lst (rows t.c))) false] tN 6):=rfl
theorem caS_some {t:Tree}{b:Nat}{x:n5}(h:(caS t).get b=some x):b=0:=by
 by_cases h2:b=0
 ·exact h2
 ·unfold SS.get caS at h
  simp only[lk]at h
  rw[n8 (by omega)]at h
  cases h
variable {F :FB}{hp:Hp}{ib:Nat}{t:Tree}{cs tm:T Value}
theorem ca_sd (hb:hp.m.get ib=some (.cells cs 6 tN 6))(hl:ib<hp.nx)(hf:F ib=none)(i:RN F t (at6 cs 0))(hF:FH F hp):SD PR U0 (caT ib) F (caS t) hp:=by
 obtain⟨⟨c0,l,n,⟨A,p,f⟩,s⟩,vc,u,g⟩:=i
 refine⟨fun b x e=>?_,fun b c x y q o z o' hb hc k v w=>?_,fun q b h=>(hF q b h).1,fun b q o h=>?_,fun q b h=>(hF q b h).2,fun b hb=>?_,fun c t h=>by simp[caS]at h,fun r h=>by simp[caS]at h⟩
 ·have:=caS_some e
  subst this
  rw[caS_0]at e
  cases e
  refine .inl ⟨ib,0,_,rfl,hb,hf,cs,6,rfl,bC4 _,fun j a d=>?_⟩
  match j,d with
  |0,d=>cases d;exact⟨_,c0,.int _ _⟩
  |1,d=>cases d;exact⟨_,l,.str _⟩
  |2,d=>cases d;exact⟨_,n,.str _⟩
  |3,d=>cases d;exact⟨_,p,.lst _ _ _ _ f (fun h=>by cases h)⟩
  |4,d=>cases d;exact⟨_,s,.str _⟩
  |5,d=>cases d;exact⟨_,u,.lst _ _ _ _ g (fun h=>by cases h)⟩
  |j+6,d=>simp at d
 ·exact absurd ((caS_some hb).trans (caS_some hc).symm) k
 ·match b,h with
  |0,h=>cases h;exact hl
  |b+1,h=>cases h
 ·have hb:1<=b:=hb
  match b,hb with
  |b+1,_=>rfl
theorem ca_use (hC : ∀ tm, M4 PR U0 cCa (PmT tpCa tm) (PcX PR ov ntCa (pcCa (f5 PR pF)) otCa 6 tm)) (hb : hp.m.get ib = some (.cells cs 6 tN 6)) (hl : ib < hp.nx) (hf : F ib = none) (  Q : RN F t (at6 cs 0)) (hF : FH F hp) (h2 : tm.get 2 = some (.pointer (some ⟨ib, 0, none⟩))) (ha : t.a.length ≤ 1000) :
  ∃tm' hp' cs' F',XK PR ov 38 (pcCa (f5 PR pF)) tm hp .normal tm' hp'/\hp'.m.get ib=some (.cells cs' 6 tN 6)/\F' ib=none/\RN F' t (at6 cs' 0)/\FH F' hp'/\Fle F F'/\(∀j,j<hp.nx->j≠ib->hp'.m.get j=hp.m.get j)/\(∀q b,F' q=some b->F q=some b\/hp.nx<=q)/\ ∀x,x<11->tm'.get x=tm.get x:=by
 have hs:=ca_sd hb hl hf Q hF
 have hx:VDL PR U0 (caT ib) F [.ptr 0 6 (.int 0) 0] [.pointer (some ⟨ib,0,none⟩)]:= .cons (VD.ptr (P:=PR) (U:=U0) (τ:=caT ib) (F:=F) 0 6 (.int 0) 0 ib 0 rfl (by decide)) VDL.nil
 have ab:PmT tpCa tm [.pointer (some ⟨ib,0,none⟩)]:=fun j k x hk hx=>by
  match j,hk,hx with
  |0,hk,hx=>cases hk;cases hx;exact h2
  |j+1,hk,hx=>simp at hx
 obtain⟨v,τ',F',s',hp',vs,A,N,M,nw,z,⟨⟨tm',xk,hv⟩,pw⟩,ex,u,ac,W,aa,O,B,r,V,aj,ae,C,D,d⟩:=hC tm (caE t) rfl (show caPre (caD t)from by show ln (t.a.map Att.row)<=1000;simp only[ln,bC0];omega) _ F hp _ hs hx ab
 have hn:nw=[]:=List.length_eq_zero_iff.1 (by have:nw.length+1=1:=D;omega)
 subst hn
 have R:z=[]:=List.length_eq_zero_iff.1 C
 subst R
 obtain⟨e0,J,K,e3,L,e5,rfl⟩:=len6 (show M.length=6 from B.len)
 have d:caRel (caD t) [.int (e0.toI U0),.str (J.den U0).toStr,.str (K.den U0).toStr,.lst (e3.toR U0),.str (L.den U0).toStr,.lst (e5.toR U0)]:=d
 obtain⟨r0,r1,r2,r3,r4,r5⟩:=d
 have τ0:τ' 0=some (some (ib,0)):=ex.st 0 (by show 0<1;omega)
 let τ2:Tau:=fun b=>match b with
  |0=>τ' 0
  |_=>none
 have c:VDL PR U0 τ2 F' [.int .u8 (.dat 0 (.int (e0.toI U0))),.str (.dat 1 (.str (J.den U0).toStr)),.str (.dat 2 (.str (K.den U0).toStr)),.lst tAt (.dat 3 (.lst (e3.toR U0))) false,.str (.dat 4 (.str (L.den U0).toStr)),.lst tN (.dat 5 (.lst (e5.toR U0))) false] (A++N):=
  Y5.vals (τ2:=τ2) (num:=idN) (nb:=1) B (q9 (g8 cCa.outL) 0 _ rfl) (fun j b h=>by
   match j,h with
   |0,h=>cases h;rfl
   |j+1,h=>
    have h:([0]:List Nat)[j+1]? =some b:=h
    simp at h) (fun k b h=>by simp at h) ac
 have X:A=[]:=List.length_eq_zero_iff.1 W
 subst X
 obtain⟨g0,ys,rfl,Y,⟨ak,al,cs',n',q1,q2,q3,w⟩,rfl⟩:=O
 obtain⟨c0,c1,c2,c3,c4,c5,rfl⟩:=len6 (show g0.length=6 from Y)
 rw[τ0]at q1
 cases q1
 rw[bI5,List.nil_append]at c
 have n:F' ib=none:=by
  obtain⟨x,ad⟩:=r 0 (show(0:Nat)∈([0]:List Nat)from by simp)
  rcases u.live 0 x ad with⟨i',o',y,k1,k2,k3,_⟩| ⟨k1,_⟩
  ·rw[τ0]at k1;cases k1;exact k3
  ·rw[τ0]at k1;cases k1
 obtain⟨ai,k1,k2⟩:=pw ib 0 cs 6 _ _ rfl hb
 rw[q2]at k1
 simp only[bA1,Blk.cells.injEq,bG8]at k1
 obtain⟨rfl,rfl,_⟩:=k1
 obtain⟨l,ah,G,H,I,_⟩:=ex.hh
 refine⟨tm',hp',cs',F',xk,q2,n,?_,fun q b h=>⟨u.frz q b h,u.flt q b h⟩,ex.f,fun j hj Z=>?_,fun q b h=>?_,fun x hx=>?_⟩
 ·have w0:=vat c (i:=0) rfl rfl
  have w1:=vat c (i:=1) rfl rfl
  have w2:=vat c (i:=2) rfl rfl
  have w3:=vat c (i:=3) rfl rfl
  have w4:=vat c (i:=4) rfl rfl
  have w5:=vat c (i:=5) rfl rfl
  refine⟨⟨?_,?_,?_,⟨c3,w 3 c3 rfl,?_⟩,?_⟩,c5,w 5 c5 rfl,?_⟩
  ·show cs'.get (0+0)=_
   rw[w 0 c0 rfl]
   cases w0
   show some (Value.int .u8 (e0.toI U0))=_
   rw[r0]
  ·show cs'.get (0+1)=_
   rw[w 1 c1 rfl]
   cases w1
   show some (Value.string ⟨((J.den U0).toStr).toArray⟩)=_
   rw[r1]
  ·show cs'.get (0+2)=_
   rw[w 2 c2 rfl]
   cases w2
   show some (Value.string ⟨((K.den U0).toStr).toArray⟩)=_
   rw[r2]
  ·cases w3 with
   |lst _ _ _ _ s _=>rw[<-r3];exact s
  ·show cs'.get (0+4)=_
   rw[w 4 c4 rfl]
   cases w4
   show some (Value.string ⟨((L.den U0).toStr).toArray⟩)=_
   rw[r4]
  ·cases w5 with
   |lst _ _ _ _ s _=>rw[<-r5];exact s
 ·refine G j hj fun b x o S h _=>?_
  have:=caS_some (t:=t) (b:=b) (x:=x) S
  subst this
  cases h
  exact Z rfl
 ·by_cases hlt:q<hp.nx
  ·rcases I q b hlt h with h'| ⟨b0,o,g,_⟩
   ·exact .inl h'
   ·by_cases T:1<=b0
    ·rcases H b0 q o T g with k| ⟨b1,x,o0,k1,k2,_⟩
     ·omega
     ·have:=caS_some (t:=t) (b:=b1) (x:=x) k1
      subst this
      cases k2
      rw[n]at h;cases h
    ·have e:b0=0:=by omega
     subst e
     rw[τ0]at g
     cases g
     rw[n]at h;cases h
  ·exact .inr (bH7 hlt)
 ·have     p : ∃ id ops, pcCa (f5 PR pF) = .region id ops false ∧ ∀ o ∈ ops.toList, ∀ x, x < 11 → o.dst ≠ some x := by
   unfold pcCa
   rw[pc_eq]
   simp only[Go.Proofs.Try.f43,bE3,cdA,cdB]
   refine⟨_,_,rfl,fun o E x hx=>?_⟩
   simp only[bD9,List.not_mem_nil,or_false]at E
   rcases E with rfl|rfl|rfl|rfl|rfl|rfl<;>(intro e;first| (cases e;done)| (cases e;exact absurd hx (by decide)))
  obtain⟨id,ops,hc,hd⟩:=p
  rw[hc]at xk
  exact xk_keep xk fun o E=>hd o E x hx
end Go.D
