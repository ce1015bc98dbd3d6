/- Trees that are changed in place (DiffsApply): operations in the executor; trees all of whose lists are their own.
  Conditions: none. -/
import Derived.Test.YtcjhhnoaoldcmaaGreatM1
import Derived.Test.YtcjhhnoaoldcmaaGreatXm4
set_option linter.all false
set_option maxRecDepth 10000
noncomputable section
namespace Go.D
open Go Go.Xe Go.Sx
open Go.C36 (row)
theorem ub {α:Type}{l:List α}(h:l.length=6):∃a b c d e f,l=[a,b,c,d,e,f]:=by
 match l,h with
 | [a,b,c,d,e,f],_=>grind
def zN :Aw:=(D6 PR tN).getD undef
def AC :D6 PR tN=some zN:=by kernel_rfl
def oE :zN.cells.toList.length=6:=by kernel_rfl
def zB :Ao:=fill .e 0 zN.cells.toList
def niN_b :niN.size=6:=aZ
section
variable {hp hp':Hp}{tm:Ao}{i o n e z:Nat}{cs:Ao}{vs:Af}{v u a:Aw}{x y t:Nat}
def T9 (call:c7):xop PR call tm hp (.alloc tN)=some (.pointer (some ⟨hp.nx,0,none⟩),⟨hp.m.set hp.nx (some (.cells zB 6 tN 6)),hp.nx+1⟩):=by simp only[b9,f7,xnw,cP,AC,G9,Hp.add,Nw.val,A0,oE,zB]
def HK {n:Nat}(hx:tm.get x=some (.int .i64 n))(hn:n<=1000)(call:c7):xop PR call tm hp (.makeSlice tS (.tmp x) (.tmp x))=some (.slice (some ⟨hp.nx,0,none⟩) n n,⟨hp.m.set hp.nx (some (.cells (fill .e 0 (xrep n zN.cells.toList)) (n*6) tN 6)),hp.nx+1⟩):=by
 have h1:decide (0<=(n:Int))=true:=decide_eq_true (by omega);have h2:decide ((n:Int)<=n)=true:=decide_eq_true (KZ _);have h3:decide ((n:Int)<=1048576)=true:=decide_eq_true (by omega);have h4:(xrep n zN.cells.toList).length=n*6:=by rw[Xe.xrep_length,oE]
 simp only[b9,f7,xnw,a9,hx,KC,FU,eo,cy,AC,h1,h2,h3,Bo,oE,aZ,l6,Bool.and_self,Kc,G9,Hp.add,Nw.val,A0,KB,h4]
def ou {b:Bool}{ty:Ay}(hx:tm.get x=some (.bool b))(call:c7):xop PR call tm hp (.unOp .not ty (.tmp x))=some (.bool (!b),hp):=by simp only[b9,f7,a9,hx,KC,xun,c9]
theorem N5 {F:FB}{e:Ay}{v:Aw}{L:Sx.Rows}(h:PV PR F (.sl e) v (.lst L)):∃q c,v= .slice q L.length c:=by cases h<;>simp_all
theorem r0 (b:vs.length=6):d6 (fill cs o vs) o 6=some vs:=by have:=i8 (c:=fill cs o vs) (vs:=vs) (o:=o) (fun q hq=>by rw[f6,Ki ⟨by omega,by omega⟩];congr 1;omega);grind
end
theorem d9 {hp:Hp}{i nx:Nat}{b:Bc Blk}(hn:hp.nx<=nx)(h:hp.nx<=i\/hp.m.get i≠some .dfr):l9 hp ⟨hp.m.set i b,nx⟩:=⟨hn,fun r hr h0=>by
 rw[Mw,Kg]
 ·grind
 ·rintro rfl;rcases h with h|h
  ·omega
  ·exact h h0⟩
section
variable {hp hp':Hp}{tm:Ao}{i o:Nat}{v u a:Aw}{x y t k:Nat}
def qL (hx:tm.get x=some a:=by simp only[gp];rfl)(h:B0 PR hp t a=some v)(call:c7):xop PR call tm hp (.load t (.tmp x))=some (v,hp):=m8 hx h call
def qS (hx:tm.get x=some a:=by simp only[gp];rfl)(hy:tm.get y=some u:=by simp only[gp];rfl)(h:A8 PR hp t a u=some hp')(call:c7):xop PR call tm hp (.store t (.tmp x) (.tmp y))=some (undef,hp'):=G6 hx hy h call
def qN {p:Addr}(hx:tm.get x=some (.pointer (some p)):=by simp only[gp];rfl)(call:c7):xop PR call tm hp (.nilCheck (.tmp x))=some (.pointer (some p),hp):=JI hx call
def qA (hx:tm.get x=some a:=by simp only[gp];rfl)(call:c7):xop PR call tm hp (.assign (.tmp x))=some (a,hp):=FV hx call
def qM (hx:tm.get x=some a:=by simp only[gp];rfl)(call:c7):xop PR call tm hp (.move (.tmp x))=some (a,hp):=i5 hx call
def qD (hx:tm.get x=some (.pointer (some ⟨i,o,none⟩)):=by simp only[gp];rfl)(call:c7):xop PR call tm hp (.fieldAddr tN (.tmp x) 5)=some (.pointer (some ⟨i,o+5,none⟩),hp):=jQ hx call
end
end Go.D
namespace Go.Sx
open Go.Xe
section
variable {P :Ax}{ov:Aa}{nt:Nat}{tm:Ao}{hp hp1:Hp}{Q:Ao->Hp->Prop}{all rest:An}{ao:Oper}{v:Aw}
def YO.o (h:∀call,xop P call tm hp ao.op=some (v,hp1))(k:YO P ov nt all rest (j0 tm ao.dst v) hp1 Q)(h1:j4 nt ao.dst=true:=by rfl)(h2:ao.guard=none:=by rfl):YO P ov nt all (ao::rest) tm hp Q:= .op h1 h2 h k
def YO.c (h:XOp P ov ao.op tm hp v hp1)(k:YO P ov nt all rest (j0 tm ao.dst v) hp1 Q)(h1:j4 nt ao.dst=true:=by rfl)(h2:ao.guard=none:=by rfl):YO P ov nt all (ao::rest) tm hp Q:= .cons h1 h2 h k
def YO.w (h:∀call,xop P call tm hp ao.op=some (v,hp1))(k:YO P ov nt all rest (j0 tm ao.dst v) hp1 Q)(h1:j4 nt ao.dst=true:=by rfl)(h2:e9 all tm ao=true:=by simp[e9,q9,Go.D.gp]):YO P ov nt all (ao::rest) tm hp Q:= .opW h1 h2 h k
def YO.s (k:YO P ov nt all rest (j0 tm ao.dst undef) hp Q)(h1:j4 nt ao.dst=true:=by rfl)(h2:e9 all tm ao=false:=by simp[e9,q9,Go.D.gp,undef]):YO P ov nt all (ao::rest) tm hp Q:= .skipW h1 h2 k
variable {nx0 pre ix I:Nat}{restG:List (Oper×Nat)}{S S2:Hp}{es:List Ent}{QO:Out->Prop}
def YG.o (h:∀call,xop P call tm S ao.op=some (v,S))(k:YG P ov nt all nx0 restG (ix+1) (j0 tm ao.dst v) S I (⟨ix,ao,pre,tm,S,S,I,true,v,none⟩::es) QO)(h1:j4 nt ao.dst=true:=by rfl)(h2:ao.guard=none:=by rfl)(h3:d5 ao.op=0:=by rfl):YG P ov nt all nx0 ((ao,pre)::restG) ix tm S I es QO:= .k0 h1 h2 h3 h k
def YG.r (h:∀call,xop P call tm S ao.op=some (v,S))(k:YG P ov nt all nx0 restG (ix+1) (j0 tm ao.dst v) S I (⟨ix,ao,pre,tm,S,S,I,true,v,none⟩::es) QO)(h1:j4 nt ao.dst=true:=by rfl)(h2:ao.guard=none:=by rfl)(h3:d5 ao.op=1:=by rfl):YG P ov nt all nx0 ((ao,pre)::restG) ix tm S I es QO:= .k1 h1 h2 h3 h k
end
end Go.Sx
namespace Go.D
open Go Go.Xe Go.Sx
variable {F:FB}{t:a8}{g g':Ad}
theorem RN.win (h:RN F t g)(l:∀q,q<6->g' q=g q):RN F t g':=by obtain⟨⟨a,b,c,⟨va,d,e⟩,f⟩,vc,h5,j⟩:=h;exact⟨⟨by grind,by grind,by grind,(by grind),by grind⟩,vc,by grind,j⟩
variable {v:Aw}
theorem EN {l:List a8}(h:PV PR F (.sl tN) v (.lst (rows l))){j:Nat}{s:a8}(hj:l[j]? =some s):∃ic oc cc r dc A D ws,v= .slice (some ⟨ic,oc,none⟩) l.length cc/\F ic=some r/\rdC r=some (dc,A,D)/\oc+j*6+6<=A/\d6 dc (oc+j*6) 6=some ws/\ws.length=6/\RN F s (fun q=>ws[q]?):=by
 generalize E:rows l=L at h;have w:L.length=l.length:=by grind
 have C:=(JO.1 hj).1;cases h with
 |nils=>grind|vague=>grind|sl e i o c b cs n z p x hF hb hc hn hz hr hx hp=>
  have m:z=6:=by rw[hz,AX];rfl
  subst m;have f:L[j]? =some s.row:=by grind
  have B:∀q,q<6->cs.get (o+j*6+q)=some (x j q):=fun q hq=>hx j q s.row _ f (JX (by grind));have hl:d6 cs (o+j*6) 6=some ((List.range 6).map (x j)):=by have:=i8 (vs:=(List.range 6).map (x j)) (fun q hq=>by simp at hq;rw[B q hq];simp[hq]);grind
  refine⟨i,o,c,b,cs,n,_,_,by grind,hF,hb,by omega,hl,by simp,.of_cells fun k d kd hd hk=>?_⟩;grind
section
variable {tm :Ao}{hp:Hp}
def qX {x:Nat}{v:Aw}(h:tm.get x=some v):a9 tm (.tmp x)=some v:=by simp only[a9,h,KC]
end
section
variable {ov :Aa}{nt:Nat}{c1 c2:Code}{tm:Ao}{hp:Hp}{Q:Ao->Hp->Prop}
variable (ov nt) in
def YR (c:Code)(tm:Ao)(hp:Hp)(Q:Ao->Hp->Prop):Prop:=∃tm1 hp1,XK PR ov nt c tm hp .ret tm1 hp1/\Q tm1 hp1
def YR.ret (h:Q tm hp):YR ov nt .ret tm hp Q:=⟨_,_,.ret,h⟩
def YR.seq (h:YN PR ov nt c1 tm hp fun t1 h1=>YR ov nt c2 t1 h1 Q):YR ov nt (.seq c1 c2) tm hp Q:=by obtain⟨t1,h1,k1,t2,h2,k2,k3⟩:=h;exact⟨t2,h2,k1.seq k2,k3⟩
def YR.seqX (h:YR ov nt c1 tm hp Q):YR ov nt (.seq c1 c2) tm hp Q:=by obtain⟨t1,h1,k1,k2⟩:=h;exact⟨t1,h1,k1.seqX (by simp),k2⟩
def YR.condT {o:Ba}(hc:a9 tm o=some (.bool true))(h:YR ov nt c1 tm hp Q):YR ov nt (.cond o c1 c2) tm hp Q:=by obtain⟨t1,h1,k1,k2⟩:=h;exact⟨t1,h1,k1.condT hc,k2⟩
def YR.condF {o:Ba}(hc:a9 tm o=some (.bool false))(h:YR ov nt c2 tm hp Q):YR ov nt (.cond o c1 c2) tm hp Q:=by obtain⟨t1,h1,k1,k2⟩:=h;exact⟨t1,h1,k1.condF hc,k2⟩
end
def wd (l c:Nat):Prop:=(c<unk/\c=l/\l<=67108864)\/ ∃lo,c=c8 lo 0/\lo<=67108864/\l<=67108864
def L9 (H:FB)(e z n:Nat)(v:Aw)(io:Ai)(o:Nat)(cs:Ao):Prop:=
 (n=0/\io=none/\v= .slice none 0 0)\/ ∃i c N,io=some i/\v= .slice (some ⟨i,o,none⟩) n c/\wd n c/\H i=some (.cells cs N e z)/\o+n*z<=N
def Fld (t:a8)(g:Ad):Prop:=g 0=some (.int .u8 t.k)/\g 1=some (.string ⟨t.t.toArray⟩)/\g 2=some (.string ⟨t.y.toArray⟩)/\g 4=some (.string ⟨t.x.toArray⟩)
def AtC (a:Att)(cs:Ao)(o:Nat):Prop:=cs.get o=some (.string ⟨a.n.toArray⟩)/\cs.get (o+1)=some (.string ⟨a.v.toArray⟩)
inductive TB (H:FB):Ah->a8->(Ad)->Prop
 | mk (t : a8) (g : Ad) (va vc : Aw) (ia ic : Ai) (oa oc : Nat) (ca cc : Ao) (Ss : List (Ah)) (hf : Fld t g) (h3 : g 3 = some va) (h5 : g 5 = some vc)
   (ha:L9 H tAt 2 t.a.length va ia oa ca) (hac:∀(j:Nat) a,t.a[j]? =some a->AtC a ca (oa+j*2)) (hc:L9 H tN 6 t.c.length vc ic oc cc) (hl:Ss.length=t.c.length) (hb:t.c.length<=1000) (hba:t.a.length<=1000)
   (hk:∀(j:Nat) s S,t.c[j]? =some s->Ss[j]? =some S->TB H S s (at6 cc (oc+j*6))):TB H (ia.toList++(ic.toList++Ss.flatten)) t g
variable {H:FB}{n:Nat}{io:Ai}{cs:Ao}
theorem L9.frame {b:FB}{e z:Nat}{o:Nat}(h:L9 H e z n v io o cs)(d:∀j∈io.toList,b j=H j):L9 b e z n v io o cs:=by
 rcases h with h| ⟨i,c,N,rfl,h1,h2,h3,h4⟩
 ·exact .inl h
 ·exact .inr (by grind)
theorem L9.sl {e z:Nat}{o:Nat}(h:L9 H e z n v io o cs):∃q c,v= .slice q n c:=by rcases h<;>grind
variable {S:Ah}
theorem TB.frame {d:FB}(h:TB H S t g)(c:∀j∈S,d j=H j):TB d S t g:=by
 induction h with
 |mk t g va vc ia ic oa oc ca cc Ss hf h3 h5 ha hac hc hl hb hba hk f=>
  exact .mk t g va vc ia ic oa oc ca cc Ss hf h3 h5 (ha.frame fun j hj=>c j (by grind)) hac (hc.frame fun j hj=>c j (by grind)) hl hb hba
   fun j s S hs b=>f j s S hs b fun q hq=>c q (Lv _ (Lv _ (I7 b hq)))
theorem TB.win (h:TB H S t g)(f:∀q,q<6->g' q=g q):TB H S t g':=by obtain⟨_,_,va,vc,ia,ic,oa,oc,ca,cc,Ss,⟨a,b,c,d⟩,h3,h5,ha,hac,hc,hl,hb,hba,hk⟩:=h;exact .mk _ _ va vc ia ic oa oc ca cc Ss ⟨by grind,by grind,by grind,by grind⟩ (by grind) (by grind) ha hac hc hl hb hba hk
theorem yy {c:Nat}(h:wd n c):kh n c:=by
 rcases h with⟨h1,h2,_⟩| ⟨lo,h1,h2,h3⟩
 ·exact .inl (by grind)
 ·exact .inr ⟨lo,h1,h2,h3⟩
def It :kf PR tAt=[.str,.str]:=by kernel_rfl
theorem TB.read {F':FB}(h:TB H S t g)(p:∀j∈S,F' j=H j):RN F' t g:=by
 induction h with
 |mk t g va vc ia ic oa oc ca cc Ss hf h3 h5 ha hac hc hl hb hba hk D=>
  obtain⟨f0,A,B,C⟩:=hf;refine⟨⟨f0,A,B,⟨va,h3,?_⟩,C⟩,vc,h5,?_⟩
  ·rcases ha with⟨e,_,rfl⟩| ⟨i,c,N,rfl,rfl,f,hH,hN⟩
   ·rw[List.length_eq_zero_iff.1 e];exact .nils _
   ·have m:(t.a.map Att.row).length=t.a.length:=Kf ..;rw[<-m]at f⊢;refine .sl tAt i oa c _ ca N 2 (t.a.map Att.row) (fun r k=>(ca.get (oa+r*2+k)).getD undef) (by rw[p i (by simp)];exact hH) rfl ⟨yy f,.mk⟩ (by omega) rfl (fun r hr=>?_) (fun r k row d hr hk=>?_) (fun r k row kd d hr hk b=>?_)
    ·obtain⟨a,_,rfl⟩:=Lt.1 hr;rfl
    ·rw[KL,Lu]at hr;obtain⟨a,ha,rfl⟩:=hr;obtain⟨c0,c1⟩:=hac r a ha
     match k,hk with
     |0,hk=>grind|1,hk=>grind|k+2,hk=>simp[Att.row]at hk
    ·rw[KL,Lu]at hr;obtain⟨a,ha,rfl⟩:=hr;obtain⟨c0,c1⟩:=hac r a ha;rw[It]at b
     match k,hk,b with
     |0,hk,b=>cases b;cases hk;rw[Lb,c0];exact .str _
     |1,hk,b=>cases b;cases hk;rw[c1];exact .str _
     |k+2,hk,b=>grind
  ·rcases hc with⟨e,_,rfl⟩| ⟨i,c,N,rfl,rfl,f,hH,hN⟩
   ·rw[List.length_eq_zero_iff.1 e];exact .nils _
   ·have m:(rows t.c).length=t.c.length:=Kf ..;have hr:q7 PR F' tN 6 oc N cc (rows t.c):=by
     refine jx (fun j s hj=>?_) hN;have w:j<Ss.length:=by grind
     have l:=JX w;exact D j s _ hj l fun q hq=>p q (Lv _ (Lv _ (I7 l hq)))
    have:=cE (by rw[p i (by simp)];exact hH) (by rw[m];exact yy f) hr;grind
variable {ws:Af}
def TB.one (j:ws.length=6)(h:TB H S t (fun q=>ws[q]?)):ws.all Value.oneCell'=true:=by obtain⟨_,_,va,vc,ia,ic,oa,oc,ca,cc,Ss,⟨h0,h1,h2,h4⟩,h3,h5,ha,_,hc,_⟩:=h;obtain⟨a,b,c,d,e,f,rfl⟩:=ub j;obtain⟨q1,c1,rfl⟩:=ha.sl;obtain⟨q2,c2,rfl⟩:=hc.sl;cases h0;cases h1;cases h2;cases h3;cases h4;cases h5;rfl
def RN.one (m:ws.length=6)(h:RN F t (fun q=>ws[q]?)):ws.all Value.oneCell'=true:=by obtain⟨⟨h0,h1,h2,⟨va,h3,j⟩,h4⟩,vc,h5,l⟩:=h;obtain⟨a,b,c,d,e,f,rfl⟩:=ub m;obtain⟨q1,c1,rfl⟩:=N5 j;obtain⟨q2,c2,rfl⟩:=N5 l;cases h0;cases h1;cases h2;cases h3;cases h4;cases h5;rfl
end Go.D
