/- What nodes are in the executor's memory.
  Conditions: none. -/
import Derived.Test.YtoegfalhkackeaaGreatN11
set_option maxRecDepth 10000
set_option linter.all false
noncomputable section
namespace Go.D
open Go Go.Xe Go.Sx
abbrev tAt :Ax:=101
abbrev FB:=Nat->Bb Blk
def at6 (cs:Ao)(o:Nat):Nat->Ag:=fun q=>cs.get (o+q)
def NH (F:FB)(t:a9)(g:Nat->Ag):Prop:=
 g 0=some (.int .u8 t.k)/\g 1=some (.string ⟨t.t.toArray⟩)/\g 2=some (.string ⟨t.y.toArray⟩)/\(∃va,g 3=some va/\PV PR F (.sl tAt) va (.lst (t.a.map Att.row)))/\g 4=some (.string ⟨t.x.toArray⟩)
def NT (F:FB)(t:a9)(g:Nat->Ag):Prop:=NH F t g/\ ∃vc,g 5=some vc/\PV PR F (.sl tN) vc (.lst (rows t.c))
variable {F:FB}{t:a9}{g:Nat->Ag}
def NH.mono {F':FB}(h:Fle F F')(k:NH F t g):NH F' t g:=by obtain⟨a,b,c,⟨i,d,e⟩,f⟩:=k;exact⟨a,b,c,⟨i,d,e.mono PR h⟩,f⟩
def NT.mono {F':FB}(h:Fle F F')(k:NT F t g):NT F' t g:=by obtain⟨a,vc,d,e⟩:=k;exact⟨a.mono h,vc,d,e.mono PR h⟩
def AP (t:a9):t.row=[.int t.k,.str t.t,.str t.y,.lst (t.a.map Att.row),.str t.x,.lst (rows t.c)]:=by
 obtain⟨k,t,y,a,x,c⟩:=t;have hr:∀c:List a9,a9.rows c=rows c:=fun c=>by
  induction c with
  |nil=>rfl|cons s c b=>simp only[a9.rows,rows,RM,b]
 simp only[a9.row,a9.k,a9.t,a9.y,a9.a,a9.x,a9.c,hr]
theorem NT.cell (h:NT F t g)(k:Nat)(d:Dat)(kd:Kd)(a:t.row[k]? =some d)(hk:(kf PR tN)[k]? =some kd):∃x,g k=some x/\PV PR F kd x d:=by
 obtain⟨⟨h0,h1,h2,⟨f,h3,b⟩,h4⟩,vc,e,c⟩:=h;rw[AP]at a;rw[kf_N]at hk
 match k,a,hk with
 |0,a,hk=>cases a;cases hk;exact⟨_,h0,.int _ _⟩
 |1,a,hk=>cases a;cases hk;exact⟨_,h1,.str _⟩
 |2,a,hk=>cases a;cases hk;exact⟨_,h2,.str _⟩
 |3,a,hk=>grind|4,a,hk=>cases a;cases hk;exact⟨_,h4,.str _⟩
 |5,a,hk=>grind|k+6,a,hk=>simp at a
def NT.of_cells (h:∀k d kd,t.row[k]? =some d->(kf PR tN)[k]? =some kd-> ∃x,g k=some x/\PV PR F kd x d):NT F t g:=by rw[kf_N,AP]at h;obtain⟨x0,a0,b0⟩:=h 0 _ _ rfl rfl;obtain⟨e,a1,a⟩:=h 1 _ _ rfl rfl;obtain⟨f,a2,b2⟩:=h 2 _ _ rfl rfl;obtain⟨i,a3,b⟩:=h 3 _ _ rfl rfl;obtain⟨j,a4,c⟩:=h 4 _ _ rfl rfl;obtain⟨l,a5,b5⟩:=h 5 _ _ rfl rfl;cases b0;cases a;cases b2;cases c;exact⟨⟨a0,a1,a2,⟨_,a3,b⟩,a4⟩,_,a5,b5⟩
def mP (t:a9):t.row.length=6:=by rw[AP];rfl
end Go.D
namespace Go.D
open Go Go.Xe Go.Sx
def Kp (W:Nat->Prop)(hp hp':Hp):Prop:=hp.nx<=hp'.nx/\ ∀b,b<hp.nx-> ¬W b->hp'.m.get b=hp.m.get b
structure St (W:Nat->Prop)(n0:Nat)(g0:Ac)(J:Nat->(Ac)->Prop)(k:Nat)(hp:Hp):Prop where
 nx:n0<=hp.nx
 old:∀b,b<n0-> ¬W b->hp.m.get b=g0 b
 j:J k hp.m.get
structure Ey (P:Aw)(ov:Aa)(i:Nat)(W:Nat->Prop)(n0:Nat)(g0:Ac)(J:Nat->(Ac)->Prop)(Y:Nat->Af->Prop):Prop where
 stab:∀k g g',J k g->(∀b,W b->g' b=g b)->J k g'
 wlt:∀b,W b->b<n0
 nodfr:∀k g b,J k g->W b->g b≠some .dfr
 arg:∀k args,Y k args-> ∃ws:Af,args=[.agg ws.toArray]/\ws.length=6/\ws.all Value.oneCell'=true
 step:∀k args hp,St W n0 g0 J k hp->Y k args-> ∃hp',JR P ov i args hp (.bool true) hp'/\St W n0 g0 J (k+1) hp'/\Kp W hp hp'
section
variable {P :Aw}{ov:Aa}{i j n0 k:Nat}{W:Nat->Prop}{g0:Ac}{J:Nat->(Ac)->Prop}{Y:Nat->Af->Prop}{hp hp1 hp':Hp}
def Kp.refl :Kp W hp hp:=⟨Ri _,fun _ _ _=>rfl⟩
def Kp.trans (h:Kp W hp hp1)(h':Kp W hp1 hp'):Kp W hp hp':=⟨RU h.1 h'.1,fun b hb a=>(h'.2 b (RP hb h.1) a).trans (h.2 b hb a)⟩
variable {x:Bb Blk}
def Kp.new {b n:Nat}(hb:hp.nx<=b)(hn:hp.nx<=n):Kp W hp ⟨hp.m.set b x,n⟩:=⟨hn,fun q hq _=>by show(hp.m.set b x).get q=_;rw[TQ,Re (by omega)]⟩
def Kp.set {b n0:Nat}(h:Kp W hp hp1)(hb:hp.nx<=b):Kp W hp ⟨hp1.m.set b x,hp1.nx⟩:=⟨h.1,fun q hq a=>by show(hp1.m.set b x).get q=_;rw[TQ,Re (by omega)];exact h.2 q hq a⟩
def Kp.weak (h:Kp (fun _=>False) hp hp1):Kp W hp hp1:=⟨h.1,fun b hb _=>h.2 b hb id⟩
def Kp.keeps (h:Kp W hp hp1)(a:∀b,W b->hp.m.get b≠some .dfr):I8 hp hp1:=⟨h.1,fun r hr h0=>by rw[h.2 r hr fun c=>a r c h0];exact h0⟩
def St.grow (R:Ey P ov i W n0 g0 J Y)(h:St W n0 g0 J k hp)(hn:n0<=hp'.nx)(hk:∀b,b<n0->hp'.m.get b=hp.m.get b):St W n0 g0 J k hp':=
 ⟨hn,fun b hb a=>(hk b hb).trans (h.old b hb a),R.stab k _ _ h.j fun b hb=>hk b (R.wlt b hb)⟩
end
abbrev aF :Ay:=108
abbrev aG :Ay:=60
abbrev tYl :Ax:=171
def zM :R5 PR aF=Go.Proofs.Tryz.f108.body.getD .skip:=by kernel_rfl
def a_fn :PR.funcs[aF]? =some Go.Proofs.Tryz.f108:=by kernel_rfl
def a_ok :jB Go.Proofs.Tryz.f108=true:=by kernel_rfl
def Ox :R5 PR aG=Go.Proofs.Tryz.f60.body.getD .skip:=by kernel_rfl
def JU :PR.funcs[aG]? =some Go.Proofs.Tryz.f60:=by kernel_rfl
def Oy :jB Go.Proofs.Tryz.f60=true:=by kernel_rfl
def Km :Nat.beq tN rgT=false:=by kernel_rfl
def box_Y :Nat.beq tYl rgT=false:=by kernel_rfl
def OA :(PR.underlying tYl).map dF=some false:=by kernel_rfl
def zN :Av:=(V5 PR tN).getD undef
def zN_eq :V5 PR tN=some zN:=by kernel_rfl
def QH :zN.cells.toList.length=6:=by kernel_rfl
def zB :Ao:=fill .e 0 zN.cells.toList
section
variable {ov :Aa}{hp hp':Hp}{tm:Ao}{x y t i o n z:Nat}{cs:Ao}{v a:Av}
theorem KW {m:T Blk}{nx:Nat}{b:Blk}(c:(PR.underlying t).map dF=some false)(h:m.get i=some b)(hr:rdC b=some (cs,n,z))(hn:o+1<=n):D5 PR ⟨m,nx⟩ t (.pointer (some ⟨i,o,none⟩))=cs.get o:=by
 cases e:PR.underlying t with
 |none=>grind|some d=>rw[e]at c;simp at c;simp only[D5,h,hr,e,c,Rb,QQ hn,Ra]
def MP {b:Bool}(hx:tm.get x=some (.bool b))(call:i9):xop PR call tm hp (.unOp .not t (.tmp x))=some (.bool (!b),hp):=by simp only[c8,l5,Pc,c9,hx,RB,xun,i8]
def xo_fn {f:Ay}(hx:tm.get x=some a)(call:i9):xop PR call tm hp (.makeFunc (.func f) #[] #[.tmp x])=some (.func (.func f) #[] #[a],hp):=by simp only[c8,l5,yD,aH,c9,hx,RB]
def Ok (call:i9):xop PR call tm hp (.assign (.const .nilFunc))=some (.nilFunc,hp):=by have h:cst .nilFunc=true:=rfl;simp only[c8,l5,c9,h,Ra,i8]
def pK (call:i9):xop PR call tm hp (.alloc tN)=some (.pointer (some ⟨hp.nx,0,none⟩),⟨hp.m.set hp.nx (some (.cells zB 6 tN 6)),hp.nx+1⟩):=by simp only[c8,l5,gK,Km,Rb,xnw,bC,zN_eq,M1,Hp.add,Nw.val,I4,QH,zB]
variable {l:List a9}
def Qc {F:FB}{v:Av}(h:PV PR F (.sl tN) v (.lst (rows l))){j:Nat}{s:a9}(hj:l[j]? =some s):∃B r cc w dc C G ws,v= .slice (some ⟨B,r,none⟩) l.length cc/\F B=some w/\rdC w=some (dc,C,G)/\r+j*6+6<=C/\n9 dc (r+j*6) 6=some ws/\ws.length=6/\NT F s (fun q=>ws[q]?):=by
 generalize hL:rows l=L at h;have f:L.length=l.length:=by rw[<-hL];simp[rows]
 have E:=(QL.1 hj).1;cases h with
 |nils=>simp only[Tc]at f;omega|vague=>simp only[Tc]at f;omega|sl e i o c b cs n z u x hF hb hc hn hz hr hx hp=>
  have p:z=6:=by rw[hz,kf_N];rfl
  subst p;have g:L[j]? =some s.row:=by rw[<-hL];simp[rows,hj]
  have D:(j+1)*6<=L.length*6:=QW _ (by omega);have hg:∀q,q<6->cs.get (o+j*6+q)=some (x j q):=fun q hq=>hx j q s.row _ g (QV (by rw[mP];exact hq));have hl:n9 cs (o+j*6) 6=some ((List.range 6).map (x j)):=by have:=C0 (c:=cs) (vs:=(List.range 6).map (x j)) (o:=o+j*6) (fun q hq=>by simp only[Rc,List.length_range]at hq;rw[hg q hq];simp[hq]);simpa using this
  refine⟨i,o,c,b,cs,n,_,_,by rw[f],hF,hb,by omega,hl,by simp,.of_cells fun k d kd A hk=>?_⟩;have m:k<6:=by have:=(QL.1 A).1;rw[mP]at this;exact this
  exact⟨x j k,by simp[m],hp j k s.row kd d g A hk⟩
def Qb {F:FB}{v:Av}(h:PV PR F (.sl tN) v (.lst (rows l))):∃q c,v= .slice q l.length c:=by
 generalize hL:rows l=L at h;have d:L.length=l.length:=by rw[<-hL];simp[rows]
 cases h with
 |nils=>exact⟨_,_,by rw[<-d];rfl⟩|vague=>exact⟨_,_,by rw[<-d];rfl⟩|sl e i o c b cs n z f x hF hb hc hn hz hr hx hp=>exact⟨_,_,by rw[d]⟩
