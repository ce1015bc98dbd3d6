/- By hand: loads, stores and calls in the executor's memory.
  Conditions: none. -/
import Derived.Test.YtoegfalhkackeaaGreatA1
import Derived.Test.YtoegfalhkackeaaGreatP0
set_option maxRecDepth 10000
set_option linter.all false
noncomputable section
namespace Go.D
open Go Go.Xe Go.Sx
abbrev tN :Ax:=30
noncomputable def niN :Ba:=(PR.info? tN).getD default
def MN :PR.info? tN=some niN:=by kernel_rfl
def DI :niN.size=6:=by kernel_rfl
def agg_N :(PR.underlying tN).map dY=some true:=by kernel_rfl
def kf_N :kf PR tN=[.int .u8,.str,.str,.sl 101,.str,.sl tN]:=by kernel_rfl
section
variable {hp hp':Hp}{tm:Ao}{i o n e z:Nat}{cs:Ao}{vs:Af}{v u a:Av}{x y t:Nat}
def st_N (h:hp.m.get i=some (.cells cs n e z))(hn:o+6<=n)(hl:vs.length=6)(b:vs.all Value.oneCell'=true):E0 PR hp tN (.pointer (some ⟨i,o,none⟩)) (.agg vs.toArray)=some {hp with m:=hp.m.set i (some (.cells (fill cs o vs) n e z))}:=by have:(Value.agg vs.toArray).cells.toList=vs:=rfl;simp only[E0,h,MN,DI,this,hl,t9,Ts hn,b,Bool.and_self,TE,H3]
theorem ld_N' {m:T Blk}{nx:Nat}{b:Blk}(h:m.get i=some b)(hr:rdC b=some (cs,n,z))(hn:o+6<=n)(hl:j9 cs o 6=some vs):F8 PR ⟨m,nx⟩ tN (.pointer (some ⟨i,o,none⟩))=some (.agg vs.toArray):=by
 have h1:=agg_N;cases c:PR.underlying tN with
 |none=>grind|some d=>rw[c]at h1;simp at h1;simp only[F8,h,hr,c,h1,TE,MN,DI,Ts hn,hl]
def K4 (hx:tm.get x=some a)(h:F8 PR hp t a=some v)(call:i8):xop PR call tm hp (.load t (.tmp x))=some (v,hp):=by simp only[c8,j5,c9,hx,Ud,h,i7]
def dU (hx:tm.get x=some a)(hy:tm.get y=some u)(h:E0 PR hp t a u=some hp')(call:i8):xop PR call tm hp (.store t (.tmp x) (.tmp y))=some (undef,hp'):=by simp only[c8,j5,c9,hx,hy,Ud,h]
def Te (hx:tm.get x=some a)(hy:tm.get y=some u)(h:C4 PR t a u=some v)(call:i8):xop PR call tm hp (.indexAddr t (.tmp x) (.tmp y))=some (v,hp):=by simp only[c8,j5,c9,hx,hy,Ud,h,i7]
def Ct (ht:Nat.beq t rgT=false)(hx:tm.get x=some a)(call:i8):xop PR call tm hp (.box t (.tmp x))=some (.pointer (some ⟨hp.nx,0,none⟩),⟨hp.m.set hp.nx (some (.cells (fill .e 0 a.cells.toList) a.cells.toList.length t a.cells.toList.length)),hp.nx+1⟩):=by simp only[c8,j5,JW,ht,TF,xnw,c9,hx,Ud,L8,Hp.add,zU,Nw.val,I5]
def xo_lt {k m:Int}{t':Ax}(hx:tm.get x=some (.int .i64 k))(hy:tm.get y=some (.int .i64 m))(call:i8):xop PR call tm hp (.binOp .lss t (.tmp x) (.tmp y) t')=some (.bool (decide (k<m)),hp):=by simp only[c8,j5,c9,hx,hy,Ud,K9,cQ,Ur,TE,E2,jY,i7]
def Tf {k:Int}{t':Ax}(hx:tm.get x=some (.int .i64 k))(h0:0<=k)(h1:k<1000000)(call:i8):xop PR call tm hp (.binOp .add t (.tmp x) (.const (.int .i64 1)) t')=some (.int .i64 (k+1),hp):=by have h:cst (.int .i64 1)=true:=rfl;have b:IntKind.i64.wrap (k+1)=k+1:=Jc (by rw[show IntKind.i64.min= -9223372036854775808 from rfl];omega) (by rw[show IntKind.i64.max=9223372036854775807 from rfl];omega);simp only[c8,j5,c9,hx,h,Ud,K9,cQ,Ur,TE,E2,i7,b]
def Jf (hx:tm.get x=some a)(call:i8):xop PR call tm hp (.move (.tmp x))=some (a,hp):=by simp only[c8,j5,c9,hx,Ud,i7]
def Je (hx:tm.get x=some a)(call:i8):xop PR call tm hp (.assign (.tmp x))=some (a,hp):=by simp only[c8,j5,c9,hx,Ud,i7]
def Tg (call:i8):xop PR call tm hp (.move (.const (.int .i64 0)))=some (.int .i64 0,hp):=by have h:cst (.int .i64 0)=true:=rfl;simp only[c8,j5,c9,h,TE,i7]
def EW {ov:Aa}{f:Ay}{fn:Func}(hf:PR.funcs[f]? =some fn)(c:gA fn=true){ats:Array Ax}{y:Nat}{b:Av}(hx:tm.get x=some a)(hy:tm.get y=some b)(h:Y0 PR ov f [a,b] hp v hp'):XOp PR ov (.call ⟨.value (.func f),#[.tmp x,.tmp y],ats⟩) tm hp v hp':=
 h.mono fun n k=>by simp only[c8,j5,Y8,c9,hx,hy,Ud,kQ,hf,c,TE];exact k
def gp {d:Nat}:(y6 tm (some d) v).get x=if x=d then some v else tm.get x:=by unfold y6;rw[VX]
def gn :(y6 tm none v).get x=tm.get x:=rfl
end
abbrev tAt :Ax:=101
abbrev FB:=Nat->Bb Blk
def at6 (cs:Ao)(o:Nat):Nat->Ag:=fun q=>cs.get (o+q)
def NH (F:FB)(t:a9)(g:Nat->Ag):Prop:=
 g 0=some (.int .u8 t.k)/\g 1=some (.string ⟨t.t.toArray⟩)/\g 2=some (.string ⟨t.y.toArray⟩)/\(∃va,g 3=some va/\PV PR F (.sl tAt) va (.lst (t.a.map Att.row)))/\g 4=some (.string ⟨t.x.toArray⟩)
def NT (F:FB)(t:a9)(g:Nat->Ag):Prop:=NH F t g/\ ∃vc,g 5=some vc/\PV PR F (.sl tN) vc (.lst (rows t.c))
variable {F:FB}{t:a9}{g:Nat->Ag}
def NH.mono {F':FB}(h:Fle F F')(k:NH F t g):NH F' t g:=by obtain⟨a,b,c,⟨i,d,e⟩,f⟩:=k;exact⟨a,b,c,⟨i,d,e.mono PR h⟩,f⟩
def NT.mono {F':FB}(h:Fle F F')(k:NT F t g):NT F' t g:=by obtain⟨a,vc,d,e⟩:=k;exact⟨a.mono h,vc,d,e.mono PR h⟩
def Bj (t:a9):t.row=[.int t.k,.str t.t,.str t.y,.lst (t.a.map Att.row),.str t.x,.lst (rows t.c)]:=by
 obtain⟨k,t,y,a,x,c⟩:=t;have hr:∀c:List a9,a9.rows c=rows c:=fun c=>by
  induction c with
  |nil=>rfl|cons s c b=>simp only[a9.rows,rows,Um,b]
 simp only[a9.row,a9.k,a9.t,a9.y,a9.a,a9.x,a9.c,hr]
theorem NT.cell (h:NT F t g)(k:Nat)(d:Dat)(kd:Kd)(a:t.row[k]? =some d)(hk:(kf PR tN)[k]? =some kd):∃x,g k=some x/\PV PR F kd x d:=by
 obtain⟨⟨h0,h1,h2,⟨e,h3,b⟩,h4⟩,vc,h5,c⟩:=h;rw[Bj]at a;rw[kf_N]at hk
 match k,a,hk with
 |0,a,hk=>cases a;cases hk;exact⟨_,h0,.int _ _⟩
 |1,a,hk=>cases a;cases hk;exact⟨_,h1,.str _⟩
 |2,a,hk=>cases a;cases hk;exact⟨_,h2,.str _⟩
 |3,a,hk=>grind|4,a,hk=>cases a;cases hk;exact⟨_,h4,.str _⟩
 |5,a,hk=>grind|k+6,a,hk=>simp at a
def NT.of_cells (h:∀k d kd,t.row[k]? =some d->(kf PR tN)[k]? =some kd-> ∃x,g k=some x/\PV PR F kd x d):NT F t g:=by rw[kf_N,Bj]at h;obtain⟨x0,a,b0⟩:=h 0 _ _ rfl rfl;obtain⟨m,b,f⟩:=h 1 _ _ rfl rfl;obtain⟨n,a2,i⟩:=h 2 _ _ rfl rfl;obtain⟨o,a3,j⟩:=h 3 _ _ rfl rfl;obtain⟨p,c,l⟩:=h 4 _ _ rfl rfl;obtain⟨q,e,b5⟩:=h 5 _ _ rfl rfl;cases b0;cases f;cases i;cases l;exact⟨⟨a,b,a2,⟨_,a3,j⟩,c⟩,_,e,b5⟩
def DJ (t:a9):t.row.length=6:=by rw[Bj];rfl
end Go.D
namespace Go.D
open Go Go.Xe Go.Sx
def Kp (W:Nat->Prop)(hp hp':Hp):Prop:=hp.nx<=hp'.nx/\ ∀b,b<hp.nx-> ¬W b->hp'.m.get b=hp.m.get b
structure St (W:Nat->Prop)(n0:Nat)(g0:Ac)(J:Nat->(Ac)->Prop)(k:Nat)(hp:Hp):Prop where
 nx:n0<=hp.nx
 old:∀b,b<n0-> ¬W b->hp.m.get b=g0 b
 j:J k hp.m.get
structure Rnds (P:Aw)(ov:Aa)(i:Nat)(W:Nat->Prop)(n0:Nat)(g0:Ac)(J:Nat->(Ac)->Prop)(Y:Nat->Af->Prop):Prop where
 stab:∀k g g',J k g->(∀b,W b->g' b=g b)->J k g'
 wlt:∀b,W b->b<n0
 nodfr:∀k g b,J k g->W b->g b≠some .dfr
 arg:∀k args,Y k args-> ∃ws:Af,args=[.agg ws.toArray]/\ws.length=6/\ws.all Value.oneCell'=true
 step:∀k args hp,St W n0 g0 J k hp->Y k args-> ∃hp',Fl P ov i args hp (.bool true) hp'/\St W n0 g0 J (k+1) hp'/\Kp W hp hp'
section
variable {P :Aw}{ov:Aa}{i j n0 k:Nat}{W:Nat->Prop}{g0:Ac}{J:Nat->(Ac)->Prop}{Y:Nat->Af->Prop}{hp hp1 hp':Hp}
def Kp.refl :Kp W hp hp:=⟨TK _,fun _ _ _=>rfl⟩
def Kp.trans (h:Kp W hp hp1)(h':Kp W hp1 hp'):Kp W hp hp':=⟨Us h.1 h'.1,fun b hb a=>(h'.2 b (Uo hb h.1) a).trans (h.2 b hb a)⟩
variable {x:Bb Blk}
def Kp.new {b n:Nat}(hb:hp.nx<=b)(hn:hp.nx<=n):Kp W hp ⟨hp.m.set b x,n⟩:=⟨hn,fun q hq _=>by show(hp.m.set b x).get q=_;rw[VX,TH (by omega)]⟩
def Kp.set {b n0:Nat}(h:Kp W hp hp1)(hb:hp.nx<=b):Kp W hp ⟨hp1.m.set b x,hp1.nx⟩:=⟨h.1,fun q hq a=>by show(hp1.m.set b x).get q=_;rw[VX,TH (by omega)];exact h.2 q hq a⟩
def Kp.weak (h:Kp (fun _=>False) hp hp1):Kp W hp hp1:=⟨h.1,fun b hb _=>h.2 b hb id⟩
def Kp.keeps (h:Kp W hp hp1)(a:∀b,W b->hp.m.get b≠some .dfr):H7 hp hp1:=⟨h.1,fun r hr h0=>by rw[h.2 r hr fun c=>a r c h0];exact h0⟩
def St.grow (R:Rnds P ov i W n0 g0 J Y)(h:St W n0 g0 J k hp)(hn:n0<=hp'.nx)(hk:∀b,b<n0->hp'.m.get b=hp.m.get b):St W n0 g0 J k hp':=
 ⟨hn,fun b hb a=>(hk b hb).trans (h.old b hb a),R.stab k _ _ h.j fun b hb=>hk b (R.wlt b hb)⟩
end
abbrev aF :Ay:=108
abbrev tYl :Ax:=171
def a_eq :H9 PR aF=Go.Proofs.Tryz.f108.body.getD .skip:=by kernel_rfl
def box_N :Nat.beq tN rgT=false:=by kernel_rfl
def agg_Y :(PR.underlying tYl).map dY=some false:=by kernel_rfl
def zN :Av:=(V0 PR tN).getD undef
def zN_eq :V0 PR tN=some zN:=by kernel_rfl
def Ti :zN.cells.toList.length=6:=by kernel_rfl
def zB :Ao:=fill .e 0 zN.cells.toList
section
variable {ov :Aa}{hp hp':Hp}{tm:Ao}{x y t i o n z:Nat}{cs:Ao}{v a:Av}
theorem Do {m:T Blk}{nx:Nat}{b:Blk}(c:(PR.underlying t).map dY=some false)(h:m.get i=some b)(hr:rdC b=some (cs,n,z))(hn:o+1<=n):F8 PR ⟨m,nx⟩ t (.pointer (some ⟨i,o,none⟩))=cs.get o:=by
 cases e:PR.underlying t with
 |none=>grind|some d=>rw[e]at c;simp at c;simp only[F8,h,hr,e,c,TF,Ts hn,TE]
def Hm {b:Bool}(hx:tm.get x=some (.bool b))(call:i8):xop PR call tm hp (.unOp .not t (.tmp x))=some (.bool (!b),hp):=by simp only[c8,j5,QS,c9,hx,Ud,xun,i7]
def Qc (call:i8):xop PR call tm hp (.assign (.const .nilFunc))=some (.nilFunc,hp):=by have h:cst .nilFunc=true:=rfl;simp only[c8,j5,c9,h,TE,i7]
def KW (call:i8):xop PR call tm hp (.alloc tN)=some (.pointer (some ⟨hp.nx,0,none⟩),⟨hp.m.set hp.nx (some (.cells zB 6 tN 6)),hp.nx+1⟩):=by simp only[c8,j5,hX,box_N,TF,xnw,bR,zN_eq,L8,Hp.add,Nw.val,I5,Ti,zB]
