/- By hand: loads, stores and calls in the executor's memory.
  Conditions: none. -/
import Derived.Test.YtoegfalhkackeaaGreatP0
import Derived.Test.YtoegfalhkackeaaGreatG3
set_option maxRecDepth 10000
set_option linter.all false
noncomputable section
namespace Go.D
open Go Go.Xe Go.Sx
abbrev tN :Ax:=30
noncomputable def niN :Ba:=(PR.info? tN).getD default
def MH :PR.info? tN=some niN:=by kernel_rfl
def Eb :niN.size=6:=by kernel_rfl
def YJ :(PR.underlying tN).map dD=some true:=by kernel_rfl
def kf_N :kf PR tN=[.int .u8,.str,.str,.sl 101,.str,.sl tN]:=by kernel_rfl
section
variable {hp hp':Hp}{tm:Ao}{i o n e z:Nat}{cs:Ao}{vs:Af}{v u a:Av}{x y t:Nat}
def st_N (h:hp.m.get i=some (.cells cs n e z))(hn:o+6<=n)(hl:vs.length=6)(b:vs.all Value.oneCell'=true):I5 PR hp tN (.pointer (some ⟨i,o,none⟩)) (.agg vs.toArray)=some {hp with m:=hp.m.set i (some (.cells (fill cs o vs) n e z))}:=by have:(Value.agg vs.toArray).cells.toList=vs:=rfl;simp only[I5,h,MH,Eb,this,hl,u7,Ta hn,b,Bool.and_self,Tk,N4]
theorem XH {m:T Blk}{nx:Nat}{b:Blk}(h:m.get i=some b)(hr:rdC b=some (cs,n,z))(hn:o+6<=n)(hl:j7 cs o 6=some vs):G5 PR ⟨m,nx⟩ tN (.pointer (some ⟨i,o,none⟩))=some (.agg vs.toArray):=by
 have h1:=YJ;cases c:PR.underlying tN with
 |none=>grind|some d=>rw[c]at h1;simp at h1;simp only[G5,h,hr,c,h1,Tk,MH,Eb,Ta hn,hl]
def J7 (hx:tm.get x=some a)(h:G5 PR hp t a=some v)(call:i9):xop PR call tm hp (.load t (.tmp x))=some (v,hp):=by simp only[xop,ob,i6,hx,TL,h,j3]
def cZ (hx:tm.get x=some a)(hy:tm.get y=some u)(h:I5 PR hp t a u=some hp')(call:i9):xop PR call tm hp (.store t (.tmp x) (.tmp y))=some (undef,hp'):=by simp only[xop,ob,i6,hx,hy,TL,h]
def SI (hx:tm.get x=some a)(hy:tm.get y=some u)(h:D3 PR t a u=some v)(call:i9):xop PR call tm hp (.indexAddr t (.tmp x) (.tmp y))=some (v,hp):=by simp only[xop,ob,i6,hx,hy,TL,h,j3]
def CZ (ht:Nat.beq t rgT=false)(hx:tm.get x=some a)(call:i9):xop PR call tm hp (.box t (.tmp x))=some (.pointer (some ⟨hp.nx,0,none⟩),⟨hp.m.set hp.nx (some (.cells (fill .e 0 a.cells.toList) a.cells.toList.length t a.cells.toList.length)),hp.nx+1⟩):=by simp only[xop,ML,ht,Tl,xnw,i6,hx,TL,U8,Hp.add,AU,Nw.val,H8]
def WV {k m:Int}{b:Ax}(hx:tm.get x=some (.int .i64 k))(hy:tm.get y=some (.int .i64 m))(call:i9):xop PR call tm hp (.binOp .lss t (.tmp x) (.tmp y) b)=some (.bool (decide (k<m)),hp):=by simp only[xop,ob,i6,hx,hy,TL,M5,bS,Ua,Tk,K9,lR,j3]
def SJ {k:Int}{c:Ax}(hx:tm.get x=some (.int .i64 k))(h0:0<=k)(h1:k<1000000)(call:i9):xop PR call tm hp (.binOp .add t (.tmp x) (.const (.int .i64 1)) c)=some (.int .i64 (k+1),hp):=by have h:cst (.int .i64 1)=true:=rfl;have b:IntKind.i64.wrap (k+1)=k+1:=Jl (by rw[show IntKind.i64.min= -9223372036854775808 from rfl];omega) (by rw[show IntKind.i64.max=9223372036854775807 from rfl];omega);simp only[xop,ob,i6,hx,h,TL,M5,bS,Ua,Tk,K9,j3,b]
def Jp (hx:tm.get x=some a)(call:i9):xop PR call tm hp (.move (.tmp x))=some (a,hp):=by simp only[xop,ob,i6,hx,TL,j3]
def Jo (hx:tm.get x=some a)(call:i9):xop PR call tm hp (.assign (.tmp x))=some (a,hp):=by simp only[xop,ob,i6,hx,TL,j3]
def SK (call:i9):xop PR call tm hp (.move (.const (.int .i64 0)))=some (.int .i64 0,hp):=by have h:cst (.int .i64 0)=true:=rfl;simp only[xop,ob,i6,h,Tk,j3]
def Fq {ov:Aa}{f:Ay}{fn:Func}(hf:PR.funcs[f]? =some fn)(c:fJ fn=true){ats:Array Ax}{y:Nat}{b:Av}(hx:tm.get x=some a)(hy:tm.get y=some b)(h:V6 PR ov f [a,b] hp v hp'):XOp PR ov (.call ⟨.value (.func f),#[.tmp x,.tmp y],ats⟩) tm hp v hp':=
 h.mono λn k=>by simp only[xop,ob,aE,i6,hx,hy,TL,nW,hf,c,Tk];exact k
def gp {d:Nat}:(y7 tm (some d) v).get x=if x=d then some v else tm.get x:=by unfold y7;rw[VF]
def gn :(y7 tm none v).get x=tm.get x:=rfl
end
abbrev tAt :Ax:=101
abbrev FB:=Nat->Bb Blk
def at6 (cs:Ao)(o:Nat):Nat->Ag:=λq=>cs.get (o+q)
def NH (F:FB)(t:c9)(g:Nat->Ag):Prop:=
 g 0=some (.int .u8 t.k)/\g 1=some (.string ⟨t.t.toArray⟩)/\g 2=some (.string ⟨t.y.toArray⟩)/\(∃va,g 3=some va/\PV PR F (.sl tAt) va (.l (t.a.map Att.row)))/\g 4=some (.string ⟨t.x.toArray⟩)
def NT (F:FB)(t:c9)(g:Nat->Ag):Prop:=NH F t g/\ ∃vc,g 5=some vc/\PV PR F (.sl tN) vc (.l (rows t.c))
variable {F:FB}{t:c9}{g:Nat->Ag}
def NH.mono {F':FB}(h:Fle F F')(k:NH F t g):NH F' t g:=by obtain⟨a,b,c,⟨i,d,e⟩,f⟩:=k;exact⟨a,b,c,⟨i,d,e.mono PR h⟩,f⟩
def NT.mono {F':FB}(h:Fle F F')(k:NT F t g):NT F' t g:=by obtain⟨a,vc,d,e⟩:=k;exact⟨a.mono h,vc,d,e.mono PR h⟩
def BT (t:c9):t.row=[.i t.k,.s t.t,.s t.y,.l (t.a.map Att.row),.s t.x,.l (rows t.c)]:=by
 obtain⟨k,t,y,a,x,c⟩:=t;have hr:∀c:List c9,c9.rows c=rows c:=λc=>by
  induction c with
  |nil=>rfl|cons s c b=>simp only[c9.rows,rows,TV,b]
 simp only[c9.row,c9.k,c9.t,c9.y,c9.a,c9.x,c9.c,hr]
theorem NT.cell (h:NT F t g)(k:Nat)(d:Dat)(kd:Kd)(a:t.row[k]? =some d)(hk:(kf PR tN)[k]? =some kd):∃x,g k=some x/\PV PR F kd x d:=by
 obtain⟨⟨h0,h1,h2,⟨f,h3,b⟩,h4⟩,vc,e,c⟩:=h;rw[BT]at a;rw[kf_N]at hk
 match k,a,hk with
 |0,a,hk=>cases a;cases hk;exact⟨_,h0,.int _ _⟩
 |1,a,hk=>cases a;cases hk;exact⟨_,h1,.str _⟩
 |2,a,hk=>cases a;cases hk;exact⟨_,h2,.str _⟩
 |3,a,hk=>grind|4,a,hk=>cases a;cases hk;exact⟨_,h4,.str _⟩
 |5,a,hk=>grind|k+6,a,hk=>simp at a
def NT.of_cells (h:∀k d kd,t.row[k]? =some d->(kf PR tN)[k]? =some kd-> ∃x,g k=some x/\PV PR F kd x d):NT F t g:=by rw[kf_N,BT]at h;obtain⟨x0,a,b0⟩:=h 0 _ _ rfl rfl;obtain⟨p,b,j⟩:=h 1 _ _ rfl rfl;obtain⟨q,c,l⟩:=h 2 _ _ rfl rfl;obtain⟨r,e,m⟩:=h 3 _ _ rfl rfl;obtain⟨s,f,n⟩:=h 4 _ _ rfl rfl;obtain⟨u,i,o⟩:=h 5 _ _ rfl rfl;cases b0;cases j;cases l;cases n;exact⟨⟨a,b,c,⟨_,e,m⟩,f⟩,_,i,o⟩
def Ec (t:c9):t.row.length=6:=by rw[BT];rfl
end Go.D
namespace Go.D
open Go Go.Xe Go.Sx
def Kp (W:Nat->Prop)(hp hp':Hp):Prop:=hp.nx<=hp'.nx/\ ∀b,b<hp.nx-> ¬W b->hp'.m.get b=hp.m.get b
structure St (W:Nat->Prop)(n0:Nat)(g0:Ac)(J:Nat->(Ac)->Prop)(k:Nat)(hp:Hp):Prop where
 nx:n0<=hp.nx
 old:∀b,b<n0-> ¬W b->hp.m.get b=g0 b
 j:J k hp.m.get
structure Rnds (P:Aw)(ov:Aa)(i:Nat)(W:Nat->Prop)(n0:Nat)(g0:Ac)(J:Nat->(Ac)->Prop)(Y:Nat->Af->Prop):Prop where
 stab:∀k g g',J k g->(∀b,W b->g' b=g b)->J k g'
 wlt:∀b,W b->b<n0
 nodfr:∀k g b,J k g->W b->g b≠some .dfr
 arg:∀k args,Y k args-> ∃ws:Af,args=[.agg ws.toArray]/\ws.length=6/\ws.all Value.oneCell'=true
 step:∀k args hp,St W n0 g0 J k hp->Y k args-> ∃hp',FK P ov i args hp (.bool true) hp'/\St W n0 g0 J (k+1) hp'/\Kp W hp hp'
section
variable {P :Aw}{ov:Aa}{i j n0 k:Nat}{W:Nat->Prop}{g0:Ac}{J:Nat->(Ac)->Prop}{Y:Nat->Af->Prop}{hp hp1 hp':Hp}
def Kp.refl :Kp W hp hp:=⟨Tq _,λ_ _ _=>rfl⟩
def Kp.trans (h:Kp W hp hp1)(h':Kp W hp1 hp'):Kp W hp hp':=⟨Ub h.1 h'.1,λb hb a=>(h'.2 b (TX hb h.1) a).trans (h.2 b hb a)⟩
variable {x:Bb Blk}
def Kp.new {b n:Nat}(hb:hp.nx<=b)(hn:hp.nx<=n):Kp W hp ⟨hp.m.set b x,n⟩:=⟨hn,λq hq _=>by show(hp.m.set b x).get q=_;rw[VF,Tn (by omega)]⟩
def Kp.set {b n0:Nat}(h:Kp W hp hp1)(hb:hp.nx<=b):Kp W hp ⟨hp1.m.set b x,hp1.nx⟩:=⟨h.1,λq hq a=>by show(hp1.m.set b x).get q=_;rw[VF,Tn (by omega)];exact h.2 q hq a⟩
def Kp.weak (h:Kp (λ_=>False) hp hp1):Kp W hp hp1:=⟨h.1,λb hb _=>h.2 b hb id⟩
def Kp.keeps (h:Kp W hp hp1)(a:∀b,W b->hp.m.get b≠some .dfr):H4 hp hp1:=⟨h.1,λr hr h0=>by rw[h.2 r hr λc=>a r c h0];exact h0⟩
def St.grow (R:Rnds P ov i W n0 g0 J Y)(h:St W n0 g0 J k hp)(hn:n0<=hp'.nx)(hk:∀b,b<n0->hp'.m.get b=hp.m.get b):St W n0 g0 J k hp':=
 ⟨hn,λb hb a=>(hk b hb).trans (h.old b hb a),R.stab k _ _ h.j λb hb=>hk b (R.wlt b hb)⟩
end
abbrev aF :Ay:=108
abbrev tYl :Ax:=171
def a_eq :I9 PR aF=Go.Proofs.Tryz.f108.body.getD .skip:=by kernel_rfl
def YE :Nat.beq tN rgT=false:=by kernel_rfl
def YI :(PR.underlying tYl).map dD=some false:=by kernel_rfl
def zN :Av:=(S9 PR tN).getD undef
def WU :S9 PR tN=some zN:=by kernel_rfl
def SO :zN.cells.toList.length=6:=by kernel_rfl
def zB :Ao:=fill .e 0 zN.cells.toList
section
variable {ov :Aa}{hp hp':Hp}{tm:Ao}{x y t i o n z:Nat}{cs:Ao}{v a:Av}
theorem DP {m:T Blk}{nx:Nat}{b:Blk}(c:(PR.underlying t).map dD=some false)(h:m.get i=some b)(hr:rdC b=some (cs,n,z))(hn:o+1<=n):G5 PR ⟨m,nx⟩ t (.pointer (some ⟨i,o,none⟩))=cs.get o:=by
 cases e:PR.underlying t with
 |none=>grind|some d=>rw[e]at c;simp at c;simp only[G5,h,hr,e,c,Tl,Ta hn,Tk]
def HE {b:Bool}(hx:tm.get x=some (.bool b))(call:i9):xop PR call tm hp (.unOp .not t (.tmp x))=some (.bool (!b),hp):=by simp only[xop,ob,i6,hx,TL,xun,j3]
def PI (call:i9):xop PR call tm hp (.assign (.const .nilFunc))=some (.nilFunc,hp):=by have h:cst .nilFunc=true:=rfl;simp only[xop,ob,i6,h,Tk,j3]
def KQ (call:i9):xop PR call tm hp (.alloc tN)=some (.pointer (some ⟨hp.nx,0,none⟩),⟨hp.m.set hp.nx (some (.cells zB 6 tN 6)),hp.nx+1⟩):=by simp only[xop,kY,YE,Tl,xnw,aW,WU,U8,Hp.add,Nw.val,H8,SO,zB]
end
def Jz :Code->Code
 | .rangeFunc _ _ a _=>a|c=>c
def JA :Code->Code
 | .rangeFunc _ _ _ b=>b|c=>c
abbrev aC :Code:=I9 PR aF
abbrev aLB :Code:=cdA (cdA (cdB (cdB (cdB aC))))
abbrev aL2 :Code:=cdB (cdB aLB)
abbrev aRF :Code:=cdA (cdB (cdB (cdA (cdA aL2))))
abbrev aR6 :Code:=Jz aRF
abbrev aBo :Code:=JA aRF
abbrev aR7 :Code:=cdA (cdA aBo)
section
variable {ov :Aa}{hp hp1:Hp}{tm:Ao}{ws:Af}{i b y:Nat}{Q:Ao->Hp->Prop}{cs cy:Ao}{ar:Ai}
def Mv {vs:Af}{o:Nat}(a:vs.length=6):j7 (fill cs o vs) o 6=some vs:=by have:=A9 (c:=fill cs o vs) (vs:=vs) (o:=o) (λq hq=>by rw[j6,Tp ⟨by omega,by omega⟩];congr 1;omega);rwa[a]at this
def a_6 (a:tm.get 19=some (.agg ws.toArray))(c:ws.length=6)(d:ws.all Value.oneCell'=true)(k:∀tm1,(∀x,x≠5->tm1.get x=tm.get x)->tm1.get 5=some (.pointer (some ⟨hp.nx,0,none⟩))->Q tm1 ⟨(hp.m.set hp.nx (some (.cells zB 6 tN 6))).set hp.nx (some (.cells (fill zB 0 ws) 6 tN 6)),hp.nx+1⟩):YN PR ov ar 25 aR6 tm hp Q:=by unfold aR6 aRF aL2 aLB aC;rw[a_eq];simp only[Go.Proofs.Tryz.f108,TL,cdA,cdB,Jz];refine .region (.op rfl rfl KQ (.op rfl rfl (cZ (by simp only[gp];rfl) (by simp only[gp];exact a) (st_N (by rw[VF,Tp rfl]) (by omega) c d)) (.nil ⟨⟨Ur _,λr hr h=>?_⟩,k _ (λx hx=>?_) ?_⟩)));show((hp.m.set hp.nx _).set hp.nx _).get r=_;rw[VF,Tn (by omega),VF,Tn (by omega)];exact h;simp only[gp,gn];rw[Tn hx];simp only[gp,gn];rfl
def a_7 {c:Nat}(h2:tm.get 2=some (.pointer (some ⟨y,0,none⟩)))(a:tm.get 5=some (.pointer (some ⟨c,0,none⟩)))(hy:hp.m.get y=some (.cells (fill .e 0 [.chan (some i)]) 1 tYl 1))(hc:hp.m.get c=some (.cells cs 6 tN 6))(hl:j7 cs 0 6=some ws)(hx:FK PR ov i [.agg ws.toArray] hp (.bool true) hp1)(hk:H4 hp hp1)(k:∀tm1,tm1.get 23=some (.bool false)->Q tm1 hp1):YN PR ov ar 25 aR7 tm hp Q:=by unfold aR7 aBo aRF aL2 aLB aC;rw[a_eq];simp only[Go.Proofs.Tryz.f108,TL,cdA,cdB,JA];refine .region (.op rfl rfl (J7 h2 ((DP YI hy rfl (by omega)).trans (by rw[p7 _ _ (by simp)];rfl))) (.op rfl rfl (J7 (by rw[gp,Tn (by decide)];exact a) (XH hc rfl (by omega) hl)) ?_));refine .cons rfl rfl (xL (i:=i) (vs:=[.agg ws.toArray]) (by rw[gp,Tn (by decide),gp,Tp rfl]) ?_ hx) ?_;simp only[aE,i6,gp];rfl;refine .op rfl rfl (HE (by rw[gp,Tp rfl])) (.nil ⟨hk,k _ ?_⟩);simp only[gp];rfl
def evt {x:Nat}{v:Av}(h:tm.get x=some v):i6 tm (.tmp x)=some v:=by simp only[i6,h,TL]
end
structure OSt (n0:Nat)(g0:Ac)(O0:Nat->Prop)(J:Nat->(Nat->Prop)->(Ac)->Prop)(k:Nat)(O:Nat->Prop)(hp:Hp):Prop where
 nx:n0<=hp.nx
 old:∀b,b<n0-> ¬O b->hp.m.get b=g0 b
 lt:∀b,O b->b<hp.nx
 own:∀b,b<n0->O b->O0 b
 mono:∀b,O0 b->O b
 j:J k O hp.m.get
structure sY (P:Aw)(ov:Aa)(i z n0:Nat)(g0:Ac)(O0:Nat->Prop)(J:Nat->(Nat->Prop)->(Ac)->Prop)(Y:Nat->Af->Prop):Prop where
 stab:∀k O g g',J k O g->(∀b,O b->g' b=g b)->J k O g'
 nodfr:∀k O g b,J k O g->O b->g b≠some .dfr
 arg:∀k args,Y k args-> ∃ws:Af,args=[.agg ws.toArray]/\ws.length=z/\ws.all Value.oneCell'=true
 step:∀k O args hp,OSt n0 g0 O0 J k O hp->Y k args-> ∃hp' O',FK P ov i args hp (.bool true) hp'/\OSt n0 g0 O0 J (k+1) O' hp'/\Kp O hp hp'/\(∀b,O b->O' b)/\ ∀b,O' b->O b\/hp.nx<=b
section
variable {P :Aw}{ov:Aa}{i z n0 k:Nat}{O O0 O2:Nat->Prop}{g0:Ac}{J:Nat->(Nat->Prop)->(Ac)->Prop}{Y:Nat->Af->Prop}{hp hp' hp2:Hp}
def OSt.grow (R:sY P ov i z n0 g0 O0 J Y)(h:OSt n0 g0 O0 J k O hp)(hn:hp.nx<=hp'.nx)(hk:∀b,b<n0\/O b->hp'.m.get b=hp.m.get b):OSt n0 g0 O0 J k O hp':=
 ⟨Ub h.nx hn,λb hb a=>(hk b (.inl hb)).trans (h.old b hb a),λb hb=>TX (h.lt b hb) hn,h.own,h.mono,R.stab k _ _ _ h.j λb hb=>hk b (.inr hb)⟩
def OSt.start (h:OSt n0 g0 O0 J k O hp):OSt hp.nx hp.m.get O J k O hp:=
 ⟨Tq _,λ_ _ _=>rfl,h.lt,λ_ _ hb=>hb,λ_ hb=>hb,h.j⟩
def OSt.out (h2:OSt n0 g0 O0 J k O2 hp2){k':Nat}(h:OSt hp2.nx hp2.m.get O2 J k' O hp):OSt n0 g0 O0 J k' O hp:=
 ⟨Ub h2.nx h.nx,λb hb a=>(h.old b (TX hb h2.nx) a).trans (h2.old b hb λh'=>a (h.mono b h')),h.lt,λb hb a=>h2.own b hb (h.own b (TX hb h2.nx) a),λb hb=>h.mono b (h2.mono b hb),h.j⟩
def OSt.inn {O':Nat->Prop}{k':Nat}(h2:OSt n0 g0 O0 J k O2 hp2){k1:Nat}(h:OSt hp2.nx hp2.m.get O2 J k1 O hp)(h':OSt n0 g0 O0 J k' O' hp')(hk:∀b,b<hp2.nx-> ¬O' b->hp'.m.get b=hp2.m.get b)(hn:hp2.nx<=hp'.nx)(m1:∀b,O b->O' b)(c:∀b,O' b->O b\/hp2.nx<=b):OSt hp2.nx hp2.m.get O2 J k' O' hp':=
 ⟨hn,hk,h'.lt,λb hb a=>by rcases c b a with h3|h3;exact h.own b hb h3;omega,λb hb=>m1 b (h.mono b hb),h'.j⟩
end
abbrev bF :Ay:=101
abbrev bG :Ay:=53
abbrev tHn :Ax:=34
abbrev tYh :Ax:=162
def FP :I9 PR bF=Go.Proofs.Tryz.f101.body.getD .skip:=by kernel_rfl
def b_fn :PR.funcs[bF]? =some Go.Proofs.Tryz.f101:=by kernel_rfl
def b_ok :fJ Go.Proofs.Tryz.f101=true:=by kernel_rfl
def Qb :PR.funcs[bG]? =some Go.Proofs.Tryz.f53:=by kernel_rfl
def YF :fJ Go.Proofs.Tryz.f53=true:=by kernel_rfl
def Qe :Nat.beq tHn rgT=false:=by kernel_rfl
def QT :Nat.beq tYh rgT=false:=by kernel_rfl
def Le :(PR.underlying tYh).map dD=some false:=by kernel_rfl
def YK :(PR.underlying tHn).map dD=some true:=by kernel_rfl
noncomputable def niH :Ba:=(PR.info? tHn).getD default
def pC :PR.info? tHn=some niH:=by kernel_rfl
def cO :niH.size=2:=by kernel_rfl
def zH :Av:=(S9 PR tHn).getD undef
def QE :S9 PR tHn=some zH:=by kernel_rfl
def qQ :zH.cells.toList.length=2:=by kernel_rfl
def zHB :Ao:=fill .e 0 zH.cells.toList
section
variable {ov :Aa}{hp hp1 hp':Hp}{tm:Ao}{x y t i o n e z b:Nat}{cs:Ao}{vs ws:Af}{v a:Av}{Q:Ao->Hp->Prop}{ar:Ai}
theorem JH {m:T Blk}{nx:Nat}{c:Blk}(h:m.get i=some c)(hr:rdC c=some (cs,n,z))(hn:o+2<=n)(hl:j7 cs o 2=some vs):G5 PR ⟨m,nx⟩ tHn (.pointer (some ⟨i,o,none⟩))=some (.agg vs.toArray):=by
 have h1:=YK;cases f:PR.underlying tHn with
 |none=>grind|some d=>rw[f]at h1;simp at h1;simp only[G5,h,hr,f,h1,Tk,pC,cO,Ta hn,hl]
def st_H (h:hp.m.get i=some (.cells cs n e z))(hn:o+2<=n)(hl:vs.length=2)(c:vs.all Value.oneCell'=true):I5 PR hp tHn (.pointer (some ⟨i,o,none⟩)) (.agg vs.toArray)=some {hp with m:=hp.m.set i (some (.cells (fill cs o vs) n e z))}:=by have:(Value.agg vs.toArray).cells.toList=vs:=rfl;simp only[I5,h,pC,cO,this,hl,u7,Ta hn,c,Bool.and_self,Tk,N4]
def qJ (call:i9):xop PR call tm hp (.alloc tHn)=some (.pointer (some ⟨hp.nx,0,none⟩),⟨hp.m.set hp.nx (some (.cells zHB 2 tHn 2)),hp.nx+1⟩):=by simp only[xop,kY,Qe,Tl,xnw,aW,QE,U8,Hp.add,Nw.val,H8,qQ,zHB]
def iK (h2:vs.length=2):j7 (fill cs o vs) o 2=some vs:=by have:=A9 (c:=fill cs o vs) (vs:=vs) (o:=o) (λq hq=>by rw[j6,Tp ⟨by omega,by omega⟩];congr 1;omega);rwa[h2]at this
abbrev bC :Code:=I9 PR bF
abbrev bLB :Code:=cdA (cdA (cdB (cdB (cdB (cdB bC)))))
abbrev bL2 :Code:=cdB (cdB bLB)
abbrev bRF :Code:=cdA (cdB (cdB (cdA (cdA bL2))))
abbrev bR7 :Code:=Jz bRF
abbrev bBo :Code:=JA bRF
abbrev bR8 :Code:=cdA (cdA bBo)
def b_bo :bBo= .block 3 (.seq bR8 (.cond (.tmp 33) .ret .skip)):=by kernel_rfl
def b_7 (c:tm.get 29=some (.agg ws.toArray))(h2:ws.length=2)(d:ws.all Value.oneCell'=true)(k:∀tm1,(∀x,x≠8->tm1.get x=tm.get x)->tm1.get 8=some (.pointer (some ⟨hp.nx,0,none⟩))->Q tm1 ⟨(hp.m.set hp.nx (some (.cells zHB 2 tHn 2))).set hp.nx (some (.cells (fill zHB 0 ws) 2 tHn 2)),hp.nx+1⟩):YN PR ov ar 35 bR7 tm hp Q:=by unfold bR7 bRF bL2 bLB bC;rw[FP];simp only[Go.Proofs.Tryz.f101,TL,cdA,cdB,Jz];refine .region (.op rfl rfl qJ (.op rfl rfl (cZ (by simp only[gp];rfl) (by simp only[gp];exact c) (st_H (by rw[VF,Tp rfl]) (by omega) h2 d)) (.nil ⟨⟨Ur _,λr hr h=>?_⟩,k _ (λx hx=>?_) ?_⟩)));show((hp.m.set hp.nx _).set hp.nx _).get r=_;rw[VF,Tn (by omega),VF,Tn (by omega)];exact h;simp only[gp,gn];rw[Tn hx];simp only[gp,gn];rfl
def b_8 {c:Nat}(h3:tm.get 3=some (.pointer (some ⟨y,0,none⟩)))(d:tm.get 8=some (.pointer (some ⟨c,0,none⟩)))(hy:hp.m.get y=some (.cells (fill .e 0 [.chan (some i)]) 1 tYh 1))(hc:hp.m.get c=some (.cells cs 2 tHn 2))(hl:j7 cs 0 2=some ws)(hx:FK PR ov i [.agg ws.toArray] hp (.bool true) hp1)(hk:H4 hp hp1)(k:∀tm1,tm1.get 33=some (.bool false)->Q tm1 hp1):YN PR ov ar 35 bR8 tm hp Q:=by unfold bR8 bBo bRF bL2 bLB bC;rw[FP];simp only[Go.Proofs.Tryz.f101,TL,cdA,cdB,JA];refine .region (.op rfl rfl (J7 h3 ((DP Le hy rfl (by omega)).trans (by rw[p7 _ _ (by simp)];rfl))) (.op rfl rfl (J7 (by rw[gp,Tn (by decide)];exact d) (JH hc rfl (by omega) hl)) ?_));refine .cons rfl rfl (xL (i:=i) (vs:=[.agg ws.toArray]) (by rw[gp,Tn (by decide),gp,Tp rfl]) ?_ hx) ?_;simp only[aE,i6,gp];rfl;refine .op rfl rfl (HE (by rw[gp,Tp rfl])) (.nil ⟨hk,k _ ?_⟩);simp only[gp];rfl
end
section
variable {ov :Aa}{i j y n0 k2 db:Nat}{g0:Ac}{O0 O2:Nat->Prop}{J:Nat->(Nat->Prop)->(Ac)->Prop}{Y:Nat->Af->Prop}{hp2:Hp}{tms:Ao}
def Rx (R:sY PR ov i 2 n0 g0 O0 J Y)(S2:OSt n0 g0 O0 J k2 O2 hp2)(hj:hp2.m.get j=some (.loop .ready none 35 tms #[29] bR7 bBo db))(Q:¬O2 j)(F:j<hp2.nx)(jn:n0<=j)(hy:hp2.m.get y=some (.cells (fill .e 0 [.chan (some i)]) 1 tYh 1))(y0:¬O2 y)(G:y<hp2.nx)(yj:y≠j)(t3:tms.get 3=some (.pointer (some ⟨y,0,none⟩))):sY PR ov j 2 hp2.nx hp2.m.get O2 J Y where
 stab:=R.stab
 nodfr:=R.nodfr
 arg:=R.arg
 step:=by
  intro k O args hp S E;obtain⟨ws,rfl,h2,P⟩:=R.arg k args E;have o:¬O j:=λh=>Q (S.own j F h);have X:¬O y:=λh=>y0 (S.own y G h);have f:=(S.old j F o).trans hj;have v:=(S.old y G X).trans hy;have N:=S.nx;have U:=S2.nx;obtain⟨tm1,hp1,H,Z,q8,q⟩:YN PR ov (some j) 35 bR7 (gO tms [29] [.agg ws.toArray]) hp λtm1 h1=>tm1.get 3=some (.pointer (some ⟨y,0,none⟩))/\tm1.get 8=some (.pointer (some ⟨hp.nx,0,none⟩))/\h1=⟨(hp.m.set hp.nx (some (.cells zHB 2 tHn 2))).set hp.nx (some (.cells (fill zHB 0 ws) 2 tHn 2)),hp.nx+1⟩:=
   b_7 (by show(tms.set 29 _).get 29=_;rw[VF,Tp rfl]) h2 P λtm1 a b=>⟨by rw[a 3 (by decide)];show(tms.set 29 _).get 3=_;rw[VF,Tn (by decide)];exact t3,b,rfl⟩
  have C:∀b,b≠hp.nx->hp1.m.get b=hp.m.get b:=λb hb=>by rw[q];show((hp.m.set hp.nx _).set hp.nx _).get b=_;rw[VF,Tn hb,VF,Tn hb]
  have L:hp1.m.get hp.nx=some (.cells (fill zHB 0 ws) 2 tHn 2):=by rw[q];show((hp.m.set hp.nx _).set hp.nx _).get hp.nx=_;rw[VF,Tp rfl]
  have A:hp1.nx=hp.nx+1:=by rw[q]
  have u:hp1.m.get j=some (.loop .ready none 35 tms #[29] bR7 bBo db):=(C j (by omega)).trans f;let g:Hp:=⟨hp1.m.set j (some (.loop .busy none 35 tms #[29] bR7 bBo db)),hp1.nx⟩
  have r:∀b,b≠j->b≠hp.nx->g.m.get b=hp.m.get b:=λb h1 h2=>by show(hp1.m.set j _).get b=_;rw[VF,Tn h1];exact C b h2
  have s:g.m.get j=some (.loop .busy none 35 tms #[29] bR7 bBo db):=by show(hp1.m.set j _).get j=_;rw[VF,Tp rfl]
  have V:g.nx=hp.nx+1:=A;have SB:OSt n0 g0 O0 J k O g:=(S2.out S).grow R (by omega) λb hb=>by
   have:b≠j/\b<hp.nx:=by rcases hb with hb|hb;omega;exact⟨λe=>o (by rw[<-e];exact hb),S.lt b hb⟩
   exact r b this.1 (by omega)
  obtain⟨M,O',XR,SC,KC,m1,x⟩:=R.step k O _ g SB E;have w:=KC.keeps λb hb=>R.nodfr k O _ b SB.j hb;obtain⟨B,d,I,K⟩:YN PR ov (some j) 35 bBo tm1 g λ_ h2=>h2=M:=by rw[b_bo];refine .block (.seq (b_8 (i:=i) (y:=y) (c:=hp.nx) (cs:=fill zHB 0 ws) Z q8 ?_ ?_ (iK h2) XR w λB h=>.condF (evt h) (.skip rfl)));rw[r y yj (by omega)];exact v;show(hp1.m.set j _).get hp.nx=_;rw[VF,Tn (by omega)];exact L
  subst K;have t:d.m.get j=some (.loop .busy none 35 tms #[29] bR7 bBo db):=(KC.2 j (by omega) o).trans s;have W:=KC.1;have z:¬O' j:=λh=>by rcases x j h with h|h;exact o h;omega
  have D:∀b,b<hp.nx-> ¬O b->(d.m.set j (some (.loop .ready none 35 tms #[29] bR7 bBo db))).get b=hp.m.get b:=λb h1 h2=>by rw[VF];split;rename_i e;rw[e];exact f.symm;rename_i e;rw[KC.2 b (by omega) h2];exact r b e (by omega)
  have p:OSt n0 g0 O0 J (k+1) O' ⟨d.m.set j (some (.loop .ready none 35 tms #[29] bR7 bBo db)),d.nx⟩:=SC.grow R (Tq _) λb hb=>by show(d.m.set j _).get b=_;rw[VF,Tn];rintro rfl;rcases hb with hb|hb;omega;exact z hb
  refine⟨⟨d.m.set j (some (.loop .ready none 35 tms #[29] bR7 bBo db)),d.nx⟩,O',xrnd f rfl rfl H u I t,S2.inn S p (λb hb n=>?_) (by show hp2.nx<=d.nx;omega) m1 (λb n=>?_),⟨by show hp.nx<=d.nx;omega,D⟩,m1,λb n=>?_⟩;show(d.m.set j _).get b=_;have l:¬O b:=λh=>n (m1 b h);rw[D b (by omega) l];exact S.old b hb l;rcases x b n with h|h;exact .inl h;exact .inr (by omega);rcases x b n with h|h;exact .inl h;exact .inr (by omega)
end
abbrev tHs :Ax:=41
abbrev tVw :Ax:=108
abbrev tDp :Ax:=25
def wV :PR.underlying tHs=some (.slice tHn):=by kernel_rfl
def FN :(PR.underlying tHs).map dD=some false:=by kernel_rfl
def Ld :(PR.underlying tDp).map dD=some false:=by kernel_rfl
def QR :Nat.beq tDp rgT=false:=by kernel_rfl
def fa_V (i o:Nat):U1 PR tVw (.pointer (some ⟨i,o,none⟩)) 8=some (.pointer (some ⟨i,o+9,none⟩)):=by kernel_rfl
abbrev bR0 :Code:=cdA bC
abbrev bR1 :Code:=cdA (cdA (cdB bC))
abbrev bR2 :Code:=cdA (cdB (cdB bC))
abbrev bR3 :Code:=cdA (cdB (cdB (cdB bC)))
abbrev bR4 :Code:=cdA bLB
abbrev bR5 :Code:=cdA (cdA (cdA bL2))
abbrev bR6 :Code:=cdA (cdB (cdA (cdA bL2)))
abbrev bR9 :Code:=cdB bL2
abbrev bLp :Code:= .seq bR4 (.seq (.cond (.tmp 23) .skip (.exit 0)) (.seq (.block 1 (.seq bR5 (.seq bR6 (.block 2 (.rangeFunc (.tmp 28) #[29] bR7 bBo))))) bR9))
def QN :I9 PR bF= .seq bR0 (.seq (.seq bR1 (.cond (.tmp 12) .ret .skip)) (.seq bR2 (.seq bR3 (.block 0 (.loop bLp))))):=by kernel_rfl
section
variable {ov :Aa}{hp hp1:Hp}{tm:Ao}{ws:Af}{i b y:Nat}{Q:Ao->Hp->Prop}{cs:Ao}{ar:Ai}{v:Av}{x t o:Nat}
def ix_H {q c:Nat}{k:Int}(h0:0<=k)(h1:k<q):D3 PR tHs (.slice (some ⟨i,o,none⟩) q c) (.int .i64 k)=some (.pointer (some ⟨i,o+k.toNat*2,none⟩)):=by simp only[D3,wV,pC,cO,h0,h1,Ua,Bool.and_self,Tk]
def PG (hx:tm.get x=some (.pointer (some ⟨i,o,none⟩)))(call:i9):xop PR call tm hp (.fieldAddr tVw (.tmp x) 8)=some (.pointer (some ⟨i,o+9,none⟩),hp):=by simp only[xop,ob,i6,hx,TL,fa_V,j3]
def PH {q:Aq}{l c:Nat}{a:Array Ax}(hx:tm.get x=some (.slice q l c))(ht:a.toList=[tHs])(call:i9):xop PR call tm hp (.call ⟨.builtin .len,#[.tmp x],a⟩)=some (.int .i64 l,hp):=by have h:lU PR tHs (.slice q l c)=some (.int .i64 l):=xG wV q l c;simp only[xop,ob,aE,i6,hx,TL,B9,ht,h,j3]
def b_0 {u v:Av}(h0:tm.get 0=some (.chan (some i)))(h1:tm.get 1=some u)(h2:tm.get 2=some v)(k:∀tm1,tm1.get 1=some u->tm1.get 2=some v->tm1.get 3=some (.pointer (some ⟨hp.nx,0,none⟩))->Q tm1 ⟨hp.m.set hp.nx (some (.cells (fill .e 0 [.chan (some i)]) 1 tYh 1)),hp.nx+1⟩):YN PR ov ar 35 bR0 tm hp Q:=by unfold bR0 bC;rw[FP];simp only[Go.Proofs.Tryz.f101,TL,cdA,cdB];have e:(Value.chan (some i)).cells.toList=[.chan (some i)]:=rfl;refine .region (.op rfl rfl (CZ QT h0) (.nil ?_));rw[e];refine⟨⟨Ur _,λr hr h=>by show(hp.m.set hp.nx _).get r=_;rw[VF,Tn (by omega)];exact h⟩,k _ ?_ ?_ ?_⟩;rw[gp,Tn (by decide)];exact h1;rw[gp,Tn (by decide)];exact h2;rw[gp,Tp rfl]
def b_1 {nb c zb:Nat}(h1:tm.get 1=some (.pointer (some ⟨b,o,none⟩)))(h3:tm.get 3=some (.pointer (some ⟨y,0,none⟩)))(hy:hp.m.get y=some (.cells (fill .e 0 [.chan (some i)]) 1 tYh 1))(hb:hp.m.get b=some (.cells cs nb c zb))(a:o+2<=nb)(hl:j7 cs o 2=some ws)(hx:FK PR ov i [.agg ws.toArray] hp (.bool true) hp1)(hk:H4 hp hp1)(k:∀tm1,(∀x,x<9->tm1.get x=tm.get x)->tm1.get 12=some (.bool false)->Q tm1 hp1):YN PR ov ar 35 bR1 tm hp Q:=by
 unfold bR1 bC;rw[FP];simp only[Go.Proofs.Tryz.f101,TL,cdA,cdB];refine .region (.op rfl rfl (J7 h3 ((DP Le hy rfl (by omega)).trans (by rw[p7 _ _ (by simp)];rfl))) (.op rfl rfl (J7 (by rw[gp,Tn (by decide)];exact h1) (JH hb rfl a hl)) ?_));refine .cons rfl rfl (xL (i:=i) (vs:=[.agg ws.toArray]) (by rw[gp,Tn (by decide),gp,Tp rfl]) ?_ hx) ?_;simp only[aE,i6,gp];rfl;refine .op rfl rfl (HE (by rw[gp,Tp rfl])) (.nil ⟨hk,k _ (λx hx=>?_) ?_⟩)
 .simp only[gp];iterate 4 rw[Tn (by omega)]
 simp only[gp];rfl
def b_4 {n j:Int}(a:tm.get 21=some (.int .i64 n))(c:tm.get 22=some (.int .i64 j))(k:∀tm1,(∀x,x≠23->tm1.get x=tm.get x)->tm1.get 23=some (.bool (decide (j<n)))->Q tm1 hp):YN PR ov ar 35 bR4 tm hp Q:=by unfold bR4 bLB bC;rw[FP];simp only[Go.Proofs.Tryz.f101,TL,cdA,cdB];exact .region (.op rfl rfl (WV c a) (.nil ⟨.refl _,k _ (λx hx=>by rw[gp,Tn hx]) (by rw[gp,Tp rfl])⟩))
def b_9 {j:Int}(a:tm.get 22=some (.int .i64 j))(h0:0<=j)(h1:j<1000000)(k:∀tm1,(∀x,x<22->tm1.get x=tm.get x)->tm1.get 22=some (.int .i64 (j+1))->Q tm1 hp):YN PR ov ar 35 bR9 tm hp Q:=by unfold bR9 bL2 bLB bC;rw[FP];simp only[Go.Proofs.Tryz.f101,TL,cdA,cdB];refine .region (.op rfl rfl (SJ a h0 h1) (.op rfl rfl (Jp (by simp only[gp];rfl)) (.nil ⟨.refl _,k _ (λx hx=>?_) ?_⟩)));simp only[gp];rw[Tn (by omega),Tn (by omega)];simp only[gp];rfl
end
section
variable {ov :Aa}{hp hp1:Hp}{tm:Ao}{ws:Af}{i b y:Nat}{Q:Ao->Hp->Prop}{cs:Ao}{ar:Ai}{v a:Av}{x t o n z:Nat}
theorem b_3 {q:Aq}{l c d g e:Nat}(h4:tm.get 4=some (.pointer (some ⟨b,0,none⟩)))(hb:hp.m.get b=some (.cells cs d e g))(hn:10<=d)(f:cs.get 9=some (.slice q l c))(k:∀tm1,(∀x,x<9->tm1.get x=tm.get x)->tm1.get 20=some (.slice q l c)->tm1.get 21=some (.int .i64 l)->tm1.get 22=some (.int .i64 0)->Q tm1 hp):YN PR ov ar 35 bR3 tm hp Q:=by unfold bR3 bC;refine .region (.op rfl rfl (PG h4) (.op rfl rfl (J7 (by simp only[gp];rfl) ((DP FN hb rfl (by omega)).trans f)) (.op rfl rfl (PH (by simp only[gp];rfl) rfl) (.op rfl rfl SK (.nil ⟨.refl _,k _ (λx hx=>?_) ?_ ?_ ?_⟩)))));simp only[gp];grind;simp only[gp];rfl;simp only[gp];rfl;simp only[gp];rfl
theorem b_5 {g e l cc p A:Nat}{f:Blk}{dc:Ao}{j:Int}(c:tm.get 20=some (.slice (some ⟨g,e,none⟩) l cc))(d:tm.get 22=some (.int .i64 j))(s:0<=j)(w:j<l)(hc:hp.m.get g=some f)(hr:rdC f=some (dc,p,A))(hn:e+j.toNat*2+2<=p)(hl:j7 dc (e+j.toNat*2) 2=some ws)(h2:ws.length=2)(q:ws.all Value.oneCell'=true)(k:∀tm1,(∀x,x<24->x≠7->tm1.get x=tm.get x)->tm1.get 7=some (.pointer (some ⟨hp.nx,0,none⟩))->Q tm1 ⟨(hp.m.set hp.nx (some (.cells zHB 2 tHn 2))).set hp.nx (some (.cells (fill zHB 0 ws) 2 tHn 2)),hp.nx+1⟩):YN PR ov ar 35 bR5 tm hp Q:=by unfold bR5 bL2 bLB bC;refine .region (.op rfl rfl (SI c d (ix_H s w)) (.op rfl rfl (J7 (by simp only[gp];rfl) (JH hc hr hn hl)) (.op rfl rfl qJ (.op rfl rfl (cZ (by simp only[gp];rfl) (by simp only[gp];rfl) (st_H (by rw[VF,Tp rfl]) (by omega) h2 q)) (.nil ⟨⟨Ur _,λr hr h=>?_⟩,k _ (λx hx B=>?_) ?_⟩)))));show((hp.m.set hp.nx _).set hp.nx _).get r=_;rw[VF,Tn (by omega),VF,Tn (by omega)];exact h;simp only[gp,gn];grind;simp only[gp,gn];rfl
variable {u:Av}
theorem b_6 {c bd e g q h:Nat}{f:Ao}(h2:tm.get 2=some (.pointer (some ⟨bd,e,none⟩)))(l:hp.m.get bd=some (.cells f g h q))(d:e+1<=g)(p:f.get e=some u)(j:tm.get 7=some (.pointer (some ⟨c,0,none⟩)))(hc:hp.m.get c=some (.cells cs 2 tHn 2))(hl:j7 cs 0 2=some ws)(hx:V6 PR ov bG [u,.agg ws.toArray] hp v hp1)(hk:H4 hp hp1)(k:∀tm1,(∀x,x<26->tm1.get x=tm.get x)->tm1.get 28=some v->Q tm1 hp1):YN PR ov ar 35 bR6 tm hp Q:=by unfold bR6 bL2 bLB bC;refine .region (.op rfl rfl (J7 h2 ((DP Ld l rfl d).trans p)) (.op rfl rfl (J7 (by rw[gp,Tn (by omega)];exact j) (JH hc rfl (by omega) hl)) (.cons rfl rfl (Fq Qb YF (by rw[gp,Tn (by omega),gp,Tp rfl]) (by rw[gp,Tp rfl]) hx) (.nil ⟨hk,k _ (λx hx=>?_) ?_⟩))));simp only[gp];grind;simp only[gp];rfl
def SH {f:Ay}(hx:tm.get x=some a)(hy:tm.get y=some u)(call:i9):xop PR call tm hp (.makeFunc (.func f) #[] #[.tmp x,.tmp y])=some (.func (.func f) #[] #[a,u],hp):=by simp only[xop,ob,j3,aE,i6,hx,hy,TL]
abbrev hR0 :Code:=cdA (I9 PR bG)
abbrev hR1 :Code:=cdA (cdB (I9 PR bG))
def Ru :I9 PR bG= .seq hR0 (.seq hR1 .ret):=by kernel_rfl
theorem ha_0 {p:Aq}(h0:tm.get 0=some (.pointer p))(h1:tm.get 1=some (.agg ws.toArray))(h2:ws.length=2)(k:∀tm1,tm1.get 2=some (.pointer (some ⟨hp.nx,0,none⟩))->tm1.get 3=some (.pointer (some ⟨hp.nx+1,0,none⟩))->Q tm1 ⟨(hp.m.set hp.nx (some (.cells (fill .e 0 [.pointer p]) 1 tDp 1))).set (hp.nx+1) (some (.cells (fill .e 0 ws) 2 tHn 2)),hp.nx+2⟩):YN PR ov none 6 hR0 tm hp Q:=by unfold hR0;have e:(Value.agg ws.toArray).cells.toList=ws:=rfl;have e':(Value.pointer p).cells.toList=[.pointer p]:=rfl;refine .region (.op rfl rfl (CZ QR h0) (.op rfl rfl (CZ Qe (by rw[gp,Tn (by omega)];exact h1)) ?_));rw[e,e',h2];refine .op rfl rfl PI (.nil ⟨⟨by grind,λr hr h=>?_⟩,k _ ?_ ?_⟩);show((hp.m.set hp.nx _).set (hp.nx+1) _).get r=_;rw[VF,Tn (by omega),VF,Tn (by omega)];exact h;simp only[gp];rfl;simp only[gp];rfl
def ha_1 (h2:tm.get 2=some u)(h3:tm.get 3=some a)(k:∀tm1,tm1.get 4=some (.func (.func bF) #[] #[a,u])->Q tm1 hp):YN PR ov none 6 hR1 tm hp Q:=by unfold hR1;refine .region (.op rfl rfl (SH h3 h2) (.op rfl rfl (Jo (by simp only[gp];rfl)) (.nil ⟨.refl _,k _ ?_⟩)));simp only[gp];rfl
end
def Jy {ov:Aa}{hp:Hp}{ws:Af}{p:Aq}(hg:Xe.isT (ov bG)=false)(h2:ws.length=2):∃hp',V6 PR ov bG [.pointer p,.agg ws.toArray] hp (.func (.func bF) #[] #[.pointer (some ⟨hp.nx+1,0,none⟩),.pointer (some ⟨hp.nx,0,none⟩)]) hp'/\hp'.nx=hp.nx+2/\hp'.m.get hp.nx=some (.cells (fill .e 0 [.pointer p]) 1 tDp 1)/\hp'.m.get (hp.nx+1)=some (.cells (fill .e 0 ws) 2 tHn 2)/\(∀b,b<hp.nx->hp'.m.get b=hp.m.get b):=by
 obtain⟨tm1,hp1,X0,o,q,k⟩:=ha_0 (ov:=ov) (hp:=hp) (ws:=ws) (p:=p) (tm:=fill .e 0 [.pointer p,.agg ws.toArray]) (Q:=λtm1 h1=>tm1.get 2=some (.pointer (some ⟨hp.nx,0,none⟩))/\tm1.get 3=some (.pointer (some ⟨hp.nx+1,0,none⟩))/\h1=⟨(hp.m.set hp.nx (some (.cells (fill .e 0 [.pointer p]) 1 tDp 1))).set (hp.nx+1) (some (.cells (fill .e 0 ws) 2 tHn 2)),hp.nx+2⟩) (by rw[p7 _ _ (by simp)];rfl) (by rw[p7 _ _ (by simp)];rfl) h2 λtm1 a b=>⟨a,b,rfl⟩
 obtain⟨d,hp2,X1,r,n⟩:=ha_1 (ov:=ov) (hp:=hp1) (tm:=tm1) (Q:=λd h2=>d.get 4=some (.func (.func bF) #[] #[.pointer (some ⟨hp.nx+1,0,none⟩),.pointer (some ⟨hp.nx,0,none⟩)])/\h2=hp1) o q λd a=>⟨a,rfl⟩
 subst n;have X:XK PR ov none 6 (I9 PR bG) (fill .e 0 [.pointer p,.agg ws.toArray]) hp .ret d hp2:=by rw[Ru];exact X0.seq (X1.seq .ret)
 obtain⟨i,r1,s,j,t⟩:=jI (ov:=ov) (args:=[.pointer p,.agg ws.toArray]) (c:=I9 PR bG) Qb (by kernel_rfl) hg (show XK PR ov none (2+(Go.Proofs.Tryz.f53.ntmps-2)) _ _ _ _ _ _ from(show 2+(Go.Proofs.Tryz.f53.ntmps-2)=6 from by kernel_rfl)▸X) (.inr rfl) (vs:=[.func (.func bF) #[] #[.pointer (some ⟨hp.nx+1,0,none⟩),.pointer (some ⟨hp.nx,0,none⟩)]]) (λh2 _=>by
  have e:Go.Proofs.Tryz.f53.results.toList=[.tmp 4]:=by kernel_rfl
  rw[e];simp only[I4,bA,r,TL])
 have g:∀b,hp2.m.get b=if b=hp.nx+1 then some (.cells (fill .e 0 ws) 2 tHn 2)else if b=hp.nx then some (.cells (fill .e 0 [.pointer p]) 1 tDp 1)else hp.m.get b:=λb=>by rw[k];show((hp.m.set hp.nx _).set (hp.nx+1) _).get b=_;rw[VF,VF]
 refine⟨i,r1,by rw[s,k],?_,?_,λb hb=>?_⟩;rw[j _ (by rw[g,Tn (by omega),Tp rfl];exactλh=>by cases h),g,Tn (by omega),Tp rfl];rw[j _ (by rw[g,Tp rfl];exactλh=>by cases h),g,Tp rfl]
 .by_cases f:hp.m.get b=some .dfr;rw[t.dfr b hb f,f]
  .have l:hp2.m.get b=hp.m.get b:=by rw[g,Tn (by omega),Tn (by omega)]
   rw[j b (by rw[l];exact f),l]
abbrev lkF :Ay:=50
def XB :PR.funcs[lkF]? =some Go.Proofs.Tryz.f50:=by kernel_rfl
def Xz :fJ Go.Proofs.Tryz.f50=true:=by kernel_rfl
def YD :Nat.beq tVw rgT=false:=by kernel_rfl
noncomputable def niV :Ba:=(PR.info? tVw).getD default
def RD :PR.info? tVw=some niV:=by kernel_rfl
def MI :niV.size=10:=by kernel_rfl
def zV :Av:=(S9 PR tVw).getD undef
def WT :S9 PR tVw=some zV:=by kernel_rfl
def SP :zV.cells.toList.length=10:=by kernel_rfl
def zVB :Ao:=fill .e 0 zV.cells.toList
section
variable {ov :Aa}{hp hp1:Hp}{tm:Ao}{ws vs:Af}{b:Nat}{Q:Ao->Hp->Prop}{cs:Ao}{ar:Ai}{v:Av}{x i o n e z:Nat}
def st_V (h:hp.m.get i=some (.cells cs n e z))(hn:o+10<=n)(hl:vs.length=10)(a:vs.all Value.oneCell'=true):I5 PR hp tVw (.pointer (some ⟨i,o,none⟩)) (.agg vs.toArray)=some {hp with m:=hp.m.set i (some (.cells (fill cs o vs) n e z))}:=by have:(Value.agg vs.toArray).cells.toList=vs:=rfl;simp only[I5,h,RD,MI,this,hl,u7,Ta hn,a,Bool.and_self,Tk,N4]
def KR (call:i9):xop PR call tm hp (.alloc tVw)=some (.pointer (some ⟨hp.nx,0,none⟩),⟨hp.m.set hp.nx (some (.cells zVB 10 tVw 10)),hp.nx+1⟩):=by simp only[xop,kY,YD,Tl,xnw,aW,WT,U8,Hp.add,Nw.val,H8,SP,zVB]
def Ox {l:Af}{k:Nat}(hx:tm.get x=some (.tuple l.toArray))(hk:l[k]? =some v)(call:i9):xop PR call tm hp (.extract (.tmp x) k)=some (v,hp):=by
 have h:Z7 (.tuple l.toArray) k=some v:=by simp only[Z7];simpa using hk
 simp only[xop,ob,i6,hx,TL,h,j3]
def b_2 {bd d nb l zb j y p:Nat}{g:Ao}{u r:Av}(h1:tm.get 1=some (.pointer (some ⟨b,o,none⟩)))(hb:hp.m.get b=some (.cells cs nb l zb))(a:o+2<=nb)(hl:j7 cs o 2=some ws)(h2:tm.get 2=some (.pointer (some ⟨bd,d,none⟩)))(s:hp.m.get bd=some (.cells g j p y))(c:d+1<=j)(w:g.get d=some u)(hx:V6 PR ov lkF [u,.agg ws.toArray] hp (.tuple [.agg vs.toArray,r].toArray) hp1)(hk:H4 hp hp1)(f:vs.length=10)(t:vs.all Value.oneCell'=true)(k:∀tm1,(∀x,x<4->tm1.get x=tm.get x)->tm1.get 4=some (.pointer (some ⟨hp1.nx,0,none⟩))->Q tm1 ⟨(hp1.m.set hp1.nx (some (.cells zVB 10 tVw 10))).set hp1.nx (some (.cells (fill zVB 0 vs) 10 tVw 10)),hp1.nx+1⟩):YN PR ov ar 35 bR2 tm hp Q:=by
 unfold bR2 bC;rw[FP];simp only[Go.Proofs.Tryz.f101,TL,cdA,cdB];refine .region (.op rfl rfl (J7 h2 ((DP Ld s rfl c).trans w)) (.op rfl rfl (J7 (by rw[gp,Tn (by decide)];exact h1) (JH hb rfl a hl)) (.cons rfl rfl (Fq XB Xz (by rw[gp,Tn (by decide),gp,Tp rfl]) (by rw[gp,Tp rfl]) hx) ?_)));refine .op rfl rfl (Jp (by simp only[gp];rfl)) (.op rfl rfl (Ox (k:=0) (by simp only[gp];rfl) rfl) (.op rfl rfl (Ox (k:=1) (by simp only[gp];rfl) rfl) (.op rfl rfl KR ?_)));refine .op rfl rfl (cZ (by simp only[gp];rfl) (by simp only[gp];rfl) (st_V (by rw[VF,Tp rfl]) (by omega) f t)) (.op rfl rfl (Jo (by simp only[gp,gn];rfl)) (.nil ⟨⟨Ub hk.nx (Ur _),λq hq h=>?_⟩,k _ (λx hx=>?_) ?_⟩));have:=hk.nx;show((hp1.m.set hp1.nx _).set hp1.nx _).get q=_;rw[VF,Tn (by omega),VF,Tn (by omega)];exact hk.dfr q hq h
 .simp only[gp,gn];iterate 8 rw[Tn (by omega)]
 simp only[gp,gn];rfl
end
def hv (D:DM)(x:Nat):Af:=[.int .u32 x,.int .u32 (D.gen x)]
def Gg (D:DM)(x:Nat):(hv D x).length=2:=rfl
def HSl (D:DM)(l:Ah)(q:Aq)(P:Nat->Blk->Prop):Prop:=∀(j x:Nat),l[j]? =some x-> ∃ic oc bc dc nc zc,q=some ⟨ic,oc,none⟩/\P ic bc/\rdC bc=some (dc,nc,zc)/\oc+j*2+2<=nc/\j7 dc (oc+j*2) 2=some (hv D x)
def Bf (ov:Aa)(D:DM)(nS:Nat)(gS:FB)(u:Av):Prop:=∀(c:Nat) (s:Sl) (hp:Hp),D.L[c]? =some s->s.used=true->nS<=hp.nx->(∀b,b<nS->hp.m.get b=gS b)->
 ∃(hp':Hp) (vs:Af) (r:Av) (q:Aq) (cc:Nat),V6 PR ov lkF [u,.agg (hv D c).toArray] hp (.tuple [.agg vs.toArray,r].toArray) hp'/\hp.nx<=hp'.nx/\(∀b,b<hp.nx->hp'.m.get b=hp.m.get b)/\vs.length=10/\vs.all Value.oneCell'=true/\vs[9]? =some (.slice q s.n.ch.length cc)/\
  HSl D s.n.ch q λic bc=>hp'.m.get ic=some bc/\ic<hp'.nx/\(ic<nS\/hp.nx<=ic)
def yK (ov:Aa)(D:DM)(nS:Nat)(gS:FB)(u:Av)(c:Nat):Prop:=∀(i n0 k0 b oq bd od nb eb zb nd ed zd:Nat) (O0 O:Nat->Prop) (g0:FB) (J:Nat->(Nat->Prop)->FB->Prop) (Y:Nat->Af->Prop) (hp:Hp) (cs cd:Ao),
 sY PR ov i 2 n0 g0 O0 J Y->OSt n0 g0 O0 J k0 O hp->hp.m.get b=some (.cells cs nb eb zb)->oq+2<=nb->j7 cs oq 2=some (hv D c)->b<hp.nx-> ¬O b->hp.m.get bd=some (.cells cd nd ed zd)->od+1<=nd->cd.get od=some u->bd<hp.nx-> ¬O bd->
 nS<=hp.nx->(∀b,b<nS->hp.m.get b=gS b)->(∀b,O b->nS<=b)->
 (∀(q x:Nat),(bel D 1001 c)[q]? =some x->Y (k0+q) [.agg (hv D x).toArray])->
 ∃hp' O',V6 PR ov bF [.chan (some i),.pointer (some ⟨b,oq,none⟩),.pointer (some ⟨bd,od,none⟩)] hp (.tuple #[]) hp'/\OSt n0 g0 O0 J (k0+(bel D 1001 c).length) O' hp'/\Kp O hp hp'/\(∀b,O b->O' b)/\ ∀b,O' b->O b\/hp.nx<=b
def Kp.sub {O a:Nat->Prop}{hp hp1 hp2:Hp}(h:Kp O hp hp1)(h':Kp a hp1 hp2)(m:∀b,a b->O b\/hp.nx<=b):Kp O hp hp2:=
 ⟨Ub h.1 h'.1,λb hb c=>(h'.2 b (TX hb h.1) λh2=>(m b h2).elim c λh3=>by omega).trans (h.2 b hb c)⟩
section
variable {ov :Aa}{D:DM}{nS:Nat}{gS:FB}{u:Av}{i n0 k0 y bd od nd ed zd ll cc:Nat}{O0 Oa:Nat->Prop}{g0:FB}{J:Nat->(Nat->Prop)->FB->Prop}{Y:Nat->Af->Prop}{hpa:Hp}{cd:Ao}{l:Ah}{q:Aq}{p:Aq}
def Lx (ak:Xe.isT (ov bG)=false)(hu:u= .pointer p)(IH:∀c∈l,yK ov D nS gS u c)(ay:l.length<1000000)(R:sY PR ov i 2 n0 g0 O0 J Y)(na:n0<=hpa.nx)(y0:¬Oa y)(y1:y<hpa.nx)(hy:hpa.m.get y=some (.cells (fill .e 0 [.chan (some i)]) 1 tYh 1))(d0:¬Oa bd)(d1:bd<hpa.nx)(hd:hpa.m.get bd=some (.cells cd nd ed zd))(am:od+1<=nd)(aj:cd.get od=some u)(ns:nS<=hpa.nx)(hS:∀b,b<nS->hpa.m.get b=gS b)(oS:∀b,Oa b->nS<=b)(hl:HSl D l q λG bc=>hpa.m.get G=some bc/\G<hpa.nx/\ ¬Oa G)(hY:∀(q x:Nat),(l.flatMap (bel D 1001))[q]? =some x->Y (k0+q) [.agg (hv D x).toArray]):∀(r g:Ah) (tm:Ao) (hp:Hp) (O:Nat->Prop),l=g++r->tm.get 2=some (.pointer (some ⟨bd,od,none⟩))->tm.get 3=some (.pointer (some ⟨y,0,none⟩))->tm.get 20=some (.slice q l.length cc)->tm.get 21=some (.int .i64 l.length)->tm.get 22=some (.int .i64 g.length)->OSt n0 g0 O0 J (k0+(g.flatMap (bel D 1001)).length) O hp->Kp Oa hpa hp->(∀b,Oa b->O b)->(∀b,O b->Oa b\/hpa.nx<=b)-> ∃tm' hp' O',XK PR ov none 35 (.loop bLp) tm hp (.exit 0) tm' hp'/\OSt n0 g0 O0 J (k0+(l.flatMap (bel D 1001)).length) O' hp'/\Kp Oa hpa hp'/\(∀b,Oa b->O' b)/\ ∀b,O' b->Oa b\/hpa.nx<=b:=by
 intro r;induction r with
 |nil=>
  intro g tm hp O e t2 t3 F w t22 S K m1 H;rw[UF]at e;obtain⟨tm1,hp1,X3,t,M⟩:=b_4 (ov:=ov) (ar:=none) (hp:=hp) (Q:=λtm1 h1=>tm1.get 23=some (.bool (decide ((g.length:Int)<(l.length:Int))))/\h1=hp) w t22 λtm1 a b=>⟨b,rfl⟩
  subst M;rw[Ut (by rw[e];omega)]at t;refine⟨tm1,hp1,O,XK.loopX (X3.seq (XK.seqX (XK.condF (evt t) .exit) (λh=>by cases h))) (λh=>by cases h),?_,K,m1,H⟩;rw[e];exact S
 |cons c r ih=>
  intro g tm hp O e t2 t3 F w t22 S K m1 H;have aw:g.length<l.length:=by rw[e];simp
  have ai:c∈l:=by rw[e];simp
  have ah:l[g.length]? =some c:=by rw[e];simp
  obtain⟨tm1,hp1,X3,z,t,M⟩:=b_4 (ov:=ov) (ar:=none) (hp:=hp) (Q:=λtm1 h1=>(∀x,x≠23->tm1.get x=tm.get x)/\tm1.get 23=some (.bool (decide ((g.length:Int)<(l.length:Int))))/\h1=hp) w t22 λtm1 a b=>⟨a,b,rfl⟩
  subst M;rw[decide_eq_true (by omega)]at t;obtain⟨G,oc,bc,dc,nc,zc,eq,⟨f1,f2,f3⟩,an,ae,al⟩:=hl _ _ ah;subst eq;have nO:∀b,b<hpa.nx-> ¬Oa b-> ¬O b:=λb hb h h'=>(H b h').elim h λh3=>by omega
  have X:hp1.m.get G=some bc:=(K.2 G f2 f3).trans f1;have bg:=K.1;have tn:((g.length:Nat):Int).toNat=g.length:=rfl;obtain⟨s,n,X4,L,av,e4⟩:=b_5 (ov:=ov) (ar:=none) (tm:=tm1) (hp:=hp1) (ws:=hv D c) (Q:=λs h4=>(∀x,x<24->x≠7->s.get x=tm1.get x)/\s.get 7=some (.pointer (some ⟨hp1.nx,0,none⟩))/\h4=⟨(hp1.m.set hp1.nx (some (.cells zHB 2 tHn 2))).set hp1.nx (some (.cells (fill zHB 0 (hv D c)) 2 tHn 2)),hp1.nx+1⟩)
   (by rw[z 20 (by decide)];exact F) (by rw[z 22 (by decide)];exact t22) (by omega) (by omega) X an (by rw[tn];exact ae) (by rw[tn];exact al) rfl rfl λs a b=>⟨a,b,rfl⟩
  have g4:∀b,b<hp1.nx->n.m.get b=hp1.m.get b:=λb hb=>by rw[e4];show((hp1.m.set hp1.nx _).set hp1.nx _).get b=_;rw[VF,Tn (by omega),VF,Tn (by omega)]
  have ab:n.m.get hp1.nx=some (.cells (fill zHB 0 (hv D c)) 2 tHn 2):=by rw[e4];show((hp1.m.set hp1.nx _).set hp1.nx _).get hp1.nx=_;rw[VF,Tp rfl]
  have az:n.nx=hp1.nx+1:=by rw[e4]
  have hd1:hp1.m.get bd=some (.cells cd nd ed zd):=(K.2 bd d1 d0).trans hd;obtain⟨Z,XG,ba,N,ac,g5⟩:=Jy (ov:=ov) (hp:=n) (p:=p) (ws:=hv D c) ak rfl;rw[<-hu]at XG N;have ao:H4 n Z:=⟨by omega,λb hb h=>by rw[g5 b hb];exact h⟩
  obtain⟨k,d,X5,q5,au,e5⟩:=b_6 (ov:=ov) (ar:=none) (tm:=s) (Q:=λk h5=>(∀x,x<26->k.get x=s.get x)/\k.get 28=some (.func (.func bF) #[] #[.pointer (some ⟨n.nx+1,0,none⟩),.pointer (some ⟨n.nx,0,none⟩)])/\h5=Z)
   (by rw[L 2 (by decide) (by decide),z 2 (by decide)];exact t2) ((g4 bd (by omega)).trans hd1) am aj av ab (iK rfl) XG ao λk a b=>⟨a,b,rfl⟩
  subst e5;have aa:k.get 3=some (.pointer (some ⟨y,0,none⟩)):=by rw[q5 3 (by decide),L 3 (by decide) (by decide),z 3 (by decide)];exact t3
  have Sn:=S.nx;have V:∀b,b<hp1.nx->d.m.get b=hp1.m.get b:=λb hb=>(g5 b (by omega)).trans (g4 b hb);have A:=S.lt;have S5:OSt n0 g0 O0 J (k0+(g.flatMap (bel D 1001)).length) O d:=S.grow R (by omega) λb hb=>V b (by rcases hb with hb|hb;omega;exact A b hb);let lp:Blk:= .loop .ready none 35 k #[29] bR7 bBo d.nx
  let f:Hp:=⟨(d.m.set d.nx (some .dfr)).set (d.nx+1) (some lp),d.nx+2⟩
  have P:∀b,b<d.nx->f.m.get b=d.m.get b:=λb hb=>by show((d.m.set d.nx _).set (d.nx+1) _).get b=_;rw[VF,Tn (by omega),VF,Tn (by omega)]
  have ad:f.m.get d.nx=some .dfr:=by show((d.m.set d.nx _).set (d.nx+1) _).get d.nx=_;rw[VF,Tn (by omega),VF,Tp rfl]
  have U:f.m.get (d.nx+1)=some lp:=by show((d.m.set d.nx _).set (d.nx+1) _).get (d.nx+1)=_;rw[VF,Tp rfl]
  have bb:f.nx=d.nx+2:=rfl;have B:∀b,b<hp1.nx->f.m.get b=hp1.m.get b:=λb hb=>by rw[P b (by omega),V b hb]
  have I:∀b,hp1.nx<=b-> ¬O b:=λb hb h=>by have:=A b h;omega
  have gy:f.m.get y=some (.cells (fill .e 0 [.chan (some i)]) 1 tYh 1):=by rw[B y (by omega),K.2 y y1 y0];exact hy
  have S6o:OSt n0 g0 O0 J (k0+(g.flatMap (bel D 1001)).length) O f:=S5.grow R (by omega) λb hb=>P b (by rcases hb with hb|hb;omega;have:=A b hb;omega);have RI:sY PR ov (d.nx+1) 2 f.nx f.m.get O J Y:=Rx R S6o U (I _ (by omega)) (by omega) (by omega) gy (nO y y1 y0) (by omega) (by omega) aa;obtain⟨o,O7,XA,S7,K7,m7,w7⟩:=IH c ai (d.nx+1) f.nx (k0+(g.flatMap (bel D 1001)).length) (n.nx+1) 0 n.nx 0 2 tHn 2 1 tDp 1 O O f.m.get J Y f (fill .e 0 (hv D c)) (fill .e 0 [u]) RI S6o.start (by rw[P _ (by omega)];exact ac) (by omega) (iK rfl) (by omega) (I _ (by omega))
   (by rw[P _ (by omega)];exact N) (by omega) (by rw[p7 _ _ (by simp)];rfl) (by omega) (I _ (by omega)) (by omega) (λb hb=>by
    have:¬Oa b:=λh=>by have:=oS b h;omega
    rw[B b (by omega),K.2 b (by omega) this];exact hS b hb) (λb hb=>(H b hb).elim (oS b) λh=>by omega)
   (λp x hp=>by have:=hY ((g.flatMap (bel D 1001)).length+p) x (by rw[e,List.flatMap_append,Tb (by omega),List.flatMap_cons,Uq,Tc (SW.1 hp).1];exact hp);rwa[<-Ud]at this)
  have n7:=S7.nx;have o7:∀b,b<f.nx-> ¬O b->o.m.get b=f.m.get b:=λb hb E=>K7.2 b hb E;have XR:XK PR ov none 35 (.rangeFunc (.tmp 28) #[29] bR7 bBo) k d .normal k ⟨o.m.set (d.nx+1) none,o.nx⟩:=XK.range (evt au) b_fn b_ok XA ((o7 _ (by omega) (I _ (by omega))).trans ad) ((o7 _ (by omega) (I _ (by omega))).trans U) (by omega) λb hb W=>by have E:¬O b:=λE=>R.nodfr _ _ _ b S5.j E W;rw[o7 b (by omega) E,P b hb];exact W
  let C:Hp:=⟨o.m.set (d.nx+1) none,o.nx⟩
  have g8:∀b,b<hp1.nx-> ¬O b->C.m.get b=hp1.m.get b:=λb hb E=>by show(o.m.set (d.nx+1) none).get b=_;rw[VF,Tn (by omega),o7 b (by omega) E,B b hb]
  have be:C.nx=o.nx:=rfl;have ap:¬O7 (d.nx+1):=λh=>by rcases w7 _ h with h|h;exact I _ (by omega) h;omega
  have S8:OSt n0 g0 O0 J (k0+((g++ [c]).flatMap (bel D 1001)).length) O7 C:=by
   have M:((g++ [c]).flatMap (bel D 1001)).length=(g.flatMap (bel D 1001)).length+(bel D 1001 c).length:=by simp[List.flatMap_append]
   rw[M,<-Ud];refine(S6o.out S7).grow R (by omega) λb hb=>?_;show(o.m.set (d.nx+1) none).get b=_;rw[VF,Tn];rintro rfl;rcases hb with hb|hb;omega;exact ap hb
  have K8:Kp O hp1 C:=⟨by omega,g8⟩
  obtain⟨v,ax,X8,q8,aq,e8⟩:=b_9 (ov:=ov) (ar:=none) (tm:=k) (hp:=C) (j:=g.length) (Q:=λv h=>(∀x,x<22->v.get x=k.get x)/\v.get 22=some (.int .i64 ((g.length:Int)+1))/\h=C) (by rw[q5 22 (by decide),L 22 (by decide) (by decide),z 22 (by decide)];exact t22) (by omega) (by omega) λv a b=>⟨a,b,rfl⟩
  subst e8;obtain⟨tm',hp',O',XL,SL,KL,m',w'⟩:=ih (g++ [c]) v C O7 (by rw[e];simp) (by rw[q8 2 (by decide),q5 2 (by decide),L 2 (by decide) (by decide),z 2 (by decide)];exact t2) (by rw[q8 3 (by decide)];exact aa) (by rw[q8 20 (by decide),q5 20 (by decide),L 20 (by decide) (by decide),z 20 (by decide)];exact F) (by rw[q8 21 (by decide),q5 21 (by decide),L 21 (by decide) (by decide),z 21 (by decide)];exact w) (by rw[aq];simp) S8 (K.sub K8 H) (λb hb=>m7 b (m1 b hb)) (λb hb=>by rcases w7 b hb with h|h;exact H b h;exact .inr (by omega));exact⟨tm',hp',O',XK.loopN (X3.seq (XK.seq (XK.condT (evt t) .skip) (XK.seq (XK.block (X4.seq (X5.seq (XK.block XR)))) X8))) XL,SL,KL,m',w'⟩
