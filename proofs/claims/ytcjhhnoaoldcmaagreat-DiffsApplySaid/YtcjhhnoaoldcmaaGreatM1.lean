/- Trees that are changed in place: loads, stores and calls in the executor's memory.
  Conditions: none. -/
import Derived.Test.YtcjhhnoaoldcmaaGreatA1
import Derived.Test.YtcjhhnoaoldcmaaGreatP0
import Derived.Test.YtcjhhnoaoldcmaaGreatSm4
import Derived.Test.YtcjhhnoaoldcmaaGreatRows
import Derived.KernelRfl
set_option linter.all false
noncomputable section
namespace Go.D
open Go Go.Xe Go.Sx
abbrev tN :Ay:=28
abbrev tS :Ay:=26
abbrev tI :Ay:=45
noncomputable def niN :Bb:=(PR.info? tN).getD default
def cy :PR.info? tN=some niN:=by kernel_rfl
def aZ :niN.size=6:=by kernel_rfl
def Bo :Nat.ble niN.bytes 1048576=true:=by kernel_rfl
noncomputable def niS :Bb:=(PR.info? tS).getD default
def Jg :PR.info? tS=some niS:=by kernel_rfl
def Es :niS.size=1:=by kernel_rfl
def eo :PR.underlying tS=some (.slice tN):=by kernel_rfl
def IB :PR.underlying tI=some (.slice 3):=by kernel_rfl
def Ii :(PR.underlying tN).map R8=some true:=by kernel_rfl
def AX :kf PR tN=[.int .u8,.str,.str,.sl 88,.str,.sl tN]:=by kernel_rfl
def kf_I :kf PR 3=[.int .i64]:=by kernel_rfl
def fa_N (i o:Nat):i7 PR tN (.pointer (some ⟨i,o,none⟩)) 5=some (.pointer (some ⟨i,o+5,none⟩)):=by kernel_rfl
def oH (i o:Nat):i7 PR tN (.pointer (some ⟨i,o,none⟩)) 3=some (.pointer (some ⟨i,o+3,none⟩)):=by kernel_rfl
section
variable {hp hp':Hp}{tm:Ao}{i o n e z:Nat}{cs:Ao}{vs:Af}{v u a:Aw}{x y t:Nat}
theorem li (h:hp.m.get i=some (.cells cs n e z))(hn:o+6<=n)(hl:d6 cs o 6=some vs):B0 PR hp tN (.pointer (some ⟨i,o,none⟩))=some (.agg vs.toArray):=by
 have h1:=Ii;cases c:PR.underlying tN with
 |none=>grind|some d=>rw[c]at h1;simp at h1;simp only[B0,h,rdC,c,h1,Kc,cy,aZ,JS hn,hl]
def dw (h:hp.m.get i=some (.cells cs n e z))(hn:o+6<=n)(hl:vs.length=6)(c:vs.all Value.oneCell'=true):A8 PR hp tN (.pointer (some ⟨i,o,none⟩)) (.agg vs.toArray)=some {hp with m:=hp.m.set i (some (.cells (fill cs o vs) n e z))}:=by have:(Value.agg vs.toArray).cells.toList=vs:=rfl;simp only[A8,h,cy,aZ,this,hl,l6,JS hn,c,Bool.and_self,Kc,E7]
variable {q:Ar}
def st_S (h:hp.m.get i=some (.cells cs n e z))(hn:o+1<=n){l c:Nat}:A8 PR hp tS (.pointer (some ⟨i,o,none⟩)) (.slice q l c)=some {hp with m:=hp.m.set i (some (.cells (fill cs o [.slice q l c]) n e z))}:=by have:(Value.slice q l c).cells.toList=[.slice q l c]:=rfl;have h2: [Value.slice q l c].all Value.oneCell'=true:=rfl;simp only[A8,h,Jg,Es,this,KE,LP,Ks,l6,JS hn,h2,Bool.and_self,Kc,E7]
variable {k:Int}
def DJ {q c:Nat}(h0:0<=k)(h1:k<q):j7 PR tS (.slice (some ⟨i,o,none⟩) q c) (.int .i64 k)=some (.pointer (some ⟨i,o+k.toNat*6,none⟩)):=by simp only[j7,eo,cy,aZ,h0,h1,KR,Bool.and_self,Kc]
theorem ix_I {q c:Nat}(h0:0<=k)(h1:k<q):j7 PR tI (.slice (some ⟨i,o,none⟩) q c) (.int .i64 k)=some (.pointer (some ⟨i,o+k.toNat*1,none⟩)):=by
 have h2:PR.info? 3=some ((PR.info? 3).getD default):=by kernel_rfl
 have h3:((PR.info? 3).getD default).size=1:=by kernel_rfl
 simp only[j7,IB,h0,h1,KR,Bool.and_self,Kc];grind
variable {m:T Blk}{nx:Nat}{b:Blk}
def hO (h:m.get i=some b)(hr:rdC b=some (cs,n,z))(hn:o+1<=n):B0 PR ⟨m,nx⟩ tS (.pointer (some ⟨i,o,none⟩))=cs.get o:=by simp only[B0,h,hr,eo,R8,Ke,JS hn,Kc]
theorem aT (h:m.get i=some b)(hr:rdC b=some (cs,n,z))(hn:o+6<=n)(hl:d6 cs o 6=some vs):B0 PR ⟨m,nx⟩ tN (.pointer (some ⟨i,o,none⟩))=some (.agg vs.toArray):=by
 have h1:=Ii;cases c:PR.underlying tN with
 |none=>grind|some d=>rw[c]at h1;simp at h1;simp only[B0,h,hr,c,h1,Kc,cy,aZ,JS hn,hl]
theorem ld_I' (h:m.get i=some b)(hr:rdC b=some (cs,n,z))(hn:o+1<=n):B0 PR ⟨m,nx⟩ 3 (.pointer (some ⟨i,o,none⟩))=cs.get o:=by
 have h2:(PR.underlying 3).map R8=some false:=by kernel_rfl
 cases c:PR.underlying 3 with
 |none=>grind|some d=>rw[c]at h2;simp at h2;simp only[B0,h,hr,c,h2,Ke,JS hn,Kc]
def m8 (hx:tm.get x=some a)(h:B0 PR hp t a=some v)(call:c7):xop PR call tm hp (.load t (.tmp x))=some (v,hp):=by simp only[b9,f7,a9,hx,KC,h,c9]
def G6 (hx:tm.get x=some a)(hy:tm.get y=some u)(h:A8 PR hp t a u=some hp')(call:c7):xop PR call tm hp (.store t (.tmp x) (.tmp y))=some (undef,hp'):=by simp only[b9,f7,a9,hx,hy,KC,h]
def jQ (hx:tm.get x=some (.pointer (some ⟨i,o,none⟩)))(call:c7):xop PR call tm hp (.fieldAddr tN (.tmp x) 5)=some (.pointer (some ⟨i,o+5,none⟩),hp):=by simp only[b9,f7,a9,hx,KC,fa_N,c9]
def cX (hx:tm.get x=some a)(hy:tm.get y=some u)(h:j7 PR t a u=some v)(call:c7):xop PR call tm hp (.indexAddr t (.tmp x) (.tmp y))=some (v,hp):=by simp only[b9,f7,a9,hx,hy,KC,h,c9]
def JI {p:Addr}(hx:tm.get x=some (.pointer (some p)))(call:c7):xop PR call tm hp (.nilCheck (.tmp x))=some (.pointer (some p),hp):=by simp only[b9,f7,a9,hx,KC]
def gJ (hx:tm.get x=some a)(call:c7):xop PR call tm hp (.box t (.tmp x))=some (.pointer (some ⟨hp.nx,0,none⟩),⟨hp.m.set hp.nx (some (.cells (fill .e 0 a.cells.toList) a.cells.toList.length t a.cells.toList.length)),hp.nx+1⟩):=by simp only[b9,f7,xnw,a9,hx,KC,G9,Hp.add,qm,Nw.val,A0]
variable {f:Az}
def iR {ov:Aa}{fn:Func}(hf:PR.funcs[f]? =some fn)(c:cC fn=true){ats:Array Ay}(hx:tm.get x=some a)(h:A4 PR ov f [a] hp v hp'):XOp PR ov (.call ⟨.value (.func f),#[.tmp x],ats⟩) tm hp v hp':=
 h.mono fun n k=>by simp only[b9,f7,W3,a9,hx,KC,eu,hf,c,Kc];exact k
def Aq {m:Int}{t':Ay}(hx:tm.get x=some (.int .i64 k))(hy:tm.get y=some (.int .i64 m))(call:c7):xop PR call tm hp (.binOp .lss t (.tmp x) (.tmp y) t')=some (.bool (decide (k<m)),hp):=by simp only[b9,f7,a9,hx,hy,KC,v6,J3,KR,Kc,o7,W2,c9]
def gK {t':Ay}(hx:tm.get x=some (.int .i64 k))(h0:0<=k)(h1:k<1000000)(call:c7):xop PR call tm hp (.binOp .add t (.tmp x) (.const (.int .i64 1)) t')=some (.int .i64 (k+1),hp):=by have h:cst (.int .i64 1)=true:=rfl;have hw:IntKind.i64.wrap (k+1)=k+1:=zX (by rw[show IntKind.i64.min= -9223372036854775808 from rfl];omega) (by rw[show IntKind.i64.max=9223372036854775807 from rfl];omega);simp only[b9,f7,a9,hx,h,KC,v6,J3,KR,Kc,o7,c9,hw]
def i5 (hx:tm.get x=some a)(call:c7):xop PR call tm hp (.move (.tmp x))=some (a,hp):=by simp only[b9,f7,a9,hx,KC,c9]
def FV (hx:tm.get x=some a)(call:c7):xop PR call tm hp (.assign (.tmp x))=some (a,hp):=by simp only[b9,f7,a9,hx,KC,c9]
def xU (call:c7):xop PR call tm hp (.move (.const (.int .i64 0)))=some (.int .i64 0,hp):=by have h:cst (.int .i64 0)=true:=rfl;simp only[b9,f7,a9,h,Kc,c9]
def gL {l c:Nat}{d:Array Ay}(hx:tm.get x=some (.slice q l c))(ht:d.toList=[tS])(call:c7):xop PR call tm hp (.call ⟨.builtin .len,#[.tmp x],d⟩)=some (.int .i64 l,hp):=by have h:V3 hp PR tS (.slice q l c)=some (.int .i64 l):=gI eo q l c;simp only[b9,f7,W3,a9,hx,KC,l8,ht,h,c9]
def vS {ov:Aa}{fn:Func}(hf:PR.funcs[f]? =some fn)(c:cC fn=true){ats:Array Ay}{y:Nat}{b:Aw}(hx:tm.get x=some a)(hy:tm.get y=some b)(h:A4 PR ov f [a,b] hp v hp'):XOp PR ov (.call ⟨.value (.func f),#[.tmp x,.tmp y],ats⟩) tm hp v hp':=
 h.mono fun n k=>by simp only[b9,f7,W3,a9,hx,hy,KC,eu,hf,c,Kc];exact k
def gp {d:Nat}:(j0 tm (some d) v).get x=if x=d then some v else tm.get x:=by unfold j0;rw[Mw]
def gn :(j0 tm none v).get x=tm.get x:=rfl
end
end Go.D
noncomputable section
namespace Go.D
open Go Go.Xe Go.Sx
abbrev tAt :Ay:=88
abbrev FB:=Nat->Bc Blk
def at6 (cs:Ao)(o:Nat):Ad:=fun q=>cs.get (o+q)
def Hd (F:FB)(t:a8)(g:Ad):Prop:=
 g 0=some (.int .u8 t.k)/\g 1=some (.string ⟨t.t.toArray⟩)/\g 2=some (.string ⟨t.y.toArray⟩)/\(∃va,g 3=some va/\PV PR F (.sl tAt) va (.lst (t.a.map Att.row)))/\g 4=some (.string ⟨t.x.toArray⟩)
def RN (F:FB)(t:a8)(g:Ad):Prop:=Hd F t g/\ ∃vc,g 5=some vc/\PV PR F (.sl tN) vc (.lst (rows t.c))
variable {F F':FB}{t:a8}{g:Ad}
def Hd.mono (h:Fle F F')(k:Hd F t g):Hd F' t g:=by obtain⟨a,b,c,⟨va,d,e⟩,f⟩:=k;exact⟨a,b,c,⟨va,d,e.mono PR h⟩,f⟩
def RN.mono (h:Fle F F')(k:RN F t g):RN F' t g:=by obtain⟨a,vc,d,e⟩:=k;exact⟨a.mono h,vc,d,e.mono PR h⟩
def rF (t:a8):t.row=[.int t.k,.str t.t,.str t.y,.lst (t.a.map Att.row),.str t.x,.lst (rows t.c)]:=by
 obtain⟨k,t,y,a,x,c⟩:=t;have hr:∀c:List a8,a8.rows c=rows c:=fun c=>by
  induction c with
  |nil=>rfl|cons s c b=>simp only[a8.rows,rows,KM,b]
 simp only[a8.row,a8.k,a8.t,a8.y,a8.a,a8.x,a8.c,hr]
theorem RN.cell (h:RN F t g)(k:Nat)(d:Dat)(kd:Kd)(hd:t.row[k]? =some d)(hk:(kf PR tN)[k]? =some kd):∃x,g k=some x/\PV PR F kd x d:=by
 obtain⟨⟨h0,h1,h2,⟨va,h3,a⟩,h4⟩,vc,h5,b⟩:=h;rw[rF]at hd;rw[AX]at hk
 match k,hd,hk with
 |0,hd,hk=>cases hd;cases hk;exact⟨_,h0,.int _ _⟩
 |1,hd,hk=>cases hd;cases hk;exact⟨_,h1,.str _⟩
 |2,hd,hk=>cases hd;cases hk;exact⟨_,h2,.str _⟩
 |3,hd,hk=>grind|4,hd,hk=>cases hd;cases hk;exact⟨_,h4,.str _⟩
 |5,hd,hk=>grind|k+6,hd,hk=>simp at hd
def RN.of_cells (h:∀k d kd,t.row[k]? =some d->(kf PR tN)[k]? =some kd-> ∃x,g k=some x/\PV PR F kd x d):RN F t g:=by rw[AX,rF]at h;obtain⟨x0,a0,b0⟩:=h 0 _ _ rfl rfl;obtain⟨a,a1,b1⟩:=h 1 _ _ rfl rfl;obtain⟨b,a2,b2⟩:=h 2 _ _ rfl rfl;obtain⟨c,a3,b3⟩:=h 3 _ _ rfl rfl;obtain⟨e,a4,b4⟩:=h 4 _ _ rfl rfl;obtain⟨f,a5,b5⟩:=h 5 _ _ rfl rfl;cases b0;cases b1;cases b2;cases b4;exact⟨⟨a0,a1,a2,⟨_,a3,b3⟩,a4⟩,_,a5,b5⟩
variable {l:List a8}
theorem Bt {j:Nat}{r:As}(h:(rows l)[j]? =some r):∃s,l[j]? =some s/\r=s.row:=by grind
def mT (t:a8):t.row.length=6:=by rw[rF];rfl
variable {cs:Ao}
theorem jx {o n:Nat}(h:∀j s,l[j]? =some s->RN F s (at6 cs (o+j*6)))(hn:o+l.length*6<=n):q7 PR F tN 6 o n cs (rows l):=by
 refine⟨by grind,by rw[AX];rfl,fun r hr=>?_,fun r k row d hr hk=>?_⟩
 ·obtain⟨s,_,rfl⟩:=Lt.1 hr;exact mT s
 ·obtain⟨s,hs,rfl⟩:=Bt hr;have a:k<6:=by have:=(JO.1 hk).1;rw[mT]at this;exact this
  obtain⟨kd,b⟩:∃kd,(kf PR tN)[k]? =some kd:=⟨_,JX (by rw[AX];exact a)⟩
  obtain⟨x,hx,hp⟩:=(h r s hs).cell k d kd hk b;exact⟨x,by simpa [at6,KU]using hx,fun c h'=>by grind⟩
theorem cE {L:Sx.Rows}{i o n c:Nat}(hF:F i=some (.cells cs n tN 6))(hc:kh L.length c)(h:q7 PR F tN 6 o n cs L):PV PR F (.sl tN) (.slice (some ⟨i,o,none⟩) L.length c) (.lst L):=by
 obtain⟨h1,h2,h3,h4⟩:=h;refine .sl tN i o c _ cs n 6 L (fun r k=>(cs.get (o+r*6+k)).getD undef) hF rfl ⟨hc,.mk⟩ h1 h2 h3 (fun r k row d hr hk=>?_) (fun r k row kd d hr hk a=>?_)
 ·grind
 ·obtain⟨x,hx,hp⟩:=h4 r k row d hr hk;simp_all
inductive TA (F H:FB):Ah->a8->(Ad)->Prop
 | mk (t : a8) (g : Ad) (i : Nat) (cs : Ao) (Ss : List (Ah)) (hd : Hd F t g) (h5 : g 5 = some (.slice (some ⟨i, 0, none⟩) t.c.length t.c.length)) (hH : H i = some (.cells cs (t.c.length * 6) tN 6))
   (hb:t.c.length<=1000) (hl:Ss.length=t.c.length) (hk:∀(j:Nat) s S,t.c[j]? =some s->Ss[j]? =some S->TA F H S s (at6 cs (j*6))):TA F H (i::Ss.flatten) t g
variable {S:Ah}
theorem I7 {Ss:List (Ah)}{j q:Nat}(h:Ss[j]? =some S)(hq:q∈S):q∈Ss.flatten:=List.mem_flatten.2 (by grind)
theorem TA.read {H:FB}(h:TA F H S t g)(hF:Fle F F')(d:∀j∈S,F' j=H j):RN F' t g:=by
 induction h with
 |mk t g i cs Ss hd h5 hH hb hl hk f=>
  refine⟨hd.mono hF,_,h5,?_⟩;have hr:q7 PR F' tN 6 0 (t.c.length*6) cs (rows t.c):=by
   refine jx (fun j s hj=>?_) (by omega);have b:j<Ss.length:=by grind
   have a:=JX b;rw[Ks];exact f j s _ hj a (fun q hq=>d q (KT _ (I7 a hq)))
  have e:(rows t.c).length=t.c.length:=by grind
  have:=cE (c:=t.c.length) (by rw[d i (List.mem_cons_self ..)];exact hH) (.inl ⟨by unfold unk;omega,by omega⟩) hr;grind
end Go.D
noncomputable section
namespace Go.C36
open Go.Xe Go.Sx
def row (n:Int):As:=[.int n]
def O8 (L:Sx.Rows):Ak:=L.map fun r=>(r.getD 0 (.int 0)).toInt
def best (x:Int):Ak->Ak->Int
 |y::l,f::fs=>if x<y then max f (best x l fs)else best x l fs
 |_,_=>0
def frm :Ak->Ak
 | []=>[]
 |x::l=>(1+best x l (frm l))::frm l
def iV :Vs:= .one (.g (.int .i64))
def bV :Vs:= .one (.g .bool)
def nV :Vs:= .one (.g (.lst 3))
def noB :SV->SS->Bc (Ah):=fun _ _=>some []
def noF :Au->SS->Bc (Ah):=fun _ _=>some []
def mkC (n:String)(args:List Vs)(pre:As->Prop)(res:List Vs)(rel:As->As->Prop):Con:=⟨n,args,[],noF,pre,res,[],noB,rel⟩
def isN (L:Sx.Rows):Prop:=∃l:Ak,L=l.map row/\l.length<=4096
def rI :As->Prop
 | [.lst L]=>isN L|_=>False
def LVn :Az:=14
def X5 (d:As):Prop:=d=[]
def X6:=yg
def U0 :Ab:=fun _ _=>.int 0
def t8 (t:Nat):Fm->SS->List (So×E):=fun f s=>match lk f t with
 |some (.lst _ e _)=>[(.l,e)]
 |some (.str e)=>[(.s,e)]
 |some (.int _ e)=>[(.i,e)]
 |some (.sl b _ _ _ _)=>match s.get b with
  |some (.rows e _ _ _)=>[(.l,e)]
  |none=>match lk s.fz b with
   |some r=>[(.l,r.1)]
   |none=>[]
  |_=>[]
 |_=>[]
def gh2 (a b:Fm->SS->List (So×E)):Fm->SS->List (So×E):=fun f s=>a f s++b f s
def nob :Fm->SS->Bc (List (Nat×List G)):=fun _ _=>some []
def J7 (t:Nat)(gs:List G):Fm->SS->Bc (List (Nat×List G)):=fun f _=>match lk f t with
 |some (.ptr b _ _ _)=>some [(b,gs)]|_=>none
structure St (W s:Ak):Prop where
 desc:∀(i j:Nat) (x y:Int),W[i]? =some x->W[j]? =some y->i<j->y<x
 has:∀(j:Nat) (x:Int),W[j]? =some x-> ∃k:Nat,(frm s)[k]? =some ((j:Int)+1)/\s[k]? =some x
 top:∀(k:Nat) (f x:Int),(frm s)[k]? =some f->s[k]? =some x->1<=f/\ ∃y,W[(f-1).toNat]? =some y/\x<=y
end Go.C36
