/- The executor: Delete and Insert, parts 22.
  Conditions: none. -/
import Derived.Test.YtcjhhnoaoldcmaaGreatSm3
import Derived.Shelf.Bodies2
import Derived.KernelRfl
set_option linter.unusedSimpArgs false
set_option linter.unusedVariables false
noncomputable section PartXm422
namespace Go.Xe
open Go.RowKit
structure bf8 (P:Program)(g:FuncId)(ρ:Go.Shelf.Ren)(e:TypeId)(ie:TypeInfo)(zv:Value):Prop where
 fn:∃fn,P.funcs[g]? =some fn/\fn.body=(Go.Proofs.Body2.n23 ρ).body/\fn.ntmps=33/\fn.results= #[.tmp 6]
 t22:P.underlying (ρ.t 22)=some (.slice e)
 ty:P.info? e=some ie
 zero:ie.zero=some zv
 cst:cst zv=true
 zl:zv.cells.toList.length=ie.size
 one:zv.cells.toList.all Value.oneCell'=true
 by_:ie.bytes<=1048576
section
variable {P :Program}{g:FuncId}{ρ:Go.Shelf.Ren}{e:TypeId}{ie:TypeInfo}{zv:Value}{call:d8}{runD:FuncId->List Value->Hp->Option (Value×Hp)}{hp:Hp}
theorem P8 (lo:Nat):I6 (c7 lo 0)=lo:=G4 D7
theorem M9 (lo:Nat):C3 (c7 lo 0)=0:=F5 D7
theorem V9 {a b:Nat}(h:b<a):Nat.ble a b=false:=by
 cases e:Nat.ble a b with
 |false=>rfl
 |true=>simp_all;omega
theorem G8 {v m:Nat}(h:v<=m):E9 (.int .i64 v) m=some v:=by
 simp only[E9]
 grind
theorem at7 {t : TypeId} (ht : P.underlying t = some (.slice e)) (hi : P.info? e = some ie) {i o n lo up l h : Nat} (hup : up < unk) (hlo : Nat.ble (Nat.max lo n) 67108864 = true) (hh : h ≤ Nat.max lo n) (hl : l ≤ h) (hlt : l < Nat.max lo n) {c : T Value} {k e' : Nat} (hg : hp.m.get i = some (.cells c k e' ie.size)) (vl vh : Option Value)
  (hvl:vl=some (.int .i64 l)\/(vl=none/\l=0)) (hvh:vh=some (.int .i64 h)\/(vh=none/\h=n)):
  q9 P hp t (.slice (some ⟨i,o,none⟩) n (c7 lo up)) vl vh none=some (.slice (some ⟨i,o+l*ie.size,none⟩) (h-l) (c7 (Nat.max lo n-l) (up-l)),hp):=by
 have hb:v9 n (Nat.max lo n) vl vh none=some (l,h,none):=by
  rcases hvh with rfl| ⟨rfl,rfl⟩<;>rcases hvl with rfl| ⟨rfl,rfl⟩<;>simp only[v9,Option.getD_none,G8 hh,G8 hl]
 unfold q9;simp only[ht,hi,G4 hup,F5 hup,bI6 (p7 lo up),bJ6];rw[hlo,bJ6,hb];simp only
 by_cases h0:l=0
 ·simp_all
 ·rw[u9 h0,bJ7,u9 (by omega),bJ7,hg]
  simp_all
theorem K6 {t : TypeId} (ht : P.underlying t = some (.slice e)) (hi : P.info? e = some ie) {i o n lo l h : Nat} (hlo : Nat.ble (Nat.max lo n) 67108864 = true) (hh : h ≤ Nat.max lo n) (hl : l ≤ h) (hlt : l < Nat.max lo n) {c : T Value} {k e' : Nat} (hg : hp.m.get i = some (.cells c k e' ie.size)) (vl vh : Option Value)
  (hvl:vl=some (.int .i64 l)\/(vl=none/\l=0)) (hvh:vh=some (.int .i64 h)\/(vh=none/\h=n)):
  q9 P hp t (.slice (some ⟨i,o,none⟩) n (c7 lo 0)) vl vh none=some (.slice (some ⟨i,o+l*ie.size,none⟩) (h-l) (c7 (Nat.max lo n-l) 0),hp):=by
 have:=at7 (hp:=hp) ht hi (o:=o) D7 hlo hh hl hlt hg vl vh hvl hvh
 grind
def XS (P:Program)(C:d8->Prop)(nt:Nat)(c:Code)(tm:T Value)(hp:Hp)(r:XR):Prop:=∃m0,∀call,C call-> ∀m,m0<=m->i9 P (u7 P) call nt none m c tm hp []=some r
variable {C :d8->Prop}{nt:Nat}{tm tm1:T Value}{hp1:Hp}{r:XR}
theorem XS.ret :XS P C nt .ret tm hp (.mk .ret tm hp []):=⟨1,fun _ _ m hm=>by obtain⟨k,rfl⟩:∃k,m=k+1:=⟨m-1,by omega⟩;rfl⟩
theorem XS.skip :XS P C nt .skip tm hp (.mk .normal tm hp []):=⟨1,fun _ _ m hm=>by obtain⟨k,rfl⟩:∃k,m=k+1:=⟨m-1,by omega⟩;rfl⟩
theorem XS.region {id:Nat}{ops:Array Oper}(h:∀call,C call->aF4 P call nt ops.toList ops.toList tm hp=some (tm1,hp1)):XS P C nt (.region id ops false) tm hp (.mk .normal tm1 hp1 []):=
 ⟨1,fun call hc m hm=>by obtain⟨k,rfl⟩:∃k,m=k+1:=⟨m-1,by omega⟩;simp only[i9,bJ7,h call hc]⟩
theorem XS.draw {id:Nat}{ops:Array Oper}(h:∀call,C call->u7 P call nt ops.toList tm hp=some (tm1,hp1)):XS P C nt (.region id ops true) tm hp (.mk .normal tm1 hp1 []):=
 ⟨1,fun call hc m hm=>by obtain⟨k,rfl⟩:∃k,m=k+1:=⟨m-1,by omega⟩;simp only[i9,bJ6,h call hc]⟩
theorem XS.seq {a b:Code}(h:XS P C nt a tm hp (.mk .normal tm1 hp1 []))(k:XS P C nt b tm1 hp1 r):XS P C nt (.seq a b) tm hp r:=by
 obtain⟨m1,h⟩:=h;obtain⟨m2,k⟩:=k;refine⟨max m1 m2+1,fun call hc m hm=>?_⟩
 obtain⟨j,rfl⟩:∃j,m=j+1:=⟨m-1,by omega⟩
 simp only[i9,h call hc j (by omega),k call hc j (by omega)]
theorem XS.seqR {a b:Code}(h:XS P C nt a tm hp (.mk .ret tm1 hp1 [])):XS P C nt (.seq a b) tm hp (.mk .ret tm1 hp1 []):=by
 obtain⟨m1,h⟩:=h;refine⟨m1+1,fun call hc m hm=>?_⟩
 obtain⟨j,rfl⟩:∃j,m=j+1:=⟨m-1,by omega⟩
 simp only[i9,h call hc j (by omega)]
theorem XS.condT {c:Operand}{a b:Code}(hc:a9 tm c=some (.bool true))(h:XS P C nt a tm hp r):XS P C nt (.cond c a b) tm hp r:=by
 obtain⟨m1,h⟩:=h;refine⟨m1+1,fun call hca m hm=>?_⟩
 obtain⟨j,rfl⟩:∃j,m=j+1:=⟨m-1,by omega⟩
 simp only[i9,hc,h call hca j (by omega)]
theorem XS.condF {c:Operand}{a b:Code}(hc:a9 tm c=some (.bool false))(h:XS P C nt b tm hp r):XS P C nt (.cond c a b) tm hp r:=by
 obtain⟨m1,h⟩:=h;refine⟨m1+1,fun call hca m hm=>?_⟩
 obtain⟨j,rfl⟩:∃j,m=j+1:=⟨m-1,by omega⟩
 simp only[i9,hc,h call hca j (by omega)]
def XN (P:Program)(C:d8->Prop)(nt:Nat)(c:Code)(tm:T Value)(hp:Hp)(Q:T Value->Hp->Prop):Prop:=∃tm1 hp1,XS P C nt c tm hp (.mk .normal tm1 hp1 [])/\Q tm1 hp1
def XT (P:Program)(C:d8->Prop)(nt:Nat)(c:Code)(tm:T Value)(hp:Hp)(Q:T Value->Hp->Prop):Prop:=∃tm1 hp1,XS P C nt c tm hp (.mk .ret tm1 hp1 [])/\Q tm1 hp1
def XO (P:Program)(C:d8->Prop)(nt:Nat)(all l:List Oper)(tm:T Value)(hp:Hp)(Q:T Value->Hp->Prop):Prop:=∃tm1 hp1,(∀call,C call->aF4 P call nt all l tm hp=some (tm1,hp1))/\Q tm1 hp1
variable {Q :T Value->Hp->Prop}
theorem XT.ret (h:Q tm hp):XT P C nt .ret tm hp Q:=⟨_,_,XS.ret,h⟩
theorem XN.skip (h:Q tm hp):XN P C nt .skip tm hp Q:=⟨_,_,XS.skip,h⟩
theorem XN.seq {a b:Code}(h:XN P C nt a tm hp fun tm1 hp1=>XN P C nt b tm1 hp1 Q):XN P C nt (.seq a b) tm hp Q:=by
 obtain⟨t1,h1,k1,t2,h2,k2,k3⟩:=h;exact⟨t2,h2,k1.seq k2,k3⟩
theorem XT.seq {a b:Code}(h:XN P C nt a tm hp fun tm1 hp1=>XT P C nt b tm1 hp1 Q):XT P C nt (.seq a b) tm hp Q:=by
 obtain⟨t1,h1,k1,t2,h2,k2,k3⟩:=h;exact⟨t2,h2,k1.seq k2,k3⟩
theorem XT.seqR {a b:Code}(h:XT P C nt a tm hp Q):XT P C nt (.seq a b) tm hp Q:=by
 obtain⟨t1,h1,k1,k2⟩:=h;exact⟨t1,h1,k1.seqR,k2⟩
theorem XN.condF {c:Operand}{a b:Code}(hc:a9 tm c=some (.bool false))(h:XN P C nt b tm hp Q):XN P C nt (.cond c a b) tm hp Q:=by obtain⟨t1,h1,k1,k2⟩:=h;exact⟨t1,h1,k1.condF hc,k2⟩
theorem XT.condT {c:Operand}{a b:Code}(hc:a9 tm c=some (.bool true))(h:XT P C nt a tm hp Q):XT P C nt (.cond c a b) tm hp Q:=by obtain⟨t1,h1,k1,k2⟩:=h;exact⟨t1,h1,k1.condT hc,k2⟩
theorem XN.region {id:Nat}{ops:Array Oper}(h:XO P C nt ops.toList ops.toList tm hp Q):XN P C nt (.region id ops false) tm hp Q:=by
 obtain⟨t1,h1,k1,k2⟩:=h;exact⟨t1,h1,.region k1,k2⟩
theorem XO.nil {all:List Oper}(h:Q tm hp):XO P C nt all [] tm hp Q:=⟨_,_,fun _ _=>aF5,h⟩
theorem XO.cons {all rest:List Oper}{o:Oper}{v:Value}(h1:A4 nt o.dst=true)(h2:o.guard=none)(h:∀call,C call->xop P call tm hp o.op=some (v,hp1))(k:XO P C nt all rest (y8 tm o.dst v) hp1 Q):XO P C nt all (o::rest) tm hp Q:=by
 obtain⟨t1,h1',k1,k2⟩:=k;refine⟨t1,h1',fun call hc=>?_,k2⟩
 rw[Q2,h1,bJ6,h call hc];simp only[n8,h2,bJ6]
 grind
theorem XO.mv {all rest:List Oper}{o:Oper}{t:Tmp}(h1:A4 nt o.dst=true)(h2:o.guard=none)(h:o.op= .move (.tmp t)){v:Value}(hv:tm.get t=some v)(k:XO P C nt all rest (y8 tm o.dst v) hp Q):XO P C nt all (o::rest) tm hp Q:=
 .cons h1 h2 (fun _ _=>by rw[h];simp only[c6,k9,a9,f7,hv,bM1]) k
theorem XO.asg {all rest:List Oper}{o:Oper}{t:Tmp}(h1:A4 nt o.dst=true)(h2:o.guard=none)(h:o.op= .assign (.tmp t)){v:Value}(hv:tm.get t=some v)(k:XO P C nt all rest (y8 tm o.dst v) hp Q):XO P C nt all (o::rest) tm hp Q:=
 .cons h1 h2 (fun _ _=>by rw[h];simp only[c6,k9,a9,f7,hv,bM1]) k
theorem be9 {t:TypeId}(ht:P.underlying t=some (.slice e))(a:Option Addr)(n c:Nat):U4 hp P t (.slice a n c)=some (.int .i64 n):=by
 unfold U4 ax0;simp only[ht]
theorem E3 {t:TypeId}(ht:P.underlying t=some (.slice e))(a:Option Addr)(n c:Nat):f7 hp (U4 hp P t (.slice a n c))=some (.int .i64 n,hp):=by rw[be9 ht];rfl
theorem aK9 {t u:TypeId}{x y:Value}{r:Value×Hp}(h:B3 P hp t u x y=some r):z9 P hp .append [t,u] [x,y]=some r:=by simp only[z9,h]
def XG (P:Program)(C:d8->Prop)(nt:Nat)(all:List Oper)(nx0:Nat)(l:List (Oper×Nat))(i:Nat)(tm:T Value)(S:Hp)(I:Nat)(es:List Ent)(Q:Out->Prop):Prop:=∃out,(∀call,C call->xgo P call nt all nx0 l i tm S I es=some out)/\Q out
variable {all :List Oper}{nx0:Nat}{rest:List (Oper×Nat)}{o:Oper}{pre ix I:Nat}{S S2:Hp}{es:List Ent}{QO:Out->Prop}{v:Value}
theorem XG.nil (h:QO ⟨tm,S,I,es⟩):XG P C nt all nx0 [] ix tm S I es QO:=⟨_,fun _ _=>rfl,h⟩
theorem XG.k0 (h1:A4 nt o.dst=true)(h2:o.guard=none)(h3:d6 o.op=0)(h:∀call,C call->xop P call tm S o.op=some (v,S))(k:XG P C nt all nx0 rest (ix+1) (y8 tm o.dst v) S I (⟨ix,o,pre,tm,S,S,I,true,v,none⟩::es) QO):XG P C nt all nx0 ((o,pre)::rest) ix tm S I es QO:=by
 obtain⟨out,k1,k2⟩:=k;refine⟨out,fun call hc=>?_,k2⟩
 unfold xgo;rw[h1,bJ6];simp only[n8,h2,bJ6,h3,h call hc]
 grind
theorem XG.k1 (h1:A4 nt o.dst=true)(h2:o.guard=none)(h3:d6 o.op=1)(h:∀call,xop P call tm S o.op=some (v,S))(k:XG P C nt all nx0 rest (ix+1) (y8 tm o.dst v) S I (⟨ix,o,pre,tm,S,S,I,true,v,none⟩::es) QO):XG P C nt all nx0 ((o,pre)::rest) ix tm S I es QO:=by
 obtain⟨out,k1,k2⟩:=k;refine⟨out,fun call hc=>?_,k2⟩
 unfold xgo;rw[h1,bJ6];have:xrd P tm S o.op=some v:=by
  unfold xrd
  simp_all
 simp only[n8,h2,bJ6,h3,this]
 grind
theorem XG.k3 (h1:A4 nt o.dst=true)(h2:o.guard=none)(h3:d6 o.op=3)(ht:takes nx0 (aj5 pre I) es S=S)(h:∀call,C call->xop P call tm S o.op=some (v,S2))(k:XG P C nt all nx0 rest (ix+1) (y8 tm o.dst v) S2 (I|||pre) (⟨ix,o,pre,tm,S,S2,I,true,v,none⟩::es) QO):XG P C nt all nx0 ((o,pre)::rest) ix tm S I es QO:=by
 obtain⟨out,k1,k2⟩:=k;refine⟨out,fun call hc=>?_,k2⟩
 unfold xgo;rw[h1,bJ6];simp only[n8,h2,bJ6,h3,ht,h call hc];exact k1 call hc
theorem XG.mv (h1:A4 nt o.dst=true)(h2:o.guard=none){t:Tmp}(h3:o.op= .move (.tmp t))(hv:tm.get t=some v)(k:XG P C nt all nx0 rest (ix+1) (y8 tm o.dst v) S I (⟨ix,o,pre,tm,S,S,I,true,v,none⟩::es) QO):XG P C nt all nx0 ((o,pre)::rest) ix tm S I es QO:=
 .k0 h1 h2 (by rw[h3];rfl) (fun _ _=>by rw[h3];simp only[c6,k9,a9,f7,hv,bM1]) k
theorem XG.asg (h1:A4 nt o.dst=true)(h2:o.guard=none){t:Tmp}(h3:o.op= .assign (.tmp t))(hv:tm.get t=some v)(k:XG P C nt all nx0 rest (ix+1) (y8 tm o.dst v) S I (⟨ix,o,pre,tm,S,S,I,true,v,none⟩::es) QO):XG P C nt all nx0 ((o,pre)::rest) ix tm S I es QO:=
 .k0 h1 h2 (by rw[h3];rfl) (fun _ _=>by rw[h3];simp only[c6,k9,a9,f7,hv,bM1]) k
theorem XN.drawG {id : Nat} {ops : Array Oper} (hst : stat ops.toList (C0 ops.toList []) = true)
  (h:XG P C nt ops.toList hp.nx (ops.toList.zip (C0 ops.toList [])) 0 tm ⟨hp.m,hp.nx+ops.toList.length⟩ 0 [] fun out=>dyn P ⟨hp.m,hp.nx+ops.toList.length⟩ out.es=true/\takes hp.nx (ah3 out.I) out.es out.S=out.S/\Q out.tm out.S):XN P C nt (.region id ops true) tm hp Q:=by
 obtain⟨out,h1,h2,h3,h4⟩:=h;refine⟨out.tm,out.S,.draw fun call hc=>?_,h4⟩
 have:M4 P call nt ops.toList tm hp=some (out.tm,out.S):=by
  unfold M4
  grind
 unfold u7
 grind
theorem W9 {f : FuncId} {fn : Func} {c : Code} {args : List Value} {r : Tmp} (h1 : P.funcs[f]? = some fn) (h2 : fn.body = some c) (h3 : fn.results = #[.tmp r]) (h : XT P C (args.length + (fn.ntmps - args.length)) c (fill .e 0 args) hp Q) :
  ∃v hp',(∃tm1,tm1.get r=v/\Q tm1 hp')/\ ∃m0,∀call,C call-> ∀m,m0<=m-> ∀runD,W8 P (u7 P) call runD m f args hp=some (v.getD undef,hp'):=by
 obtain⟨tm1,hp1,⟨m0,k1⟩,k2⟩:=h;refine⟨_,hp1,⟨tm1,rfl,k2⟩,m0,fun call hc m hm runD=>?_⟩
 unfold W8;simp only[h1,h2,k1 call hc m hm,aE5,G9,h3,F7,ag9,af2]
theorem W2 {c:T Value}{o n:Nat}{vs:List Value}(h:n9 c o n=some vs){a m:Nat}(hm:a+m<=n):n9 c (o+a) m=some ((vs.drop a).take m):=by
 obtain⟨h1,h2⟩:=j9 h;have hlen:((vs.drop a).take m).length=m:=by grind
 have:=C7 (c:=c) (vs:=(vs.drop a).take m) (o:=o+a) (fun j hj=>by
  rw[hlen]at hj;rw[bL2,bK1 hj,bL8,h2 (a+j) (by omega),bN9])
 grind
theorem bf5 {t : TypeId} (ht : P.underlying t = some (.slice e)) (hi : P.info? e = some ie) {i o n lo a b : Nat} (hlo : Nat.ble (Nat.max lo n) 67108864 = true) (hab : a ≤ b) (hbn : b ≤ n) :
  ∃v,q9 P hp t (.slice (some ⟨i,o,none⟩) n (c7 lo 0)) (some (.int .i64 a)) (some (.int .i64 b)) (some (.int .i64 n))=some (v,hp):=by
 have hb:v9 n (Nat.max lo n) (some (.int .i64 a)) (some (.int .i64 b)) (some (.int .i64 n))=some (a,b,some n):=by
  simp only[v9,G8 (bO9 lo n),bM4,bM1,G8 hbn,G8 hab]
 unfold q9;simp only[ht,hi,P8,M9,bI6 (p7 lo 0),bJ6];rw[hlo,bJ6,hb];cases hc:Nat.beq n a with
 |true=>simp_all
 |false=>simp_all
theorem aZ1 {t : TypeId} (ht : P.underlying t = some (.slice e)) (hi : P.info? e = some ie) {i o lo b n : Nat} (hlo : Nat.ble (Nat.max lo n) 67108864 = true) (hb : b = 0) :
  q9 P hp t (.slice (some ⟨i,o,none⟩) n (c7 lo 0)) (some (.int .i64 b)) none none=some (.slice (some ⟨i,o,none⟩) n (c7 (Nat.max lo n) 0),hp):=by
 have hbd:v9 n (Nat.max lo n) (some (.int .i64 b)) none none=some (b,n,none):=by simp only[v9,G8 (show b<=n by omega)]
 unfold q9;simp only[ht,hi,P8,M9,bI6 (p7 lo 0),bJ6];rw[hlo,bJ6,hbd];simp only;rw[t7 hb,bJ6]
theorem bf6 {t : TypeId} (ht : P.underlying t = some (.slice e)) (hi : P.info? e = some ie) {i o b lo : Nat} (hlo : Nat.ble (Nat.max lo b) 67108864 = true) (hb : b ≠ 0) (hmx : Nat.max lo b = b) :
  q9 P hp t (.slice (some ⟨i,o,none⟩) b (c7 lo 0)) (some (.int .i64 b)) none none=some (.slice (some ⟨0,0,some 0⟩) 0 unk,hp):=by
 have hbd:v9 b (Nat.max lo b) (some (.int .i64 b)) none none=some (b,b,none):=by simp only[v9,G8 (bK2 b)]
 unfold q9;simp only[ht,hi,P8,M9,bI6 (p7 lo 0),bJ6];rw[hlo,bJ6,hbd];simp only;rw[u9 hb,bJ7,t7 hmx.symm,bJ6]
theorem aw2 {t : TypeId} (ht : P.underlying t = some (.slice e)) (hi : P.info? e = some ie) {i o n lo b : Nat} (hlo : Nat.ble (Nat.max lo n) 67108864 = true) (hbn : b ≤ n) {c : T Value} {k e' : Nat} (hg : hp.m.get i = some (.cells c k e' ie.size)) (hk : o + n * ie.size ≤ k)
  {olds:List Value} (hl:n9 c o (n*ie.size)=some olds):
  ∃x,(∀nx,q9 P ⟨hp.m,nx⟩ t (.slice (some ⟨i,o,none⟩) n (c7 lo 0)) (some (.int .i64 b)) none none=some (x,⟨hp.m,nx⟩))/\(∀nx,v7 ⟨hp.m,nx⟩ ie.size x=some (n-b,olds.drop (b*ie.size)))/\(b<n-> ∃q c',x= .slice (some ⟨i,q,none⟩) (n-b) c'):=by
 have hmul:n*ie.size=b*ie.size+(n-b)*ie.size:=by rw[<-bL5];congr 1;omega
 have hlen:=(j9 hl).1;have hmx:n<=Nat.max lo n:=bO9 lo n
 by_cases hlt:b<Nat.max lo n
 ·refine⟨_,fun nx=>K6 (hp:=⟨hp.m,nx⟩) ht hi hlo (bO9 lo n) hbn hlt hg _ _ (.inl rfl) (.inr ⟨rfl,rfl⟩),fun nx=>?_,fun _=>⟨_,_,rfl⟩⟩
  have h1:=W2 hl (a:=b*ie.size) (m:=(n-b)*ie.size) (by omega)
  rw[bM8 (by rw[bN1];omega)]at h1
  have hble:Nat.ble (o+b*ie.size+(n-b)*ie.size) k=true:=bI6 (by omega)
  simp only[v7,hg,rdC,hble,bJ6,h1]
 ·have hb:b=n:=Nat.le_antisymm hbn (bN7 hmx (bP7 hlt))
  subst hb;have hmx:Nat.max lo b=b:=Nat.le_antisymm (bP7 hlt) hmx
  rcases Nat.eq_zero_or_pos b with h0|hpos
  ·refine⟨_,fun nx=>aZ1 ht hi hlo h0,fun nx=>?_,fun h=>absurd h (Nat.lt_irrefl _)⟩
   have hble:Nat.ble (o+b*ie.size) k=true:=bI6 (by omega)
   simp only[v7,hg,rdC];rw[hble,bJ6,hl]
   simp_all
  ·refine⟨_,fun nx=>bf6 ht hi hlo (Nat.pos_iff_ne_zero.1 hpos) hmx,fun nx=>?_,fun h=>absurd h (Nat.lt_irrefl _)⟩
   simp only[v7,bS6]
   grind
theorem aP0 {t : TypeId} (ht : P.underlying t = some (.slice e)) (hi : P.info? e = some ie) (hz : ie.zero = some zv) (hzl : zv.cells.toList.length = ie.size) (hby : ie.bytes ≤ 1048576) {i o sl L m : Nat} {x : Value} {news : List Value} (hx : v7 hp ie.size x = some (m, news))
  {c:T Value} {k:Nat} (hg:hp.m.get i=some (.cells c k e ie.size)) (hk:o+(sl+m)*ie.size<=k) (hL:sl+m<=L) (hLb:Nat.ble L 67108864=true) (hone:news.all Value.oneCell'=true) (hlen:news.length=m*ie.size):
  ∃hp1 ct,B3 P hp t t (.slice (some ⟨i,o,none⟩) sl (c7 L 0)) x=some (.slice (some ⟨i,o,none⟩) (sl+m) (c7 L 0),hp1)/\hp1.nx=hp.nx/\(∀j,j≠i->hp1.m.get j=hp.m.get j)/\hp1.m.get i=some (.cells ct k e ie.size)/\ ∀y,ct.get y=(fill c (o+sl*ie.size) news).get y:=by
 have hsum:Nat.ble (sl+m) 67108864=true:=bI6 (bN7 hL (bI3 hLb));have h1:(Nat.beq zv.cells.toList.length ie.size&&Nat.ble ie.bytes 1048576)=true:=by simp_all
 by_cases hm:m=0
 ·subst hm
  have hn:news=[]:=bI5 (by rw[hlen,bQ8])
  subst hn;refine⟨hp,c,?_,rfl,fun _ _=>rfl,hg,fun _=>rfl⟩
  have hble:Nat.ble sl (c7 L 0)=true:=bI6 (by have:=p7 L 0;have:=bI3 hLb;unfold unk at*;omega)
  unfold B3;simp only[ht,hi,hz];rw[h1,bJ6,hx];simp only[hg];rw[hsum];simp only[hone,Bool.and_self,bJ6,t7,hble,bO5]
 ·have hmax:Nat.max k (o+(sl+m)*ie.size)=k:=bR9 hk
  refine⟨{hp with m:=hp.m.set i (some (.cells (fill c (o+sl*ie.size) news) k e ie.size))},fill c (o+sl*ie.size) news,?_,rfl,fun j hj=>?_,by simp only[T.get_set,bK1],fun _=>rfl⟩
  ·unfold B3
   simp only[ht,hi,hz];rw[h1,bJ6,hx];simp only[hg];rw[hsum];have hk2:Nat.ble (o+sl*ie.size) k=true:=bI6 (by rw[bL5]at hk;omega)
   simp only[hone,Bool.and_self,bJ6,u9 hm,bJ7,bI6 (p7 L 0),M9,P8,hk2,t7,bI6 hL,hmax,H8];rw[show Nat.ble 1 0=false from rfl,Bool.false_and,bJ7]
  ·simp only[T.get_set,bJ9 hj]
theorem aX9 {t : TypeId} (ht : P.underlying t = some (.slice e)) (hi : P.info? e = some ie) (hz : ie.zero = some zv) (hcs : cst zv = true) (hzl : zv.cells.toList.length = ie.size) (hone : zv.cells.toList.all Value.oneCell' = true) {i o m cc : Nat} {c : T Value} {k e' z' : Nat}
  (hg:hp.m.get i=some (.cells c k e' z')) (hk:o+m*ie.size<=k):
  ∃hp1 ct vs,as4 P hp t (.slice (some ⟨i,o,none⟩) m cc)=some (.tuple #[],hp1)/\hp1.nx=hp.nx/\(∀j,j≠i->hp1.m.get j=hp.m.get j)/\hp1.m.get i=some (.cells ct k e' z')/\(∀y,ct.get y=(fill c o vs).get y)/\vs.length=m*ie.size:=by
 cases m with
 |zero=>exact⟨hp,c,[],by simp only[as4,ht],rfl,fun _ _=>rfl,hg,fun _=>rfl,by simp⟩
 |succ m=>
  have hxz:I3 P e=some zv:=by unfold I3;simp only[hi,hz,hcs,bJ6]
  have hl:(xrep (m+1) zv.cells.toList).length=(m+1)*ie.size:=by rw[C9,hzl]
  have hall:(xrep (m+1) zv.cells.toList).all Value.oneCell'=true:=by
   rw[bK9];intro v hv;obtain⟨j,hj,rfl⟩:=List.getElem_of_mem hv;have h2:=X7 zv.cells.toList (m+1) j (by rw[hzl,<-hl];exact hj)
   rw[bJ1 hj]at h2;exact(bK9.1 hone) _ (bI9 h2.symm)
  have hble:Nat.ble (o+(xrep (m+1) zv.cells.toList).length) k=true:=bI6 (by rw[hl];exact hk)
  refine⟨{hp with m:=hp.m.set i (some (.cells (fill c o (xrep (m+1) zv.cells.toList)) k e' z'))},fill c o (xrep (m+1) zv.cells.toList),xrep (m+1) zv.cells.toList,?_,rfl,fun j hj=>?_,by simp only[T.get_set,bK1],fun _=>rfl,hl⟩
  ·simp only[as4,ht,hxz,hg,hble,hall,Bool.and_self,bJ6,H8]
  ·simp only[T.get_set,bJ9 hj]
theorem bA4 (D : bf8 P g ρ e ie zv) {i o n lo a b : Nat} (hlo : Nat.ble (Nat.max lo n) 67108864 = true) (hab : a < b) (hbn : b ≤ n) {c : T Value} {k : Nat} (hg : hp.m.get i = some (.cells c k e ie.size)) (hk : o + n * ie.size ≤ k)
  {olds:List Value} (hl:n9 c o (n*ie.size)=some olds) (hone:olds.all Value.oneCell'=true):
  XT P C 33 ((Go.Proofs.Body2.n23 ρ).body.getD .skip) (fill .e 0 [.slice (some ⟨i,o,none⟩) n (c7 lo 0),.int .i64 a,.int .i64 b]) hp fun tm' hp'=>
   tm'.get 6=some (.slice (some ⟨i,o,none⟩) (a+(n-b)) (c7 (Nat.max lo n) 0))/\
   hp.nx<=hp'.nx/\(∀j,j≠i->hp'.m.get j=hp.m.get j)/\ ∃ct,hp'.m.get i=some (.cells ct k e ie.size)/\n9 ct o ((a+(n-b))*ie.size)=some (olds.take (a*ie.size)++olds.drop (b*ie.size)):=by
 have hlen:=(j9 hl).1;have hmulb:n*ie.size=b*ie.size+(n-b)*ie.size:=by rw[<-bL5];congr 1;omega
 have hmula:b*ie.size=a*ie.size+(b-a)*ie.size:=by rw[<-bL5];congr 1;omega
 have hsum:(a+(n-b))*ie.size=a*ie.size+(n-b)*ie.size:=bL5 _ _ _;have hmx:n<=Nat.max lo n:=bO9 lo n;obtain⟨v3,h3⟩:=bf5 (hp:=hp) D.t22 D.ty (i:=i) (o:=o) (a:=a) (b:=b) hlo (Nat.le_of_lt hab) hbn;obtain⟨x,hx1,hx2,_⟩:=aw2 (hp:=hp) D.t22 D.ty hlo hbn hg hk hl;have hs1:=K6 (hp:=⟨hp.m,hp.nx+8⟩) D.t22 D.ty (i:=i) (o:=o) (n:=n) (lo:=lo) (l:=0) (h:=a) hlo (by omega) (bR4 _) (by omega) hg none (some (.int .i64 a)) (.inr ⟨rfl,rfl⟩) (.inl rfl)
 rw[bQ8,bO5,bQ1,bQ1]at hs1;have hdl:(olds.drop (b*ie.size)).length=(n-b)*ie.size:=by grind
 have hdone:(olds.drop (b*ie.size)).all Value.oneCell'=true:=by grind
 obtain⟨hp2,c2,a1,a2,a3,a4,a5⟩:=aP0 (hp:=⟨hp.m,hp.nx+8⟩) D.t22 D.ty D.zero D.zl D.by_ (i:=i) (o:=o) (sl:=a) (L:=Nat.max lo n) (hx2 _) hg (by omega) (by omega) hlo hdone hdl
 have hs2:=K6 (hp:=hp2) D.t22 D.ty (i:=i) (o:=o) (n:=a+(n-b)) (lo:=Nat.max lo n) (l:=a+(n-b)) (h:=n) (by rw[show Nat.max (Nat.max lo n) (a+(n-b))=Nat.max lo n from bR9 (by omega)];exact hlo)
  (bN7 hmx (Nat.le_max_left _ _)) (by omega) (bN2 (by omega) (Nat.le_max_left _ _)) a4 (some (.int .i64 ((a+(n-b):Nat):Int))) (some (.int .i64 n)) (.inl rfl) (.inl rfl)
 obtain ⟨hp3, c3, vs, b1, b2, b3, b4, b5, b6⟩ := aX9 (hp := hp2) D.t22 D.ty D.zero D.cst D.zl D.one (i := i) (o := o + (a + (n - b)) * ie.size) (m := n - (a + (n - b))) (cc := c7 (Nat.max (Nat.max lo n) (a + (n - b)) - (a + (n - b))) 0) a4
  (by have : (n - (a + (n - b))) * ie.size = (b - a) * ie.size := by congr 1; omega
      omega)
 simp only[Go.Proofs.Body2.n23,bM1,fill];refine .seq (.region (.cons rfl rfl (fun _ _=>rfl) (.nil ?_)))
 refine .seq (.region ?_);refine .mv rfl rfl rfl rfl (.mv rfl rfl rfl rfl (.mv rfl rfl rfl rfl (.mv rfl rfl rfl rfl (.cons (v:= .int .i64 n) (hp1:=hp) rfl rfl (fun _ _=>E3 D.t22 _ _ _) (.cons (v:=v3) (hp1:=hp) rfl rfl (fun _ _=>h3) (.nil ?_))))))
 refine .seq (.seq (.region (.mv rfl rfl rfl rfl (.mv rfl rfl rfl rfl (.cons (v:= .bool false) (hp1:=hp) rfl rfl ?_ (.nil (.condF rfl (.skip ?_))))))))
 ·intro _ _
  show f7 hp (G7 P .eql (ρ.t 3) (.int .i64 a) (.int .i64 b))=_;simp only[G7,Z9,bN6,bJ6,B4,ak3,f7]
  simp_all;omega
 refine .seq (.region (.mv rfl rfl rfl rfl (.cons (v:= .int .i64 n) (hp1:=hp) rfl rfl (fun _ _=>E3 D.t22 _ _ _) (.asg rfl rfl rfl rfl (.nil ?_)))))
 refine .seq (.drawG (by kernel_rfl) ?_)
 refine .mv rfl rfl rfl rfl (.mv rfl rfl rfl rfl (.k1 (v:= .slice (some ⟨i,o,none⟩) a (c7 (Nat.max lo n) 0)) rfl rfl rfl (fun _=>hs1) ?_))
 refine .mv rfl rfl rfl rfl (.mv rfl rfl rfl rfl (.k1 (v:=x) rfl rfl rfl (fun _=>hx1 _) ?_))
 refine .k3 (v:= .slice (some ⟨i,o,none⟩) (a+(n-b)) (c7 (Nat.max lo n) 0)) (S2:=hp2) rfl rfl rfl (by kernel_rfl) (fun _ _=>aK9 a1) ?_
 refine .asg rfl rfl rfl rfl (.nil ⟨by kernel_rfl,by kernel_rfl,?_⟩)
 refine .seq (.region (.mv rfl rfl rfl rfl (.mv rfl rfl rfl rfl (.cons (v:= .int .i64 ((a+(n-b):Nat):Int)) (hp1:=hp2) rfl rfl (fun _ _=>E3 D.t22 _ _ _) (.mv rfl rfl rfl rfl (.cons (hp1:=hp2) rfl rfl (fun _ _=>hs2) (.cons (hp1:=hp3) rfl rfl (fun _ _=>b1) (.nil ?_))))))))
 refine .seq (.region (.mv rfl rfl rfl rfl (.asg rfl rfl rfl rfl (.nil ?_))));refine .ret ⟨rfl,?_,fun j hj=>by rw[b3 j hj,a3 j hj],c3,b4,?_⟩
 ·grind
 ·have hl1:(olds.take (a*ie.size)).length=a*ie.size:=by rw[bL4];omega
  have hlen2:(olds.take (a*ie.size)++olds.drop (b*ie.size)).length=(a+(n-b))*ie.size:=by grind
  have:=C7 (c:=c3) (vs:=olds.take (a*ie.size)++olds.drop (b*ie.size)) (o:=o) (fun j hj=>by
   rw[hlen2]at hj;rw[b5,l6,bJ9 (by omega),a5,l6]
   by_cases h1:j<a*ie.size
   ·rw[bJ9 (by omega),bI8 (by omega),bL2,bK1 h1]
    exact((j9 hl).2 j (by omega)).symm
   ·rw[bK1 (by omega),bI7 (by omega),hl1]
    congr 1
    omega)
  rw[hlen2]at this;exact this
structure ah6 (P:Program)(g:FuncId)(ρ:Go.Shelf.Ren)(e:TypeId)(ie:TypeInfo)(zv:Value):Prop where
 fn:∃fn,P.funcs[g]? =some fn/\fn.body=(Go.Proofs.Body2.n21 ρ).body/\fn.ntmps=95/\fn.results= #[.tmp 6]
 t22:P.underlying (ρ.t 22)=some (.slice e)
 t3:P.underlying (ρ.t 3)=some (.int .i64)
 ty:P.info? e=some ie
 zero:ie.zero=some zv
 cst:cst zv=true
 zl:zv.cells.toList.length=ie.size
 sz:1<=ie.size
 by_:ie.bytes<=1048576
 fo:∃fo,P.funcs[ρ.f 27]? =some fo/\aq8 fo=false
 nT:Nat.beq (ρ.t 22) ai1=false
def COv (ρ:Go.Shelf.Ren)(call:d8):Prop:=call.ov (ρ.f 27)=some (ρ.t 22)
theorem aa5 {hp':Hp}{size j q m c:Nat}(h:hp'.m.get j=hp.m.get j):v7 hp' size (.slice (some ⟨j,q,none⟩) m c)=v7 hp size (.slice (some ⟨j,q,none⟩) m c):=by
 simp only[v7,h]
theorem T5 (t:TypeId){a b:Nat}(h:a+b<4611686018427387904):f7 hp (G7 P .add t (.int .i64 a) (.int .i64 b))=some (.int .i64 ((a+b:Nat):Int),hp):=by
 have:IntKind.i64.wrap ((a:Int)+(b:Int))=((a+b:Nat):Int):=by rw[IntKind.wrap_i64];omega
 simp only[G7,Z9,bN6,bJ6,B4,f7,this]
theorem bE3 (t:TypeId){a b:Nat}(h:a<4611686018427387904)(hb:b<=a):f7 hp (G7 P .sub t (.int .i64 a) (.int .i64 b))=some (.int .i64 ((a-b:Nat):Int),hp):=by
 have:IntKind.i64.wrap ((a:Int)-(b:Int))=((a-b:Nat):Int):=by rw[IntKind.wrap_i64];omega
 simp only[G7,Z9,bN6,bJ6,B4,f7,this]
theorem Y3 (t:TypeId){a b:Nat}(h:a≠b):f7 hp (G7 P .eql t (.int .i64 a) (.int .i64 b))=some (.bool false,hp):=by
 simp only[G7,Z9,bN6,bJ6,B4,ak3,f7];rw[bP5 (by omega)]
theorem bs7 (t:TypeId)(a:Nat):f7 hp (G7 P .eql t (.int .i64 a) (.int .i64 a))=some (.bool true,hp):=by
 simp only[G7,Z9,bN6,bJ6,B4,ak3,f7]
theorem bg6 (t:TypeId){m M up:Nat}{b:Bool}(hM:M<18446744073709551616)(h:(b=false/\up=0/\m<=M)\/(b=true/\up=m/\m≠0)):f7 hp (G7 P .gtr t (.int .i64 m) (.complex .f64 M up))=some (.bool b,hp):=by
 have e1:K9 (.int .i64 (m:Nat))=some (.i64,m,m+1):=rfl;have e2:K9 (.complex .f64 M up)=some (.i64,M,up):=by
  simp only[K9,Q5,aS1];rw[show Y7 M=M by unfold Y7;exact bS3 hM]
 have e3:Z9 P .gtr t (.int .i64 m) (.complex .f64 M up)=none:=rfl;have e4:T8 (M,up) (m,m+1)=some b:=by
  unfold T8
  rcases h with⟨rfl,rfl,h⟩| ⟨rfl,rfl,h⟩
  ·rw[t7 rfl,Bool.not_true,Bool.false_and,bJ7,u9 (Nat.succ_ne_zero m),bI6 (show m+1<=M+1 by omega)]
   rfl
  ·rw[u9 h,bI6 (bK2 _)]
   rfl
 simp only[G7,e3,aX4,e1,e2,bN6,bJ6,bt2,e4,bM4,f7]
theorem aE2 {t:TypeId}(ht:P.underlying t=some (.slice e))(a:Addr){n lo up:Nat}(hup:up<unk):f7 hp (ao5 P t (.slice (some a) n (c7 lo up)))=some (.complex .f64 (Nat.max lo n) up,hp):=by
 simp only[ao5,ht,bI6 (p7 lo up),bJ6,G4 hup,F5 hup,f7]
theorem aa2 {t : TypeId} (ht : P.underlying t = some (.slice e)) (hi : P.info? e = some ie) {i o dl dc j q n cx m : Nat} {c : T Value} {k e' z' : Nat} {vs : List Value} (hg : hp.m.get i = some (.cells c k e' z')) (hx : v7 hp ie.size (.slice (some ⟨j, q, none⟩) (Nat.min n dl) cx) = some (m, vs))
  (hk:o+m*ie.size<=k\/(unk<=dc/\z'=ie.size/\o<=k)) (hm:m<=dl) (hone:vs.all Value.oneCell'=true):
  aL0 P hp t (.slice (some ⟨i,o,none⟩) dl dc) (.slice (some ⟨j,q,none⟩) n cx)=some (.int .i64 m,{hp with m:=hp.m.set i (some (.cells (fill c o vs) (Nat.max k (o+m*ie.size)) e' z'))}):=by
 have hb:((Nat.ble (o+m*ie.size) k|| (Nat.ble unk dc&&Nat.beq z' ie.size&&Nat.ble o k))&&Nat.ble m dl&&vs.all Value.oneCell')=true:=by
  rw[hone,bI6 hm,bQ7,bQ7,bP6]
  simp_all;omega
 simp only[aL0,ht,hi,hg,hx];rw[hb,bJ6,H8]
theorem aa1 {t u:TypeId}{x y:Value}{r:Value×Hp}(h:aL0 P hp t x y=some r):z9 P hp .copy [t,u] [x,y]=some r:=by simp only[z9,h]
theorem be3 {t u:TypeId}{x y:Value}{r:Value×Hp}(h1:B3 P hp t u x y=none)(h:R6 P hp t u x y=some r):z9 P hp .append [t,u] [x,y]=some r:=by simp only[z9,h1,h]
theorem bf2 (D : ah6 P g ρ e ie zv) {call : d8} (hc : COv ρ call) {i j o1 l1 c1 o2 l2 c2 : Nat} {ci cj : T Value} {ki kj ei ej zi zj : Nat} (hij : i ≠ j) (hi : hp.m.get i = some (.cells ci ki ei zi)) (hj : hp.m.get j = some (.cells cj kj ej zj)) (hk : 1 ≤ kj) :
  aE1 P call hp (.func (.func (ρ.f 27)) #[] #[]) [.slice (some ⟨i,o1,none⟩) l1 c1,.slice (some ⟨j,o2,none⟩) l2 c2]=some (.bool false,hp):=by
 obtain⟨fo,h1,h2⟩:=D.fo;have hc:call.ov (ρ.f 27)=some (ρ.t 22):=hc;simp only[aE1,h1,h2,bJ7,hc,D.nT];show aY7 P hp (ρ.t 22) [_,_]=_;simp only[aY7,D.t22,D.ty,u9 hij,bJ7,hi,hj,bI6 hk,bJ6]
theorem aY2 (D : ah6 P g ρ e ie zv) {a : Option Addr} {n c j q cm : Nat} {r v0 : Value} {hp1 : Hp} (hs : q9 P hp (ρ.t 22) (.slice a n c) (some (.int .i64 n)) none none = some (v0, hp))
  (ha:B3 P hp (ρ.t 22) (ρ.t 22) (.slice a n c) (.slice (some ⟨j,q,none⟩) 1 cm)=some (r,hp1)):
  XT P C 95 ((Go.Proofs.Body2.n21 ρ).body.getD .skip) (fill .e 0 [.slice a n c,.int .i64 n,.slice (some ⟨j,q,none⟩) 1 cm]) hp fun tm' hp'=>tm'.get 6=some r/\hp'=hp1:=by
 simp only[Go.Proofs.Body2.n21,bM1,fill];refine .seq (.region (.cons rfl rfl (fun _ _=>rfl) (.nil ?_)))
 refine .seq (.region (.mv rfl rfl rfl rfl (.mv rfl rfl rfl rfl (.cons (v:=v0) (hp1:=hp) rfl rfl (fun _ _=>hs) (.nil ?_)))))
 refine .seq (.region (.mv rfl rfl rfl rfl (.cons (v:= .int .i64 ((1:Nat):Int)) (hp1:=hp) rfl rfl (fun _ _=>E3 D.t22 _ _ _) (.asg rfl rfl rfl rfl (.nil ?_)))))
 refine .seq (.seq (.region (.mv rfl rfl rfl rfl (.cons (v:= .bool false) (hp1:=hp) rfl rfl (fun _ _=>Y3 (P:=P) (ρ.t 3) (a:=1) (b:=0) (by omega)) (.nil (.condF rfl (.skip ?_)))))))
 refine .seq (.region (.mv rfl rfl rfl rfl (.cons (v:= .int .i64 n) (hp1:=hp) rfl rfl (fun _ _=>E3 D.t22 _ _ _) (.asg rfl rfl rfl rfl (.nil ?_)))))
 refine .seqR (.seq (.region (.mv rfl rfl rfl rfl (.mv rfl rfl rfl rfl (.cons (v:= .bool true) (hp1:=hp) rfl rfl (fun _ _=>bs7 (P:=P) (ρ.t 3) n) (.nil ?_))))))
 refine .condT rfl (.seq (.region (.mv rfl rfl rfl rfl (.mv rfl rfl rfl rfl (.cons (v:=r) (hp1:=hp1) rfl rfl (fun _ _=>aK9 ha) (.asg rfl rfl rfl rfl (.nil (.ret ⟨rfl,rfl⟩))))))))
theorem aI7 {ct : T Value} {o s n at_ : Nat} {olds news : List Value} (hat : at_ ≤ n) (hlo : olds.length = n * s) (hln : news.length = s) (h1 : ∀ j, j < at_ * s → ct.get (o + j) = olds[j]?) (h2 : ∀ j, j < s → ct.get (o + at_ * s + j) = news[j]?) (h3 : ∀ j, j < (n - at_) * s → ct.get (o + (at_ + 1) * s + j) = olds[at_ * s + j]?) :
  n9 ct o ((n+1)*s)=some (olds.take (at_*s)++news++olds.drop (at_*s)):=by
 have hm:n*s=at_*s+(n-at_)*s:=by rw[<-bL5];congr 1;omega
 have hm1:(at_+1)*s=at_*s+s:=bO6 _ _;have hm2:(n+1)*s=n*s+s:=bO6 _ _;have l1:(olds.take (at_*s)).length=at_*s:=by grind
 have l2:(olds.take (at_*s)++news).length=at_*s+s:=by grind
 have l3:(olds.take (at_*s)++news++olds.drop (at_*s)).length=(n+1)*s:=by grind
 have:=C7 (c:=ct) (vs:=olds.take (at_*s)++news++olds.drop (at_*s)) (o:=o) (fun j hj=>by
  rw[l3]at hj
  by_cases c1:j<at_*s
  ·grind
  ·by_cases c2:j<at_*s+s
   ·grind
   ·rw[bI7 (by omega),l2,bL8]
    have:=h3 (j-(at_*s+s)) (by omega)
    rw[show o+(at_+1)*s+(j-(at_*s+s))=o+j by omega]at this
    rw[this])
 grind
theorem aL2 (D : ah6 P g ρ e ie zv) {i o n lo at_ j q cm : Nat} (hlo : Nat.ble (Nat.max lo n) 67108864 = true) (hroom : n + 1 ≤ Nat.max lo n) (hat : at_ < n) (hij : j ≠ i) {c cj : T Value} {k kj ej zj : Nat} (hg : hp.m.get i = some (.cells c k e ie.size)) (hgj : hp.m.get j = some (.cells cj kj ej zj))
  (hk:o+n*ie.size<=k) {olds news:List Value} (hl:n9 c o (n*ie.size)=some olds) (hn:v7 hp ie.size (.slice (some ⟨j,q,none⟩) 1 cm)=some (1,news)) (hnl:news.length=ie.size) (hone:olds.all Value.oneCell'=true) (hone':news.all Value.oneCell'=true):
  XT P (COv ρ) 95 ((Go.Proofs.Body2.n21 ρ).body.getD .skip) (fill .e 0 [.slice (some ⟨i,o,none⟩) n (c7 lo 0),.int .i64 at_,.slice (some ⟨j,q,none⟩) 1 cm]) hp fun tm' hp'=>
   tm'.get 6=some (.slice (some ⟨i,o,none⟩) (n+1) (c7 (Nat.max lo n) 0))/\hp.nx<=hp'.nx/\(∀x,x≠i->hp'.m.get x=hp.m.get x)/\
   ∃ct k',hp'.m.get i=some (.cells ct k' e ie.size)/\o+(n+1)*ie.size<=k'/\n9 ct o ((n+1)*ie.size)=some (olds.take (at_*ie.size)++news++olds.drop (at_*ie.size)):=by
 have hMb:Nat.max lo n<=67108864:=bI3 hlo;generalize hM:Nat.max lo n=M at*;have hlen:=(j9 hl).1;have hMM:Nat.max M (n+1)=M:=bR9 hroom;have hlo2:Nat.ble (Nat.max M (n+1)) 67108864=true:=by rw[hMM];exact hlo
 have hs:=D.sz;have m1:n*ie.size=at_*ie.size+(n-at_)*ie.size:=by rw[<-bL5];congr 1;omega
 have m2:(at_+1)*ie.size=at_*ie.size+ie.size:=bO6 _ _;have m3:(n+1)*ie.size=n*ie.size+ie.size:=bO6 _ _;have m4:(at_+1)*ie.size<=n*ie.size:=bJ2 _ hat;have s1:=K6 (hp:=hp) D.t22 D.ty (i:=i) (o:=o) (n:=n) (lo:=lo) (l:=at_) (h:=n) (by rw[hM];exact hlo) (by rw[hM];omega) (Nat.le_of_lt hat) (by rw[hM];omega) hg (some (.int .i64 at_)) none (.inl rfl) (.inr ⟨rfl,rfl⟩)
 have s2:=K6 (hp:=hp) D.t22 D.ty (i:=i) (o:=o) (n:=n) (lo:=lo) (l:=0) (h:=n+1) (by rw[hM];exact hlo) (by rw[hM];omega) (bR4 _) (by rw[hM];omega) hg none (some (.int .i64 ((n+1:Nat):Int))) (.inr ⟨rfl,rfl⟩) (.inl rfl)
 rw[hM]at s2;simp only[bQ8,bO5,bQ1]at s2;have s3:∀(hpx:Hp) {ct:T Value} {kx:Nat},hpx.m.get i=some (.cells ct kx e ie.size)-> ∀l,l<n+1->q9 P hpx (ρ.t 22) (.slice (some ⟨i,o,none⟩) (n+1) (c7 M 0)) (some (.int .i64 l)) none none=some (.slice (some ⟨i,o+l*ie.size,none⟩) (n+1-l) (c7 (M-l) 0),hpx):=by
  intro hpx ct kx hgx l hlt;have:=K6 (hp:=hpx) D.t22 D.ty (i:=i) (o:=o) (n:=n+1) (lo:=M) (l:=l) (h:=n+1) hlo2 (by rw[hMM];omega) (Nat.le_of_lt hlt) (by rw[hMM];omega) hgx (some (.int .i64 l)) none (.inl rfl) (.inr ⟨rfl,rfl⟩)
  rwa[hMM]at this
 have hv1:=W2 hl (a:=at_*ie.size) (m:=(n-at_)*ie.size) (by omega)
 rw[bM8 (by rw[bN1];omega)]at hv1
 have hdone:(olds.drop (at_*ie.size)).all Value.oneCell'=true:=by
  rw[bK9]at hone⊢;exact fun v hv=>hone v (bQ6 hv)
 have x1:v7 ⟨hp.m,hp.nx+9⟩ ie.size (.slice (some ⟨i,o+at_*ie.size,none⟩) (Nat.min (n+1-at_) (n+1-(at_+1))) (c7 (M-at_) 0))=some (n-at_,olds.drop (at_*ie.size)):=by
  have hmin:Nat.min (n+1-at_) (n+1-(at_+1))=n-at_:=by rw[show n+1-(at_+1)=n-at_ by omega];exact Nat.min_eq_right (by omega)
  have hble:Nat.ble (o+at_*ie.size+(n-at_)*ie.size) k=true:=bI6 (by omega)
  simp only[v7,hg,rdC,hmin,hble,bJ6,hv1]
 have c1:=aa2 (hp:=⟨hp.m,hp.nx+9⟩) D.t22 D.ty (i:=i) (o:=o+(at_+1)*ie.size) (dl:=n+1-(at_+1)) (dc:=c7 (M-(at_+1)) 0) hg x1 (.inr ⟨p7 _ _,rfl,by omega⟩) (by omega) hdone
 generalize hk1:Nat.max k (o+(at_+1)*ie.size+(n-at_)*ie.size)=k1 at c1;have hk1':o+(n+1)*ie.size<=k1:=by rw[<-hk1];exact bN7 (by omega) (bO9 _ _)
 generalize hc1:fill c (o+(at_+1)*ie.size) (olds.drop (at_*ie.size))=ct1 at c1;generalize hH1:({(⟨hp.m,hp.nx+9⟩:Hp)with m:=(⟨hp.m,hp.nx+9⟩:Hp).m.set i (some (.cells ct1 k1 e ie.size))}:Hp)=H1 at c1
 have hgH1:H1.m.get i=some (.cells ct1 k1 e ie.size):=by rw[<-hH1];simp only[T.get_set,bK1]
 have hoH1:∀x,x≠i->H1.m.get x=hp.m.get x:=fun x hx=>by rw[<-hH1];simp only[T.get_set,bJ9 hx]
 have x2:v7 H1 ie.size (.slice (some ⟨j,q,none⟩) (Nat.min 1 (n+1-at_)) cm)=some (1,news):=by
  rw[show Nat.min 1 (n+1-at_)=1 from Nat.min_eq_left (by omega),aa5 (hoH1 j hij)]
  exact hn
 have c2:=aa2 (hp:=H1) D.t22 D.ty (i:=i) (o:=o+at_*ie.size) (dl:=n+1-at_) (dc:=c7 (M-at_) 0) hgH1 x2 (.inl (by omega)) (by omega) hone'
 have hk2:Nat.max k1 (o+at_*ie.size+1*ie.size)=k1:=bR9 (by omega)
 rw[hk2]at c2;simp only[Go.Proofs.Body2.n21,bM1,fill];refine .seq (.region (.cons rfl rfl (fun _ _=>rfl) (.nil ?_)))
 refine .seq (.region (.mv rfl rfl rfl rfl (.mv rfl rfl rfl rfl (.cons (hp1:=hp) rfl rfl (fun _ _=>s1) (.nil ?_)))))
 refine .seq (.region (.mv rfl rfl rfl rfl (.cons (v:= .int .i64 ((1:Nat):Int)) (hp1:=hp) rfl rfl (fun _ _=>E3 D.t22 _ _ _) (.asg rfl rfl rfl rfl (.nil ?_)))))
 refine .seq (.seq (.region (.mv rfl rfl rfl rfl (.cons (v:= .bool false) (hp1:=hp) rfl rfl (fun _ _=>Y3 (P:=P) (ρ.t 3) (a:=1) (b:=0) (by omega)) (.nil (.condF rfl (.skip ?_)))))))
 refine .seq (.region (.mv rfl rfl rfl rfl (.cons (v:= .int .i64 n) (hp1:=hp) rfl rfl (fun _ _=>E3 D.t22 _ _ _) (.asg rfl rfl rfl rfl (.nil ?_)))))
 refine .seq (.seq (.region (.mv rfl rfl rfl rfl (.mv rfl rfl rfl rfl (.cons (v:= .bool false) (hp1:=hp) rfl rfl (fun _ _=>Y3 (P:=P) (ρ.t 3) (a:=at_) (b:=n) (by omega)) (.nil (.condF rfl (.skip ?_))))))))
 refine .seq (.seq (.region (.mv rfl rfl rfl rfl (.mv rfl rfl rfl rfl (.cons (v:= .int .i64 ((n+1:Nat):Int)) (hp1:=hp) rfl rfl (fun _ _=>T5 (P:=P) (ρ.t 3) (a:=n) (b:=1) (by omega)) (.mv rfl rfl rfl rfl (.cons (v:= .complex .f64 M 0) (hp1:=hp) rfl rfl (fun _ _=>by rw[<-hM];exact aE2 D.t22 _ D7) (.cons (v:= .bool false) (hp1:=hp) rfl rfl (fun _ _=>bg6 (P:=P) (ρ.t 3) (m:=n+1) (M:=M) (up:=0) (by omega) (.inl ⟨rfl,rfl,hroom⟩)) (.nil (.condF rfl (.skip ?_)))))))))))
 refine .seq (.region (.mv rfl rfl rfl rfl (.mv rfl rfl rfl rfl (.mv rfl rfl rfl rfl (.cons (v:= .int .i64 ((n+1:Nat):Int)) (hp1:=hp) rfl rfl (fun _ _=>T5 (P:=P) (ρ.t 3) (a:=n) (b:=1) (by omega)) (.cons (hp1:=hp) rfl rfl (fun _ _=>s2) (.asg rfl rfl rfl rfl (.nil ?_))))))))
 refine .seqR (.seq (.region (.mv rfl rfl rfl rfl (.mv rfl rfl rfl rfl (.mv rfl rfl rfl rfl (.mv rfl rfl rfl rfl (.cons (v:= .int .i64 ((at_+1:Nat):Int)) (hp1:=hp) rfl rfl (fun _ _=>T5 (P:=P) (ρ.t 3) (a:=at_) (b:=1) (by omega)) (.cons (hp1:=hp) rfl rfl (fun _ _=>s3 hp hg (at_+1) (by omega)) (.cons (v:= .bool false) (hp1:=hp) rfl rfl (fun _ hc=>bf2 D hc hij hgj hg (by omega)) (.cons (v:= .bool true) (hp1:=hp) rfl rfl (fun _ _=>rfl) (.nil ?_)))))))))))
 refine .condT rfl ?_;refine .seq (.drawG (by kernel_rfl) ?_)
 refine .mv rfl rfl rfl rfl (.mv rfl rfl rfl rfl (.mv rfl rfl rfl rfl (.k0 (v:= .int .i64 ((at_+1:Nat):Int)) rfl rfl rfl (fun _ _=>T5 (P:=P) (ρ.t 3) (a:=at_) (b:=1) (by omega)) (.k1 rfl rfl rfl (fun _=>s3 ⟨hp.m,hp.nx+9⟩ hg (at_+1) (by omega)) ?_))))
 refine .mv rfl rfl rfl rfl (.mv rfl rfl rfl rfl (.k1 rfl rfl rfl (fun _=>s3 ⟨hp.m,hp.nx+9⟩ hg at_ (by omega)) ?_))
 refine .k3 (v:= .int .i64 ((n-at_:Nat):Int)) (S2:=H1) rfl rfl rfl (by kernel_rfl) (fun _ _=>aa1 (u:=ρ.t 22) c1) ?_
 refine .nil ⟨by kernel_rfl,by kernel_rfl,?_⟩
 refine .seq (.region (.mv rfl rfl rfl rfl (.mv rfl rfl rfl rfl (.cons (hp1:=H1) rfl rfl (fun _ _=>s3 H1 hgH1 at_ (by omega)) (.mv rfl rfl rfl rfl (.cons rfl rfl (fun _ _=>aa1 (u:=ρ.t 22) c2) (.nil ?_)))))))
 refine .seq (.region (.mv rfl rfl rfl rfl (.asg rfl rfl rfl rfl (.nil ?_))));refine .ret ⟨rfl,?_,fun x hx=>?_,fill ct1 (o+at_*ie.size) news,k1,?_,hk1',?_⟩
 ·show hp.nx<=H1.nx
  rw[<-hH1];exact Nat.le_add_right _ _
 ·show(H1.m.set i _).get x=_
  rw[T.get_set,bJ9 hx,hoH1 x hx]
 ·show(H1.m.set i _).get i=_
  rw[T.get_set,bK1 rfl]
 ·refine aI7 (Nat.le_of_lt hat) hlen hnl (fun y hy=>?_) (fun y hy=>?_) (fun y hy=>?_)
  ·rw[l6,bJ9 (by omega),<-hc1,l6,bJ9 (by omega)]
   exact((j9 hl).2 y (by omega)).symm
  ·rw[l6,bK1 (by omega)]
   congr 1;omega
  ·rw[l6,bJ9 (by omega),<-hc1,l6,bK1 (by rw[bN1];omega),bL8]
   congr 1;omega
theorem bq3 (D : ah6 P g ρ e ie zv) {i o n at_ j q cm : Nat} (hlo : Nat.ble (n + 1) 67108864 = true) (hat : at_ < n) (hi : i < hp.nx) (hj : j < hp.nx) {c : T Value} {k : Nat} (hg : hp.m.get i = some (.cells c k e ie.size))
  (hk:o+n*ie.size<=k) {olds news:List Value} (hl:n9 c o (n*ie.size)=some olds) (hn:v7 hp ie.size (.slice (some ⟨j,q,none⟩) 1 cm)=some (1,news)) (hnl:news.length=ie.size) (hone:olds.all Value.oneCell'=true) (hone':news.all Value.oneCell'=true):
  XT P C 95 ((Go.Proofs.Body2.n21 ρ).body.getD .skip) (fill .e 0 [.slice (some ⟨i,o,none⟩) n (c7 n (n+1)),.int .i64 at_,.slice (some ⟨j,q,none⟩) 1 cm]) hp fun tm' hp'=>
   tm'.get 6=some (.slice (some ⟨hp.nx,0,none⟩) (n+1) (c7 (n+1) 0))/\hp.nx<hp'.nx/\(∀x,x≠hp.nx->hp'.m.get x=hp.m.get x)/\
   ∃ct k',hp'.m.get hp.nx=some (.cells ct k' e ie.size)/\0+(n+1)*ie.size<=k'/\n9 ct 0 ((n+1)*ie.size)=some (olds.take (at_*ie.size)++news++olds.drop (at_*ie.size)):=by
 have hMb:n+1<=67108864:=bI3 hlo;have hlen:=(j9 hl).1;have hnn:Nat.max n n=n:=Nat.max_self n;have hup:n+1<unk:=by unfold unk;omega
 have hlon:Nat.ble (Nat.max n n) 67108864=true:=by rw[hnn];exact bI6 (by omega)
 have hMM:Nat.max (n+1) (n+1)=n+1:=Nat.max_self _;have hlo2:Nat.ble (Nat.max (n+1) (n+1)) 67108864=true:=by rw[hMM];exact hlo
 have hs:=D.sz;have m1:n*ie.size=at_*ie.size+(n-at_)*ie.size:=by rw[<-bL5];congr 1;omega
 have m2:(at_+1)*ie.size=at_*ie.size+ie.size:=bO6 _ _;have m3:(n+1)*ie.size=n*ie.size+ie.size:=bO6 _ _;have m4:(at_+1)*ie.size<=n*ie.size:=bJ2 _ hat;have s1:∀(hpx:Hp),hpx.m.get i=some (.cells c k e ie.size)->q9 P hpx (ρ.t 22) (.slice (some ⟨i,o,none⟩) n (c7 n (n+1))) (some (.int .i64 at_)) none none=some (.slice (some ⟨i,o+at_*ie.size,none⟩) (n-at_) (c7 (n-at_) (n+1-at_)),hpx):=by
  intro hpx hgx;have:=at7 (hp:=hpx) D.t22 D.ty (i:=i) (o:=o) (n:=n) (lo:=n) (l:=at_) (h:=n) hup hlon (by rw[hnn];exact bK2 _) (Nat.le_of_lt hat) (by rw[hnn];exact hat) hgx (some (.int .i64 at_)) none (.inl rfl) (.inr ⟨rfl,rfl⟩)
  rwa[hnn]at this
 have s2:=at7 (hp:=hp) D.t22 D.ty (i:=i) (o:=o) (n:=n) (lo:=n) (l:=0) (h:=at_) hup hlon (by rw[hnn];omega) (bR4 _) (by rw[hnn];omega) hg none (some (.int .i64 at_)) (.inr ⟨rfl,rfl⟩) (.inl rfl)
 rw[hnn]at s2;simp only[bQ8,bO5,bQ1]at s2;have hl0:=W2 hl (a:=0) (m:=at_*ie.size) (by omega)
 rw[bO5,bR5]at hl0;generalize hV:olds.take (at_*ie.size)++xrep (n+1-at_) zv.cells.toList=V at*;have hVl:V.length=(n+1)*ie.size:=by
  rw[<-hV,bK6,bL4,C9,D.zl,show min (at_*ie.size) olds.length=at_*ie.size by omega,<-bL5]
  congr 1;omega
 have hapn:B3 P hp (ρ.t 22) (ρ.t 3) (.slice (some ⟨i,o,none⟩) at_ (c7 n (n+1))) (.int .i64 ((n+1-at_:Nat):Int))=none:=by unfold B3;simp only[D.t22,D.t3]
 have hap:R6 P hp (ρ.t 22) (ρ.t 3) (.slice (some ⟨i,o,none⟩) at_ (c7 n (n+1))) (.int .i64 ((n+1-at_:Nat):Int))=some (.slice (some ⟨hp.nx,0,none⟩) (n+1) (c7 (n+1) 0),hp.new V e ie.size):=by
  have e1:(cst zv&&Nat.beq zv.cells.toList.length ie.size&&Nat.ble ie.bytes 1048576&&Nat.ble 1 ie.size&&Nat.ble 1 (n+1-at_)&&Nat.ble (at_+(n+1-at_)) 67108864&&(Nat.ble unk (c7 n (n+1))&&Nat.ble 1 (C3 (c7 n (n+1)))&&Nat.ble (C3 (c7 n (n+1))) (at_+(n+1-at_))))=true:=by
   rw[D.cst,D.zl,t7 rfl,bI6 D.by_,bI6 D.sz,bI6 (show 1<=n+1-at_ by omega),show at_+(n+1-at_)=n+1 by omega,hlo,bI6 (p7 n (n+1)),F5 hup,bI6 (show 1<=n+1 by omega),bI6 (bK2 _)]
   rfl
  have e2:Nat.ble (o+at_*ie.size) k=true:=bI6 (by omega)
  have e3:at_+(n+1-at_)=n+1:=by omega
  unfold R6;simp only[D.t22,D.t3,D.ty,D.zero];show(bif _ then _ else _)=_
  rw[e1,bJ6];simp only[hg,e2,bJ6,hl0,e3,hV]
 generalize hH0:hp.new V e ie.size=H0 at hap;have hgH0:H0.m.get hp.nx=some (.cells (fill .e 0 V) ((n+1)*ie.size) e ie.size):=by
  rw[<-hH0];show(hp.m.set hp.nx _).get hp.nx=_;rw[T.get_set,bK1 rfl,hVl]
 have hoH0:∀x,x≠hp.nx->H0.m.get x=hp.m.get x:=fun x hx=>by
  rw[<-hH0];show(hp.m.set hp.nx _).get x=_;rw[T.get_set,bJ9 hx]
 have s3:∀(hpx:Hp) {ct:T Value} {kx:Nat},hpx.m.get hp.nx=some (.cells ct kx e ie.size)-> ∀l,l<n+1->q9 P hpx (ρ.t 22) (.slice (some ⟨hp.nx,0,none⟩) (n+1) (c7 (n+1) 0)) (some (.int .i64 l)) none none=some (.slice (some ⟨hp.nx,0+l*ie.size,none⟩) (n+1-l) (c7 (n+1-l) 0),hpx):=by
  intro hpx ct kx hgx l hlt;have:=K6 (hp:=hpx) D.t22 D.ty (i:=hp.nx) (o:=0) (n:=n+1) (lo:=n+1) (l:=l) (h:=n+1) hlo2 (by rw[hMM];omega) (Nat.le_of_lt hlt) (by rw[hMM];omega) hgx (some (.int .i64 l)) none (.inl rfl) (.inr ⟨rfl,rfl⟩)
  rwa[hMM]at this
 have x1:v7 H0 ie.size (.slice (some ⟨j,q,none⟩) (Nat.min 1 (n+1-at_)) cm)=some (1,news):=by
  rw[show Nat.min 1 (n+1-at_)=1 from Nat.min_eq_left (by omega),aa5 (hoH0 j (by omega))]
  exact hn
 have c1:=aa2 (hp:=H0) D.t22 D.ty (i:=hp.nx) (o:=0+at_*ie.size) (dl:=n+1-at_) (dc:=c7 (n+1-at_) 0) hgH0 x1 (.inl (by omega)) (by omega) hone'
 have hk1:Nat.max ((n+1)*ie.size) (0+at_*ie.size+1*ie.size)=(n+1)*ie.size:=bR9 (by omega)
 rw[hk1]at c1;generalize hc1:fill (fill .e 0 V) (0+at_*ie.size) news=ct1 at c1;generalize hH1:({H0 with m:=H0.m.set hp.nx (some (.cells ct1 ((n+1)*ie.size) e ie.size))}:Hp)=H1 at c1
 have hgH1:H1.m.get hp.nx=some (.cells ct1 ((n+1)*ie.size) e ie.size):=by rw[<-hH1];simp only[T.get_set,bK1]
 have hoH1:∀x,x≠hp.nx->H1.m.get x=hp.m.get x:=fun x hx=>by rw[<-hH1];simp only[T.get_set,bJ9 hx];exact hoH0 x hx
 have hv1:=W2 hl (a:=at_*ie.size) (m:=(n-at_)*ie.size) (by omega)
 rw[bM8 (by rw[bN1];omega)]at hv1
 have hdone:(olds.drop (at_*ie.size)).all Value.oneCell'=true:=by
  rw[bK9]at hone⊢;exact fun v hv=>hone v (bQ6 hv)
 have x2:v7 ⟨H1.m,H1.nx+9⟩ ie.size (.slice (some ⟨i,o+at_*ie.size,none⟩) (Nat.min (n-at_) (n+1-(at_+1))) (c7 (n-at_) (n+1-at_)))=some (n-at_,olds.drop (at_*ie.size)):=by
  have hmin:Nat.min (n-at_) (n+1-(at_+1))=n-at_:=by rw[show n+1-(at_+1)=n-at_ by omega];exact Nat.min_self _
  have hble:Nat.ble (o+at_*ie.size+(n-at_)*ie.size) k=true:=bI6 (by omega)
  have hgi:H1.m.get i=some (.cells c k e ie.size):=by rw[hoH1 i (by omega)];exact hg
  simp only[v7,hgi,rdC,hmin,hble,bJ6,hv1]
 have c2:=aa2 (hp:=⟨H1.m,H1.nx+9⟩) D.t22 D.ty (i:=hp.nx) (o:=0+(at_+1)*ie.size) (dl:=n+1-(at_+1)) (dc:=c7 (n+1-(at_+1)) 0) hgH1 x2 (.inl (by omega)) (by omega) hdone
 have hk2:Nat.max ((n+1)*ie.size) (0+(at_+1)*ie.size+(n-at_)*ie.size)=(n+1)*ie.size:=bR9 (by omega)
 rw[hk2]at c2;simp only[Go.Proofs.Body2.n21,bM1,fill];refine .seq (.region (.cons rfl rfl (fun _ _=>rfl) (.nil ?_)))
 refine .seq (.region (.mv rfl rfl rfl rfl (.mv rfl rfl rfl rfl (.cons (hp1:=hp) rfl rfl (fun _ _=>s1 hp hg) (.nil ?_)))))
 refine .seq (.region (.mv rfl rfl rfl rfl (.cons (v:= .int .i64 ((1:Nat):Int)) (hp1:=hp) rfl rfl (fun _ _=>E3 D.t22 _ _ _) (.asg rfl rfl rfl rfl (.nil ?_)))))
 refine .seq (.seq (.region (.mv rfl rfl rfl rfl (.cons (v:= .bool false) (hp1:=hp) rfl rfl (fun _ _=>Y3 (P:=P) (ρ.t 3) (a:=1) (b:=0) (by omega)) (.nil (.condF rfl (.skip ?_)))))))
 refine .seq (.region (.mv rfl rfl rfl rfl (.cons (v:= .int .i64 n) (hp1:=hp) rfl rfl (fun _ _=>E3 D.t22 _ _ _) (.asg rfl rfl rfl rfl (.nil ?_)))))
 refine .seq (.seq (.region (.mv rfl rfl rfl rfl (.mv rfl rfl rfl rfl (.cons (v:= .bool false) (hp1:=hp) rfl rfl (fun _ _=>Y3 (P:=P) (ρ.t 3) (a:=at_) (b:=n) (by omega)) (.nil (.condF rfl (.skip ?_))))))))
 refine .seqR (.seq (.region (.mv rfl rfl rfl rfl (.mv rfl rfl rfl rfl (.cons (v:= .int .i64 ((n+1:Nat):Int)) (hp1:=hp) rfl rfl (fun _ _=>T5 (P:=P) (ρ.t 3) (a:=n) (b:=1) (by omega)) (.mv rfl rfl rfl rfl (.cons (v:= .complex .f64 n (n+1)) (hp1:=hp) rfl rfl (fun _ _=>(aE2 D.t22 _ hup).trans (by rw[hnn])) (.cons (v:= .bool true) (hp1:=hp) rfl rfl (fun _ _=>bg6 (P:=P) (ρ.t 3) (m:=n+1) (M:=n) (up:=n+1) (by omega) (.inr ⟨rfl,rfl,by omega⟩)) (.nil ?_)))))))))
 refine .condT rfl ?_;refine .seq (.region (.mv rfl rfl rfl rfl (.mv rfl rfl rfl rfl (.cons (hp1:=hp) rfl rfl (fun _ _=>s2) (.mv rfl rfl rfl rfl (.mv rfl rfl rfl rfl (.cons (v:= .int .i64 ((n+1:Nat):Int)) (hp1:=hp) rfl rfl (fun _ _=>T5 (P:=P) (ρ.t 3) (a:=n) (b:=1) (by omega)) (.mv rfl rfl rfl rfl (.cons (v:= .int .i64 ((n+1-at_:Nat):Int)) (hp1:=hp) rfl rfl (fun _ _=>bE3 (P:=P) (ρ.t 3) (a:=n+1) (b:=at_) (by omega) (by omega)) (.cons (hp1:=H0) rfl rfl (fun _ _=>be3 hapn hap) (.asg rfl rfl rfl rfl (.nil ?_))))))))))))
 refine .seq (.region (.mv rfl rfl rfl rfl (.mv rfl rfl rfl rfl (.cons (hp1:=H0) rfl rfl (fun _ _=>s3 H0 hgH0 at_ (by omega)) (.mv rfl rfl rfl rfl (.cons (hp1:=H1) rfl rfl (fun _ _=>aa1 (u:=ρ.t 22) c1) (.nil ?_)))))))
 refine .seq (.drawG (by kernel_rfl) ?_)
 refine .mv rfl rfl rfl rfl (.mv rfl rfl rfl rfl (.mv rfl rfl rfl rfl (.k0 (v:= .int .i64 ((at_+1:Nat):Int)) rfl rfl rfl (fun _ _=>T5 (P:=P) (ρ.t 3) (a:=at_) (b:=1) (by omega)) (.k1 rfl rfl rfl (fun _=>s3 ⟨H1.m,H1.nx+9⟩ hgH1 (at_+1) (by omega)) ?_))))
 refine .mv rfl rfl rfl rfl (.mv rfl rfl rfl rfl (.k1 rfl rfl rfl (fun _=>s1 ⟨H1.m,H1.nx+9⟩ (by rw[<-hg];exact hoH1 i (by omega))) ?_))
 refine .k3 (v:= .int .i64 ((n-at_:Nat):Int)) rfl rfl rfl (by kernel_rfl) (fun _ _=>aa1 (u:=ρ.t 22) c2) ?_
 refine .nil ⟨by kernel_rfl,by kernel_rfl,?_⟩
 refine .seq (.region (.mv rfl rfl rfl rfl (.asg rfl rfl rfl rfl (.nil ?_))));refine .ret ⟨rfl,?_,fun x hx=>?_,fill ct1 (0+(at_+1)*ie.size) (olds.drop (at_*ie.size)),(n+1)*ie.size,?_,by omega,?_⟩
 ·show hp.nx<H1.nx+9
  rw[<-hH1,<-hH0];show hp.nx<hp.nx+1+9;omega
 ·show(H1.m.set hp.nx _).get x=_
  rw[T.get_set,bJ9 hx,hoH1 x hx]
 ·show(H1.m.set hp.nx _).get hp.nx=_
  rw[T.get_set,bK1 rfl]
 ·have hVg : ∀ y, y < at_ * ie.size → V[y]? = olds[y]? := fun y hy => by
   rw[<-hV,bI8 (by rw[bL4];omega),bL2,bK1 hy]
  refine aI7 (Nat.le_of_lt hat) hlen hnl (fun y hy=>?_) (fun y hy=>?_) (fun y hy=>?_)
  ·rw[l6,bJ9 (by omega),<-hc1,l6,bJ9 (by omega),bL1,B6 V y (by omega)]
   exact hVg y hy
  ·rw[l6,bJ9 (by omega),<-hc1,l6,bK1 (by omega)]
   congr 1;omega
  ·rw[l6,bK1 (by rw[bN1];omega),bL8]
   congr 1;omega
def XF (P:Program)(C:d8->Prop)(nt:Nat)(c:Code)(tm:T Value)(hp:Hp):Prop:=∃m0,∀call,C call-> ∀m,m0<=m->i9 P (u7 P) call nt none m c tm hp []=none
theorem XF.seq1 {a b:Code}(h:XF P C nt a tm hp):XF P C nt (.seq a b) tm hp:=by
 obtain⟨m0,h⟩:=h;refine⟨m0+1,fun call hc m hm=>?_⟩
 obtain⟨j,rfl⟩:∃j,m=j+1:=⟨m-1,by omega⟩
 simp only[i9,h call hc j (by omega)]
theorem XF.seq2 {a b:Code}(h:XN P C nt a tm hp fun tm1 hp1=>XF P C nt b tm1 hp1):XF P C nt (.seq a b) tm hp:=by
 obtain⟨tm1,hp1,⟨m1,k1⟩,m2,k2⟩:=h;refine⟨max m1 m2+1,fun call hc m hm=>?_⟩
 obtain⟨j,rfl⟩:∃j,m=j+1:=⟨m-1,by omega⟩
 simp only[i9,k1 call hc j (by omega),k2 call hc j (by omega)]
def XOF (P:Program)(C:d8->Prop)(nt:Nat)(all l:List Oper)(tm:T Value)(hp:Hp):Prop:=∀call,C call->aF4 P call nt all l tm hp=none/\ai5 P call nt all l tm hp []=none
theorem XOF.cons {all rest:List Oper}{o:Oper}{v:Value}(h1:A4 nt o.dst=true)(h2:o.guard=none)(h3:aM0 o.op=none)(h:∀call,C call->xop P call tm hp o.op=some (v,hp1))(k:XOF P C nt all rest (y8 tm o.dst v) hp1):XOF P C nt all (o::rest) tm hp:=by
 intro call hc
 constructor
 ·rw[Q2,h1,bJ6,h call hc]
  simp only[n8,h2,bJ6];exact(k call hc).1
 ·simp only[ai5,h1,bJ6,n8,h2,h3,h call hc]
  exact(k call hc).2
theorem XOF.mv {all rest:List Oper}{o:Oper}{t:Tmp}(h1:A4 nt o.dst=true)(h2:o.guard=none)(h:o.op= .move (.tmp t)){v:Value}(hv:tm.get t=some v)(k:XOF P C nt all rest (y8 tm o.dst v) hp):XOF P C nt all (o::rest) tm hp:=
 .cons h1 h2 (by rw[h];rfl) (fun _ _=>by rw[h];simp only[c6,k9,a9,f7,hv,bM1]) k
theorem XOF.bad {all rest:List Oper}{o:Oper}(h1:A4 nt o.dst=true)(h2:o.guard=none)(h3:aM0 o.op=none)(h:∀call,C call->xop P call tm hp o.op=none):XOF P C nt all (o::rest) tm hp:=by
 intro call hc
 constructor
 ·rw[Q2,h1,bJ6,h call hc]
  simp only[n8,h2,bJ6]
 ·simp only[ai5,h1,bJ6,n8,h2,h3,h call hc]
theorem XF.region {id:Nat}{ops:Array Oper}(h:XOF P C nt ops.toList ops.toList tm hp):XF P C nt (.region id ops false) tm hp:=
 ⟨1,fun call hc m hm=>by obtain⟨k,rfl⟩:∃k,m=k+1:=⟨m-1,by omega⟩;simp only[i9,bJ7,(h call hc).1,bk2,(h call hc).2]⟩
theorem be5 {f : FuncId} {fn : Func} {c : Code} {args : List Value} (h1 : P.funcs[f]? = some fn) (h2 : fn.body = some c) (h : XF P C (args.length + (fn.ntmps - args.length)) c (fill .e 0 args) hp) :
  ∃m0,∀call,C call-> ∀m,m0<=m-> ∀runD,W8 P (u7 P) call runD m f args hp=none:=by
 obtain⟨m0,k1⟩:=h;refine⟨m0,fun call hc m hm runD=>?_⟩
 unfold W8
 grind
theorem bC1 (t:TypeId){m M:Nat}(hM:M<18446744073709551616)(h:M<m):f7 hp (G7 P .gtr t (.int .i64 m) (.complex .f64 M 0))=none:=by
 have e1:K9 (.int .i64 (m:Nat))=some (.i64,m,m+1):=rfl;have e2:K9 (.complex .f64 M 0)=some (.i64,M,0):=by
  simp only[K9,Q5,aS1];rw[show Y7 M=M by unfold Y7;exact bS3 hM]
 have e3:Z9 P .gtr t (.int .i64 m) (.complex .f64 M 0)=none:=rfl;have e4:T8 (M,0) (m,m+1)=none:=by
  unfold T8;rw[t7 rfl,Bool.not_true,Bool.false_and,bJ7,u9 (Nat.succ_ne_zero m),V9 (show M+1<m+1 by omega)]
  rfl
 have e5:irem .gtr (.int .i64 m) (.complex .f64 M 0)=none:=rfl;simp only[G7,e3,aX4,e1,e2,bN6,bJ6,bt2,e4,Option.map_none,e5,f7]
theorem bq4 (D : ah6 P g ρ e ie zv) {i o n lo at_ : Nat} {vv : Value} {j q cm : Nat} (hvv : vv = .slice (some ⟨j, q, none⟩) 1 cm) (hlo : Nat.ble (Nat.max lo n) 67108864 = true) (hroom : Nat.max lo n < n + 1) (hat : at_ < n) {c : T Value} {k : Nat} (hg : hp.m.get i = some (.cells c k e ie.size)) :
  XF P C 95 ((Go.Proofs.Body2.n21 ρ).body.getD .skip) (fill .e 0 [.slice (some ⟨i,o,none⟩) n (c7 lo 0),.int .i64 at_,vv]) hp:=by
 subst hvv;have hMb:Nat.max lo n<=67108864:=bI3 hlo;have hmx:n<=Nat.max lo n:=bO9 lo n;generalize hM:Nat.max lo n=M at*;have s1:=K6 (hp:=hp) D.t22 D.ty (i:=i) (o:=o) (n:=n) (lo:=lo) (l:=at_) (h:=n) (by rw[hM];exact hlo) (by rw[hM];omega) (Nat.le_of_lt hat) (by rw[hM];omega) hg (some (.int .i64 at_)) none (.inl rfl) (.inr ⟨rfl,rfl⟩)
 simp only[Go.Proofs.Body2.n21,bM1,fill];refine .seq2 (.region (.cons rfl rfl (fun _ _=>rfl) (.nil ?_)))
 refine .seq2 (.region (.mv rfl rfl rfl rfl (.mv rfl rfl rfl rfl (.cons (hp1:=hp) rfl rfl (fun _ _=>s1) (.nil ?_)))))
 refine .seq2 (.region (.mv rfl rfl rfl rfl (.cons (v:= .int .i64 ((1:Nat):Int)) (hp1:=hp) rfl rfl (fun _ _=>E3 D.t22 _ _ _) (.asg rfl rfl rfl rfl (.nil ?_)))))
 refine .seq2 (.seq (.region (.mv rfl rfl rfl rfl (.cons (v:= .bool false) (hp1:=hp) rfl rfl (fun _ _=>Y3 (P:=P) (ρ.t 3) (a:=1) (b:=0) (by omega)) (.nil (.condF rfl (.skip ?_)))))))
 refine .seq2 (.region (.mv rfl rfl rfl rfl (.cons (v:= .int .i64 n) (hp1:=hp) rfl rfl (fun _ _=>E3 D.t22 _ _ _) (.asg rfl rfl rfl rfl (.nil ?_)))))
 refine .seq2 (.seq (.region (.mv rfl rfl rfl rfl (.mv rfl rfl rfl rfl (.cons (v:= .bool false) (hp1:=hp) rfl rfl (fun _ _=>Y3 (P:=P) (ρ.t 3) (a:=at_) (b:=n) (by omega)) (.nil (.condF rfl (.skip ?_))))))))
 refine .seq1 (.seq1 (.region (.mv rfl rfl rfl rfl (.mv rfl rfl rfl rfl (.cons (v:= .int .i64 ((n+1:Nat):Int)) (hp1:=hp) rfl rfl rfl (fun _ _=>T5 (P:=P) (ρ.t 3) (a:=n) (b:=1) (by omega)) (.mv rfl rfl rfl rfl (.cons (v:= .complex .f64 M 0) (hp1:=hp) rfl rfl rfl (fun _ _=>by rw[<-hM];exact aE2 D.t22 _ D7) (.bad rfl rfl rfl (fun _ _=>bC1 (P:=P) (ρ.t 3) (m:=n+1) (M:=M) (by omega) hroom)))))))))
structure bk6 (hp:Hp)(i:Nat)(J:Nat->Prop)(e size n:Nat)(V:List Value)(v:Value)(hp':Hp):Prop where
 ex:∃b q lo ct k,v= .slice (some ⟨b,q,none⟩) n (c7 lo 0)/\lo<=67108864/\(b=i\/hp.nx<=b)/\b<hp'.nx/\hp'.m.get b=some (.cells ct k e size)/\q+n*size<=k/\n9 ct q (n*size)=some V
 nx:hp.nx<=hp'.nx
 old:∀x,x<hp.nx->x≠i-> ¬J x->hp'.m.get x=hp.m.get x
theorem aX2 {t : TypeId} (ht : P.underlying t = some (.slice e)) (hi : P.info? e = some ie) (hz : ie.zero = some zv) (hzl : zv.cells.toList.length = ie.size) (hby : ie.bytes ≤ 1048576) {i o n lo : Nat} {x : Value} {olds news : List Value} (hlo : Nat.ble lo 67108864 = true) (hn : n + 1 ≤ 67108864)
  (hx:v7 hp ie.size x=some (1,news)) (hin:i<hp.nx) {c:T Value} {k:Nat} (hg:hp.m.get i=some (.cells c k e ie.size)) (hk:o+n*ie.size<=k) (hl:n9 c o (n*ie.size)=some olds) (hone:news.all Value.oneCell'=true) (hlen:news.length=ie.size):
  ∃v hp1,B3 P hp t t (.slice (some ⟨i,o,none⟩) n (c7 lo 0)) x=some (v,hp1)/\bk6 hp i (fun _=>False) e ie.size (n+1) (olds++news) v hp1:=by
 obtain⟨N1,hN1⟩:∃N1,N1=n+1:=⟨_,rfl⟩;rw[<-hN1]at hn⊢;have hn':Nat.ble N1 67108864=true:=bI6 hn;have hol:=(j9 hl).1;have hm2:N1*ie.size=n*ie.size+ie.size:=by grind
 have h1:(Nat.beq zv.cells.toList.length ie.size&&Nat.ble ie.bytes 1048576)=true:=by simp_all
 have hk2:Nat.ble (o+n*ie.size) k=true:=bI6 hk;have hll:(olds++news).length=N1*ie.size:=by grind
 cases hle:Nat.ble N1 lo with
 |true=>
  refine⟨.slice (some ⟨i,o,none⟩) N1 (c7 lo 0),{hp with m:=hp.m.set i (some (.cells (fill c (o+n*ie.size) news) (Nat.max k (o+N1*ie.size)) e ie.size))},?_,⟨i,o,lo,fill c (o+n*ie.size) news,Nat.max k (o+N1*ie.size),rfl,bI3 hlo,.inl rfl,hin,by simp only[T.get_set,bK1],bO9 _ _,?_⟩,bK2 _,fun x _ hx _=>by simp only[T.get_set,bJ9 hx]⟩
  ·unfold B3
   simp only[ht,hi,hz];rw[h1,bJ6,hx];simp only[hg];rw[<-hN1,hn'];simp only[hone,Bool.and_self,bJ6,u9 (Nat.one_ne_zero),bJ7,bI6 (p7 lo 0),M9,P8,hk2,t7,hle,H8];rw[show Nat.ble 1 0=false from rfl,Bool.false_and,bJ7]
  ·rw[<-hll]
   exact C7 (fun y hy=>by
    rw[l6]
    by_cases c1:y<n*ie.size
    ·rw[bJ9 (by omega),bI8 (by omega)]
     exact((j9 hl).2 y c1).symm
    ·rw[bK1 (by omega),bI7 (by omega),hol]
     congr 1;omega)
 |false=>
  have hcg:∀y,y<N1*ie.size->(bif Nat.beq o 0 then fill c (n*ie.size) news else fill (fill .e 0 olds) (n*ie.size) news).get y=(olds++news)[y]? :=by
   intro y hy;cases ho:Nat.beq o 0 with
   |true=>
    have ho:=bI4 ho;subst ho;rw[bJ6,l6]
    by_cases c1:y<n*ie.size
    ·rw[bJ9 (by omega),bI8 (by omega)]
     have:=(j9 hl).2 y c1
     grind
    ·grind
   |false=>
    rw[bJ7,l6]
    by_cases c1:y<n*ie.size
    ·rw[bJ9 (by omega),bI8 (by omega),B6 olds y (by omega)]
    ·grind
  refine⟨.slice (some ⟨hp.nx,0,none⟩) N1 (c7 N1 0),⟨(hp.m.set i none).set hp.nx (some (.cells (bif Nat.beq o 0 then fill c (n*ie.size) news else fill (fill .e 0 olds) (n*ie.size) news) (N1*ie.size) e ie.size)),hp.nx+1⟩,?_,
   ⟨hp.nx,0,N1,_,N1*ie.size,rfl,hn,.inr (bK2 _),bO0 _,by simp only[T.get_set,bK1];rfl,by omega,?_⟩,bP4 _,fun x hx hxi _=>by simp only[T.get_set,bJ9 hxi,bJ9 (show x≠hp.nx by omega)]⟩
  ·unfold B3
   simp only[ht,hi,hz];rw[h1,bJ6,hx];simp only[hg];rw[<-hN1,hn'];simp only[hone,Bool.and_self,bJ6,u9 (Nat.one_ne_zero),bJ7,bI6 (p7 lo 0),M9,P8,hk2,t7,hle,hl,T.force_eq];rw[show Nat.ble 1 0=false from rfl,Bool.false_and,bJ7]
  ·rw[<-hll]
   exact C7 (fun y hy=>by rw[bL1];exact hcg y (by omega))
theorem bk6.weak {i:Nat}{J:Nat->Prop}{e size n:Nat}{V:List Value}{v:Value}{hp':Hp}(h:bk6 hp i (fun _=>False) e size n V v hp'):bk6 hp i J e size n V v hp':=
 ⟨h.ex,h.nx,fun x h1 h2 _=>h.old x h1 h2 (fun h=>h)⟩
def aH1 (P:Program)(C:d8->Prop)(g:FuncId)(args:List Value)(hp:Hp)(v:Value)(hp':Hp):Prop:=∃m0,∀call,C call-> ∀m,m0<=m-> ∀runD,av9 (W8 P (u7 P) call runD m g) args hp=some (v,hp')
theorem aH1.of {args:List Value}{v:Value}{hp':Hp}(h:∃m0,∀call,C call-> ∀m,m0<=m-> ∀runD,W8 P (u7 P) call runD m g args hp=some (v,hp')):aH1 P C g args hp v hp':=by
 obtain⟨m0,h⟩:=h;exact⟨m0,fun call hc m hm runD=>by unfold av9;rw[h call hc m hm runD]⟩
set_option maxRecDepth 2000 in
theorem bq2 (D : ah6 P g ρ e ie zv) {i o n lo at_ j q cm : Nat} (hlo : Nat.max lo n ≤ 67108864) (hn1 : n + 1 ≤ 67108864) (hat : at_ ≤ n) (hij : j ≠ i) (hi : i < hp.nx) (hj : j < hp.nx) {c cj : T Value} {k kj ej zj : Nat} (hg : hp.m.get i = some (.cells c k e ie.size)) (hgj : hp.m.get j = some (.cells cj kj ej zj))
  (hk:o+n*ie.size<=k) {olds news:List Value} (hl:n9 c o (n*ie.size)=some olds) (hn:v7 hp ie.size (.slice (some ⟨j,q,none⟩) 1 cm)=some (1,news)) (hnl:news.length=ie.size) (hone:olds.all Value.oneCell'=true) (hone':news.all Value.oneCell'=true):
  ∃v hp',aH1 P (COv ρ) g [.slice (some ⟨i,o,none⟩) n (c7 lo 0),.int .i64 at_,.slice (some ⟨j,q,none⟩) 1 cm] hp v hp'/\bk6 hp i (fun x=>x=j) e ie.size (n+1) (olds.take (at_*ie.size)++news++olds.drop (at_*ie.size)) v hp':=by
 obtain⟨fn,f1,f2,f3,f4⟩:=D.fn;obtain⟨cd,f5⟩:∃cd,fn.body=some cd/\(Go.Proofs.Body2.n21 ρ).body.getD .skip=cd:=⟨_,f2.trans (by rfl),rfl⟩
 have hlen:=(j9 hl).1;have hlo':Nat.ble (Nat.max lo n) 67108864=true:=bI6 hlo;have hn1':Nat.ble (n+1) 67108864=true:=bI6 hn1;have hmx:n<=Nat.max lo n:=bO9 lo n
 rcases Nat.lt_or_ge at_ n with hlt|hge
 ·by_cases hroom:n+1<=Nat.max lo n
  ·
   have h:=aL2 D hlo' hroom hlt hij hg hgj hk hl hn hnl hone hone';rw[f5.2]at h;obtain⟨v,hp',⟨tm1,rfl,q1,q2,q3,ct,k',q4,q5,q6⟩,hrun⟩:=W9 (args:=[.slice (some ⟨i,o,none⟩) n (c7 lo 0),.int .i64 at_,.slice (some ⟨j,q,none⟩) 1 cm]) f1 f5.1 f4 (by rw[f3];exact h)
   refine⟨_,_,.of hrun,⟨i,o,Nat.max lo n,ct,k',by rw[q1];rfl,hlo,.inl rfl,by omega,q4,q5,q6⟩,q2,fun x _ hx _=>q3 x hx⟩
  ·
   have hroom':Nat.max lo n<n+1:=Nat.lt_of_not_le hroom;have hfail:=bq4 (C:=COv ρ) D (at_:=at_) (vv:= .slice (some ⟨j,q,none⟩) 1 cm) rfl hlo' hroom' hlt (o:=o) hg;rw[f5.2]at hfail;obtain⟨m1,hfail⟩:=be5 (C:=COv ρ) (args:=[.slice (some ⟨i,o,none⟩) n (c7 lo 0),.int .i64 at_,.slice (some ⟨j,q,none⟩) 1 cm]) f1 f5.1 (by rw[f3];exact hfail)
   have gi:((T.set .e i (some (.cells c k e ie.size))).set j (some (.cells cj kj ej zj)):T Blk).get i=some (.cells c k e ie.size):=by rw[T.get_set,bJ9 (Ne.symm hij),T.get_set,bK1 rfl]
   have gj:((T.set .e i (some (.cells c k e ie.size))).set j (some (.cells cj kj ej zj)):T Blk).get j=some (.cells cj kj ej zj):=by rw[T.get_set,bK1 rfl]
   generalize hS:(⟨(T.set .e i (some (.cells c k e ie.size))).set j (some (.cells cj kj ej zj)),hp.nx⟩:Hp)=S at*;have gi:S.m.get i=some (.cells c k e ie.size):=by grind
   have gj:S.m.get j=some (.cells cj kj ej zj):=by grind
   have hSn:S.nx=hp.nx:=by grind
   have hnS:v7 S ie.size (.slice (some ⟨j,q,none⟩) 1 cm)=some (1,news):=by rw[aa5 (gj.trans hgj.symm)];exact hn
   have hA0:Nat.max (n+1) n=n+1:=bR9 (bP4 n);have hA:=aL2 (hp:=S) D (lo:=n+1) (by rw[hA0];exact hn1') (by rw[hA0];exact bK2 _) hlt hij gi gj hk hl hnS hnl hone hone'
   have hB:=bq3 (hp:=S) (C:=COv ρ) D hn1' hlt (by rw[hSn];exact hi) (by rw[hSn];exact hj) gi hk hl hnS hnl hone hone'
   rw[f5.2]at hA hB;obtain⟨vA,hpA,⟨tmA,rfl,a1,a2,a3,cA,kA,a4,a5,a6⟩,mA,hrA⟩:=W9 (args:=[.slice (some ⟨i,o,none⟩) n (c7 (n+1) 0),.int .i64 at_,.slice (some ⟨j,q,none⟩) 1 cm]) f1 f5.1 f4 (by rw[f3];exact hA)
   obtain⟨vB,hpB,⟨tmB,rfl,b1,b2,b3,cB,kB,b4,b5,b6⟩,mB,hrB⟩:=W9 (args:=[.slice (some ⟨i,o,none⟩) n (c7 n (n+1)),.int .i64 at_,.slice (some ⟨j,q,none⟩) 1 cm]) f1 f5.1 f4 (by rw[f3];exact hB)
   rw[a1,bM1]at hrA;rw[b1,bM1]at hrB;generalize hV:olds.take (at_*ie.size)++news++olds.drop (at_*ie.size)=V at*;have hVl:V.length=(n+1)*ie.size:=(j9 a6).1;refine⟨.slice (some ⟨Nat.max hpA.nx hpB.nx,0,none⟩) (n+1) (c7 (n+1) 0),⟨((hp.m.set i none).set j none).set (Nat.max hpA.nx hpB.nx) (some (.cells (fill .e 0 V) ((n+1)*ie.size) e ie.size)),Nat.max hpA.nx hpB.nx+1⟩,⟨max m1 (max mA mB),fun call hc m hm runD=>?_⟩,?_⟩
   ·unfold av9
    rw[hfail call hc m (by omega) runD]
    simp only;have e0:(Nat.ble unk (c7 lo 0)&&Nat.beq (C3 (c7 lo 0)) 0&& !(Nat.beq i j)&&Nat.ble (n+1) 67108864)=true:=by
     rw[bI6 (p7 lo 0),M9,t7 rfl,u9 (Ne.symm hij),hn1'];rfl
    have e1:(Nat.beq (n+1) (n+1)&&Nat.ble unk (c7 (n+1) 0)&&Nat.ble unk (c7 (n+1) 0))=true:=by
     rw[bI6 (p7 (n+1) 0),t7 rfl];rfl
    have e2:(Nat.ble (o+(n+1)*ie.size) kA&&Nat.ble (0+(n+1)*ie.size) kB&&Nat.beq e e&&Nat.beq ie.size ie.size)=true:=by simp_all
    unfold aQ4;simp only;rw[e0,bJ6,hg,hgj];simp only;rw[hS,hrA call hc m (by omega) runD,hrB call hc m (by omega) runD,hA0]
    simp only;rw[e1,bJ6,a4,b4];simp only;rw[e2,bJ6,a6,b6];simp only;rw[bk8,Bool.or_true,bJ6]
   ·have hmA:hpA.nx<=Nat.max hpA.nx hpB.nx:=Nat.le_max_left _ _
    have hmB:hpB.nx<=Nat.max hpA.nx hpB.nx:=bO9 _ _;have hx:hp.nx<=Nat.max hpA.nx hpB.nx:=by rw[<-hSn];exact bN7 a2 hmA
    refine⟨⟨Nat.max hpA.nx hpB.nx,0,n+1,fill .e 0 V,(n+1)*ie.size,rfl,hn1,.inr hx,bO0 _,by simp only[T.get_set,bK1],Nat.le_of_eq (bL1 _),?_⟩,bN7 hx (bP4 _),fun x hx1 hx2 hx3=>?_⟩
    ·rw[<-hVl]
     exact C7 (fun y hy=>by rw[bL1];exact B6 V y hy)
    ·show(T.set _ _ _:T Blk).get x=_
     rw[T.get_set,bJ9 (by omega),T.get_set,bJ9 hx3,T.get_set,bJ9 hx2]
 ·
  have hat':at_=n:=Nat.le_antisymm hat hge;subst hat';obtain⟨v0,h1,_,_⟩:=aw2 (hp:=hp) D.t22 D.ty hlo' (bK2 at_) hg hk hl;obtain⟨r,hp1,h2,h3⟩:=aX2 D.t22 D.ty D.zero D.zl D.by_ (bI6 (bN7 (Nat.le_max_left lo at_) hlo)) hn1 hn hi hg hk hl hone' hnl;have h:=aY2 (C:=COv ρ) D (h1 hp.nx) h2;rw[f5.2]at h;obtain⟨v,hp',⟨tm1,rfl,q1,rfl⟩,hrun⟩:=W9 (args:=[.slice (some ⟨i,o,none⟩) at_ (c7 lo 0),.int .i64 at_,.slice (some ⟨j,q,none⟩) 1 cm]) f1 f5.1 f4 (by rw[f3];exact h)
  rw[q1,bM1]at hrun;refine⟨r,_,.of hrun,?_⟩;rw[bM8 (Nat.le_of_eq hlen),List.drop_eq_nil_of_le (Nat.le_of_eq hlen),bQ9];exact h3.weak
theorem bB0 (D : ah6 P g ρ e ie zv) {j q cm : Nat} {news : List Value} (hn : v7 hp ie.size (.slice (some ⟨j, q, none⟩) 1 cm) = some (1, news)) :
  ∃v hp',aH1 P C g [.slice none 0 0,.int .i64 ((0:Nat):Int),.slice (some ⟨j,q,none⟩) 1 cm] hp v hp'/\v= .slice (some ⟨hp.nx,0,none⟩) 1 (c7 1 0)/\hp'=hp.new news e ie.size:=by
 obtain⟨fn,f1,f2,f3,f4⟩:=D.fn;obtain⟨cd,f5⟩:∃cd,fn.body=some cd/\(Go.Proofs.Body2.n21 ρ).body.getD .skip=cd:=⟨_,f2.trans (by rfl),rfl⟩
 have h1:q9 P hp (ρ.t 22) (.slice none 0 0) (some (.int .i64 ((0:Nat):Int))) none none=some (.slice none 0 0,hp):=by
  have hb:v9 0 0 (some (.int .i64 ((0:Nat):Int))) none none=some (0,0,none):=by simp only[v9,G8 (bK2 0)]
  unfold q9;simp only[D.t22,D.ty];rw[t7 rfl,hb];rfl
 have h2:B3 P hp (ρ.t 22) (ρ.t 22) (.slice none 0 0) (.slice (some ⟨j,q,none⟩) 1 cm)=some (.slice (some ⟨hp.nx,0,none⟩) 1 (c7 1 0),hp.new news e ie.size):=by
  have e1:(Nat.beq zv.cells.toList.length ie.size&&Nat.ble ie.bytes 1048576)=true:=by rw[D.zl,t7 rfl,bI6 D.by_];rfl
  have e2:(Nat.beq 0 0&&Nat.beq 0 0&&Nat.ble 1 67108864)=true:=by rw[t7 rfl,bI6 (by omega)];rfl
  unfold B3;simp only[D.t22,D.ty,D.zero];rw[e1,bJ6,hn];simp only;rw[e2,bJ6,u9 Nat.one_ne_zero,bJ7]
 have h:=aY2 (C:=C) D h1 h2;rw[f5.2]at h;obtain⟨v,hp',⟨tm1,rfl,q1,rfl⟩,hrun⟩:=W9 (args:=[.slice none 0 0,.int .i64 ((0:Nat):Int),.slice (some ⟨j,q,none⟩) 1 cm]) f1 f5.1 f4 (by rw[f3];exact h)
 rw[q1,bM1]at hrun;exact⟨_,_,.of hrun,rfl,rfl⟩
theorem bq0 (D : bf8 P g ρ e ie zv) {i o n lo a b : Nat} (hlo : Nat.max lo n ≤ 67108864) (hab : a < b) (hbn : b ≤ n) (hi : i < hp.nx) {c : T Value} {k : Nat} (hg : hp.m.get i = some (.cells c k e ie.size)) (hk : o + n * ie.size ≤ k)
  {olds:List Value} (hl:n9 c o (n*ie.size)=some olds) (hone:olds.all Value.oneCell'=true):
  ∃v hp',aH1 P C g [.slice (some ⟨i,o,none⟩) n (c7 lo 0),.int .i64 a,.int .i64 b] hp v hp'/\bk6 hp i (fun _=>False) e ie.size (a+(n-b)) (olds.take (a*ie.size)++olds.drop (b*ie.size)) v hp':=by
 obtain⟨fn,f1,f2,f3,f4⟩:=D.fn;obtain⟨cd,f5⟩:∃cd,fn.body=some cd/\(Go.Proofs.Body2.n23 ρ).body.getD .skip=cd:=⟨_,f2.trans (by rfl),rfl⟩
 have h:=bA4 (C:=C) D (bI6 hlo) hab hbn hg hk hl hone;rw[f5.2]at h;obtain⟨v,hp',⟨tm1,rfl,q1,q2,q3,ct,q4,q5⟩,hrun⟩:=W9 (args:=[.slice (some ⟨i,o,none⟩) n (c7 lo 0),.int .i64 a,.int .i64 b]) f1 f5.1 f4 (by rw[f3];exact h)
 refine⟨_,_,.of hrun,⟨i,o,Nat.max lo n,ct,k,by rw[q1];rfl,hlo,.inl rfl,by omega,q4,?_,q5⟩,q2,fun x _ hx _=>q3 x hx⟩
 have:(a+(n-b))*ie.size<=n*ie.size:=bJ2 _ (by omega)
 omega
end
end Go.Xe
end PartXm422
