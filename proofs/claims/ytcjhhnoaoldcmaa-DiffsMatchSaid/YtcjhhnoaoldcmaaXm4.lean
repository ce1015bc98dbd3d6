/- The executor: Delete and Insert, parts 22.
  Conditions: none. -/
import Derived.Test.YtcjhhnoaoldcmaaSm3
import Derived.Shelf.Bodies2
import Derived.KernelRfl
set_option linter.unusedSimpArgs false
set_option linter.unusedVariables false
noncomputable section PartXm422
namespace Go.Xe
open Go.RowKit
structure be7 (P:Program)(g:FuncId)(ρ:Go.Shelf.Ren)(e:TypeId)(ie:TypeInfo)(zv:Value):Prop where
 fn:∃fn,P.funcs[g]? =some fn/\fn.body=(Go.Proofs.Body2.n23 ρ).body/\fn.ntmps=33/\fn.results= #[.tmp 6]
 t22:P.underlying (ρ.t 22)=some (.slice e)
 ty:P.info? e=some ie
 zero:ie.zero=some zv
 cst:cst zv=true
 zl:zv.cells.toList.length=ie.size
 one:zv.cells.toList.all Value.oneCell'=true
 by_:ie.bytes<=1048576
section
variable {P :Program}{g:FuncId}{ρ:Go.Shelf.Ren}{e:TypeId}{ie:TypeInfo}{zv:Value}{call:f9}{runD:FuncId->List Value->Hp->Option (Value×Hp)}{hp:Hp}
theorem P2 (lo:Nat):I4 (d8 lo 0)=lo:=F6 C9
theorem M2 (lo:Nat):B5 (d8 lo 0)=0:=E2 C9
theorem V2 {a b:Nat}(h:b<a):Nat.ble a b=false:=by
 cases e:Nat.ble a b with
 |false=>rfl
 |true=>have:=bF8 e;omega
theorem G0 {v m:Nat}(h:v<=m):E0 (.int .i64 v) m=some v:=by
 simp only[E0];rw[show(decide ((0:Int)<=(v:Int))&&decide ((v:Int)<=(m:Int)))=true by simp only[bF5,bH5];omega]
 rfl
theorem aq6 {t : TypeId} (ht : P.underlying t = some (.slice e)) (hi : P.info? e = some ie) {i o n lo up l h : Nat} (hup : up < unk) (hlo : Nat.ble (Nat.max lo n) 67108864 = true) (hh : h ≤ Nat.max lo n) (hl : l ≤ h) (hlt : l < Nat.max lo n) {c : T Value} {k e' : Nat} (hg : hp.m.get i = some (.cells c k e' ie.size)) (vl vh : Option Value)
  (hvl:vl=some (.int .i64 l)\/(vl=none/\l=0)) (hvh:vh=some (.int .i64 h)\/(vh=none/\h=n)):
  p8 P hp t (.slice (some ⟨i,o,none⟩) n (d8 lo up)) vl vh none=some (.slice (some ⟨i,o+l*ie.size,none⟩) (h-l) (d8 (Nat.max lo n-l) (up-l)),hp):=by
 have hb:v7 n (Nat.max lo n) vl vh none=some (l,h,none):=by
  rcases hvh with rfl| ⟨rfl,rfl⟩<;>rcases hvl with rfl| ⟨rfl,rfl⟩<;>simp only[v7,Option.getD_none,G0 hh,G0 hl]
 unfold p8;simp only[ht,hi,F6 hup,E2 hup,bG1 (n9 lo up),bH1];rw[hlo,bH1,hb];simp only
 by_cases h0:l=0
 ·subst h0
  rw[j9 rfl,bH1,bO3,bM0,bN6,bN6,bN6]
 ·rw[u6 h0,bH2,u6 (by omega),bH2,hg]
  simp only[j9,bH1]
theorem K0 {t : TypeId} (ht : P.underlying t = some (.slice e)) (hi : P.info? e = some ie) {i o n lo l h : Nat} (hlo : Nat.ble (Nat.max lo n) 67108864 = true) (hh : h ≤ Nat.max lo n) (hl : l ≤ h) (hlt : l < Nat.max lo n) {c : T Value} {k e' : Nat} (hg : hp.m.get i = some (.cells c k e' ie.size)) (vl vh : Option Value)
  (hvl:vl=some (.int .i64 l)\/(vl=none/\l=0)) (hvh:vh=some (.int .i64 h)\/(vh=none/\h=n)):
  p8 P hp t (.slice (some ⟨i,o,none⟩) n (d8 lo 0)) vl vh none=some (.slice (some ⟨i,o+l*ie.size,none⟩) (h-l) (d8 (Nat.max lo n-l) 0),hp):=by
 have:=aq6 (hp:=hp) ht hi (o:=o) C9 hlo hh hl hlt hg vl vh hvl hvh
 rwa[Nat.zero_sub]at this
def XS (P:Program)(C:f9->Prop)(nt:Nat)(c:Code)(tm:T Value)(hp:Hp)(r:XR):Prop:=∃m0,∀call,C call-> ∀m,m0<=m->i6 P (t8 P) call nt none m c tm hp []=some r
variable {C :f9->Prop}{nt:Nat}{tm tm1:T Value}{hp1:Hp}{r:XR}
theorem XS.ret :XS P C nt .ret tm hp (.mk .ret tm hp []):=⟨1,fun _ _ m hm=>by obtain⟨k,rfl⟩:∃k,m=k+1:=⟨m-1,by omega⟩;rfl⟩
theorem XS.skip :XS P C nt .skip tm hp (.mk .normal tm hp []):=⟨1,fun _ _ m hm=>by obtain⟨k,rfl⟩:∃k,m=k+1:=⟨m-1,by omega⟩;rfl⟩
theorem XS.region {id:Nat}{ops:Array Oper}(h:∀call,C call->aD1 P call nt ops.toList ops.toList tm hp=some (tm1,hp1)):XS P C nt (.region id ops false) tm hp (.mk .normal tm1 hp1 []):=
 ⟨1,fun call hc m hm=>by obtain⟨k,rfl⟩:∃k,m=k+1:=⟨m-1,by omega⟩;simp only[i6,bH2,h call hc]⟩
theorem XS.draw {id:Nat}{ops:Array Oper}(h:∀call,C call->t8 P call nt ops.toList tm hp=some (tm1,hp1)):XS P C nt (.region id ops true) tm hp (.mk .normal tm1 hp1 []):=
 ⟨1,fun call hc m hm=>by obtain⟨k,rfl⟩:∃k,m=k+1:=⟨m-1,by omega⟩;simp only[i6,bH1,h call hc]⟩
theorem XS.seq {a b:Code}(h:XS P C nt a tm hp (.mk .normal tm1 hp1 []))(k:XS P C nt b tm1 hp1 r):XS P C nt (.seq a b) tm hp r:=by
 obtain⟨m1,h⟩:=h;obtain⟨m2,k⟩:=k;refine⟨max m1 m2+1,fun call hc m hm=>?_⟩
 obtain⟨j,rfl⟩:∃j,m=j+1:=⟨m-1,by omega⟩
 simp only[i6,h call hc j (by omega),k call hc j (by omega)]
theorem XS.seqR {a b:Code}(h:XS P C nt a tm hp (.mk .ret tm1 hp1 [])):XS P C nt (.seq a b) tm hp (.mk .ret tm1 hp1 []):=by
 obtain⟨m1,h⟩:=h;refine⟨m1+1,fun call hc m hm=>?_⟩
 obtain⟨j,rfl⟩:∃j,m=j+1:=⟨m-1,by omega⟩
 simp only[i6,h call hc j (by omega)]
theorem XS.condT {c:Operand}{a b:Code}(hc:d6 tm c=some (.bool true))(h:XS P C nt a tm hp r):XS P C nt (.cond c a b) tm hp r:=by
 obtain⟨m1,h⟩:=h;refine⟨m1+1,fun call hca m hm=>?_⟩
 obtain⟨j,rfl⟩:∃j,m=j+1:=⟨m-1,by omega⟩
 simp only[i6,hc,h call hca j (by omega)]
theorem XS.condF {c:Operand}{a b:Code}(hc:d6 tm c=some (.bool false))(h:XS P C nt b tm hp r):XS P C nt (.cond c a b) tm hp r:=by
 obtain⟨m1,h⟩:=h;refine⟨m1+1,fun call hca m hm=>?_⟩
 obtain⟨j,rfl⟩:∃j,m=j+1:=⟨m-1,by omega⟩
 simp only[i6,hc,h call hca j (by omega)]
def XN (P:Program)(C:f9->Prop)(nt:Nat)(c:Code)(tm:T Value)(hp:Hp)(Q:T Value->Hp->Prop):Prop:=∃tm1 hp1,XS P C nt c tm hp (.mk .normal tm1 hp1 [])/\Q tm1 hp1
def XT (P:Program)(C:f9->Prop)(nt:Nat)(c:Code)(tm:T Value)(hp:Hp)(Q:T Value->Hp->Prop):Prop:=∃tm1 hp1,XS P C nt c tm hp (.mk .ret tm1 hp1 [])/\Q tm1 hp1
def XO (P:Program)(C:f9->Prop)(nt:Nat)(all l:List Oper)(tm:T Value)(hp:Hp)(Q:T Value->Hp->Prop):Prop:=∃tm1 hp1,(∀call,C call->aD1 P call nt all l tm hp=some (tm1,hp1))/\Q tm1 hp1
variable {Q :T Value->Hp->Prop}
theorem XT.ret (h:Q tm hp):XT P C nt .ret tm hp Q:=⟨_,_,XS.ret,h⟩
theorem XN.skip (h:Q tm hp):XN P C nt .skip tm hp Q:=⟨_,_,XS.skip,h⟩
theorem XN.seq {a b:Code}(h:XN P C nt a tm hp fun tm1 hp1=>XN P C nt b tm1 hp1 Q):XN P C nt (.seq a b) tm hp Q:=by
 obtain⟨t1,h1,k1,t2,h2,k2,k3⟩:=h;exact⟨t2,h2,k1.seq k2,k3⟩
theorem XT.seq {a b:Code}(h:XN P C nt a tm hp fun tm1 hp1=>XT P C nt b tm1 hp1 Q):XT P C nt (.seq a b) tm hp Q:=by
 obtain⟨t1,h1,k1,t2,h2,k2,k3⟩:=h;exact⟨t2,h2,k1.seq k2,k3⟩
theorem XT.seqR {a b:Code}(h:XT P C nt a tm hp Q):XT P C nt (.seq a b) tm hp Q:=by
 obtain⟨t1,h1,k1,k2⟩:=h;exact⟨t1,h1,k1.seqR,k2⟩
theorem XN.condF {c:Operand}{a b:Code}(hc:d6 tm c=some (.bool false))(h:XN P C nt b tm hp Q):XN P C nt (.cond c a b) tm hp Q:=by obtain⟨t1,h1,k1,k2⟩:=h;exact⟨t1,h1,k1.condF hc,k2⟩
theorem XT.condT {c:Operand}{a b:Code}(hc:d6 tm c=some (.bool true))(h:XT P C nt a tm hp Q):XT P C nt (.cond c a b) tm hp Q:=by obtain⟨t1,h1,k1,k2⟩:=h;exact⟨t1,h1,k1.condT hc,k2⟩
theorem XN.region {id:Nat}{ops:Array Oper}(h:XO P C nt ops.toList ops.toList tm hp Q):XN P C nt (.region id ops false) tm hp Q:=by
 obtain⟨t1,h1,k1,k2⟩:=h;exact⟨t1,h1,.region k1,k2⟩
theorem XO.nil {all:List Oper}(h:Q tm hp):XO P C nt all [] tm hp Q:=⟨_,_,fun _ _=>aD2,h⟩
theorem XO.cons {all rest:List Oper}{o:Oper}{v:Value}(h1:B6 nt o.dst=true)(h2:o.guard=none)(h:∀call,C call->xop P call tm hp o.op=some (v,hp1))(k:XO P C nt all rest (z6 tm o.dst v) hp1 Q):XO P C nt all (o::rest) tm hp Q:=by
 obtain⟨t1,h1',k1,k2⟩:=k;refine⟨t1,h1',fun call hc=>?_,k2⟩
 rw[P6,h1,bH1,h call hc];simp only[q9,h2,bH1];exact k1 call hc
theorem XO.mv {all rest:List Oper}{o:Oper}{t:Tmp}(h1:B6 nt o.dst=true)(h2:o.guard=none)(h:o.op= .move (.tmp t)){v:Value}(hv:tm.get t=some v)(k:XO P C nt all rest (z6 tm o.dst v) hp Q):XO P C nt all (o::rest) tm hp Q:=
 .cons h1 h2 (fun _ _=>by rw[h];simp only[c8,j8,d6,f8,hv,bJ6]) k
theorem XO.asg {all rest:List Oper}{o:Oper}{t:Tmp}(h1:B6 nt o.dst=true)(h2:o.guard=none)(h:o.op= .assign (.tmp t)){v:Value}(hv:tm.get t=some v)(k:XO P C nt all rest (z6 tm o.dst v) hp Q):XO P C nt all (o::rest) tm hp Q:=
 .cons h1 h2 (fun _ _=>by rw[h];simp only[c8,j8,d6,f8,hv,bJ6]) k
theorem bd8 {t:TypeId}(ht:P.underlying t=some (.slice e))(a:Option Addr)(n c:Nat):T5 hp P t (.slice a n c)=some (.int .i64 n):=by
 unfold T5 au7;simp only[ht]
theorem D5 {t:TypeId}(ht:P.underlying t=some (.slice e))(a:Option Addr)(n c:Nat):f8 hp (T5 hp P t (.slice a n c))=some (.int .i64 n,hp):=by rw[bd8 ht];rfl
theorem aJ1 {t u:TypeId}{x y:Value}{r:Value×Hp}(h:A8 P hp t u x y=some r):z9 P hp .append [t,u] [x,y]=some r:=by simp only[z9,h]
def XG (P:Program)(C:f9->Prop)(nt:Nat)(all:List Oper)(nx0:Nat)(l:List (Oper×Nat))(i:Nat)(tm:T Value)(S:Hp)(I:Nat)(es:List Ent)(Q:Out->Prop):Prop:=∃out,(∀call,C call->xgo P call nt all nx0 l i tm S I es=some out)/\Q out
variable {all :List Oper}{nx0:Nat}{rest:List (Oper×Nat)}{o:Oper}{pre ix I:Nat}{S S2:Hp}{es:List Ent}{QO:Out->Prop}{v:Value}
theorem XG.nil (h:QO ⟨tm,S,I,es⟩):XG P C nt all nx0 [] ix tm S I es QO:=⟨_,fun _ _=>rfl,h⟩
theorem XG.k0 (h1:B6 nt o.dst=true)(h2:o.guard=none)(h3:d9 o.op=0)(h:∀call,C call->xop P call tm S o.op=some (v,S))(k:XG P C nt all nx0 rest (ix+1) (z6 tm o.dst v) S I (⟨ix,o,pre,tm,S,S,I,true,v,none⟩::es) QO):XG P C nt all nx0 ((o,pre)::rest) ix tm S I es QO:=by
 obtain⟨out,k1,k2⟩:=k;refine⟨out,fun call hc=>?_,k2⟩
 unfold xgo;rw[h1,bH1];simp only[q9,h2,bH1,h3,h call hc];exact k1 call hc
theorem XG.k1 (h1:B6 nt o.dst=true)(h2:o.guard=none)(h3:d9 o.op=1)(h:∀call,xop P call tm S o.op=some (v,S))(k:XG P C nt all nx0 rest (ix+1) (z6 tm o.dst v) S I (⟨ix,o,pre,tm,S,S,I,true,v,none⟩::es) QO):XG P C nt all nx0 ((o,pre)::rest) ix tm S I es QO:=by
 obtain⟨out,k1,k2⟩:=k;refine⟨out,fun call hc=>?_,k2⟩
 unfold xgo;rw[h1,bH1];have:xrd P tm S o.op=some v:=by
  unfold xrd;rw[h];simp only[j9,bH1]
 simp only[q9,h2,bH1,h3,this];exact k1 call hc
theorem XG.k3 (h1:B6 nt o.dst=true)(h2:o.guard=none)(h3:d9 o.op=3)(ht:takes nx0 (aE5 pre I) es S=S)(h:∀call,C call->xop P call tm S o.op=some (v,S2))(k:XG P C nt all nx0 rest (ix+1) (z6 tm o.dst v) S2 (I|||pre) (⟨ix,o,pre,tm,S,S2,I,true,v,none⟩::es) QO):XG P C nt all nx0 ((o,pre)::rest) ix tm S I es QO:=by
 obtain⟨out,k1,k2⟩:=k;refine⟨out,fun call hc=>?_,k2⟩
 unfold xgo;rw[h1,bH1];simp only[q9,h2,bH1,h3,ht,h call hc];exact k1 call hc
theorem XG.mv (h1:B6 nt o.dst=true)(h2:o.guard=none){t:Tmp}(h3:o.op= .move (.tmp t))(hv:tm.get t=some v)(k:XG P C nt all nx0 rest (ix+1) (z6 tm o.dst v) S I (⟨ix,o,pre,tm,S,S,I,true,v,none⟩::es) QO):XG P C nt all nx0 ((o,pre)::rest) ix tm S I es QO:=
 .k0 h1 h2 (by rw[h3];rfl) (fun _ _=>by rw[h3];simp only[c8,j8,d6,f8,hv,bJ6]) k
theorem XG.asg (h1:B6 nt o.dst=true)(h2:o.guard=none){t:Tmp}(h3:o.op= .assign (.tmp t))(hv:tm.get t=some v)(k:XG P C nt all nx0 rest (ix+1) (z6 tm o.dst v) S I (⟨ix,o,pre,tm,S,S,I,true,v,none⟩::es) QO):XG P C nt all nx0 ((o,pre)::rest) ix tm S I es QO:=
 .k0 h1 h2 (by rw[h3];rfl) (fun _ _=>by rw[h3];simp only[c8,j8,d6,f8,hv,bJ6]) k
theorem XN.drawG {id : Nat} {ops : Array Oper} (hst : stat ops.toList (R4 ops.toList []) = true)
  (h:XG P C nt ops.toList hp.nx (ops.toList.zip (R4 ops.toList [])) 0 tm ⟨hp.m,hp.nx+ops.toList.length⟩ 0 [] fun out=>dyn P ⟨hp.m,hp.nx+ops.toList.length⟩ out.es=true/\takes hp.nx (aE4 out.I) out.es out.S=out.S/\Q out.tm out.S):XN P C nt (.region id ops true) tm hp Q:=by
 obtain⟨out,h1,h2,h3,h4⟩:=h;refine⟨out.tm,out.S,.draw fun call hc=>?_,h4⟩
 have:ah4 P call nt ops.toList tm hp=some (out.tm,out.S):=by
  unfold ah4;rw[hst,bH1,h1 call hc];simp only[h2,bH1,h3]
 unfold t8;simp only[this]
theorem W4 {f : FuncId} {fn : Func} {c : Code} {args : List Value} {r : Tmp} (h1 : P.funcs[f]? = some fn) (h2 : fn.body = some c) (h3 : fn.results = #[.tmp r]) (h : XT P C (args.length + (fn.ntmps - args.length)) c (fill .e 0 args) hp Q) :
  ∃v hp',(∃tm1,tm1.get r=v/\Q tm1 hp')/\ ∃m0,∀call,C call-> ∀m,m0<=m-> ∀runD,W3 P (t8 P) call runD m f args hp=some (v.getD undef,hp'):=by
 obtain⟨tm1,hp1,⟨m0,k1⟩,k2⟩:=h;refine⟨_,hp1,⟨tm1,rfl,k2⟩,m0,fun call hc m hm runD=>?_⟩
 unfold W3;simp only[h1,h2,k1 call hc m hm,aC2,G3,h3,E4,af9,ae4]
theorem V4 {c:T Value}{o n:Nat}{vs:List Value}(h:l9 c o n=some vs){a m:Nat}(hm:a+m<=n):l9 c (o+a) m=some ((vs.drop a).take m):=by
 obtain⟨h1,h2⟩:=j7 h;have hlen:((vs.drop a).take m).length=m:=by simp;omega
 have:=B2 (c:=c) (vs:=(vs.drop a).take m) (o:=o+a) (fun j hj=>by
  rw[hlen]at hj;rw[bI7,bH6 hj,bJ3,h2 (a+j) (by omega),bL4])
 rw[hlen]at this;exact this
theorem be4 {t : TypeId} (ht : P.underlying t = some (.slice e)) (hi : P.info? e = some ie) {i o n lo a b : Nat} (hlo : Nat.ble (Nat.max lo n) 67108864 = true) (hab : a ≤ b) (hbn : b ≤ n) :
  ∃v,p8 P hp t (.slice (some ⟨i,o,none⟩) n (d8 lo 0)) (some (.int .i64 a)) (some (.int .i64 b)) (some (.int .i64 n))=some (v,hp):=by
 have hb:v7 n (Nat.max lo n) (some (.int .i64 a)) (some (.int .i64 b)) (some (.int .i64 n))=some (a,b,some n):=by
  simp only[v7,G0 (bM4 lo n),bJ9,bJ6,G0 hbn,G0 hab]
 unfold p8;simp only[ht,hi,P2,M2,bG1 (n9 lo 0),bH1];rw[hlo,bH1,hb];cases hc:Nat.beq n a with
 |true=>exact⟨.slice (some ⟨i,o,none⟩) (b-a) (n-a),by simp only[hc,bH1]⟩
 |false=>exact⟨.slice (some ⟨i,o+a*ie.size,none⟩) (b-a) (n-a),by simp only[hc,bH2]⟩
theorem aX8 {t : TypeId} (ht : P.underlying t = some (.slice e)) (hi : P.info? e = some ie) {i o lo b n : Nat} (hlo : Nat.ble (Nat.max lo n) 67108864 = true) (hb : b = 0) :
  p8 P hp t (.slice (some ⟨i,o,none⟩) n (d8 lo 0)) (some (.int .i64 b)) none none=some (.slice (some ⟨i,o,none⟩) n (d8 (Nat.max lo n) 0),hp):=by
 have hbd:v7 n (Nat.max lo n) (some (.int .i64 b)) none none=some (b,n,none):=by simp only[v7,G0 (show b<=n by omega)]
 unfold p8;simp only[ht,hi,P2,M2,bG1 (n9 lo 0),bH1];rw[hlo,bH1,hbd];simp only;rw[j9 hb,bH1]
theorem be5 {t : TypeId} (ht : P.underlying t = some (.slice e)) (hi : P.info? e = some ie) {i o b lo : Nat} (hlo : Nat.ble (Nat.max lo b) 67108864 = true) (hb : b ≠ 0) (hmx : Nat.max lo b = b) :
  p8 P hp t (.slice (some ⟨i,o,none⟩) b (d8 lo 0)) (some (.int .i64 b)) none none=some (.slice (some ⟨0,0,some 0⟩) 0 unk,hp):=by
 have hbd:v7 b (Nat.max lo b) (some (.int .i64 b)) none none=some (b,b,none):=by simp only[v7,G0 (bH7 b)]
 unfold p8;simp only[ht,hi,P2,M2,bG1 (n9 lo 0),bH1];rw[hlo,bH1,hbd];simp only;rw[u6 hb,bH2,j9 hmx.symm,bH1]
theorem at9 {t : TypeId} (ht : P.underlying t = some (.slice e)) (hi : P.info? e = some ie) {i o n lo b : Nat} (hlo : Nat.ble (Nat.max lo n) 67108864 = true) (hbn : b ≤ n) {c : T Value} {k e' : Nat} (hg : hp.m.get i = some (.cells c k e' ie.size)) (hk : o + n * ie.size ≤ k)
  {olds:List Value} (hl:l9 c o (n*ie.size)=some olds):
  ∃x,(∀nx,p8 P ⟨hp.m,nx⟩ t (.slice (some ⟨i,o,none⟩) n (d8 lo 0)) (some (.int .i64 b)) none none=some (x,⟨hp.m,nx⟩))/\(∀nx,u9 ⟨hp.m,nx⟩ ie.size x=some (n-b,olds.drop (b*ie.size)))/\(b<n-> ∃q c',x= .slice (some ⟨i,q,none⟩) (n-b) c'):=by
 have hmul:n*ie.size=b*ie.size+(n-b)*ie.size:=by rw[<-bJ0];congr 1;omega
 have hlen:=(j7 hl).1;have hmx:n<=Nat.max lo n:=bM4 lo n
 by_cases hlt:b<Nat.max lo n
 ·refine⟨_,fun nx=>K0 (hp:=⟨hp.m,nx⟩) ht hi hlo (bM4 lo n) hbn hlt hg _ _ (.inl rfl) (.inr ⟨rfl,rfl⟩),fun nx=>?_,fun _=>⟨_,_,rfl⟩⟩
  have h1:=V4 hl (a:=b*ie.size) (m:=(n-b)*ie.size) (by omega)
  rw[bK3 (by rw[bK6];omega)]at h1
  have hble:Nat.ble (o+b*ie.size+(n-b)*ie.size) k=true:=bG1 (by omega)
  simp only[u9,hg,rdC,hble,bH1,h1]
 ·have hb:b=n:=Nat.le_antisymm hbn (bL2 hmx (bN2 hlt))
  subst hb;have hmx:Nat.max lo b=b:=Nat.le_antisymm (bN2 hlt) hmx
  rcases Nat.eq_zero_or_pos b with h0|hpos
  ·refine⟨_,fun nx=>aX8 ht hi hlo h0,fun nx=>?_,fun h=>absurd h (Nat.lt_irrefl _)⟩
   have hble:Nat.ble (o+b*ie.size) k=true:=bG1 (by omega)
   simp only[u9,hg,rdC];rw[hble,bH1,hl];rw[bQ4,h0,bO3,bP1]
  ·refine⟨_,fun nx=>be5 ht hi hlo (Nat.pos_iff_ne_zero.1 hpos) hmx,fun nx=>?_,fun h=>absurd h (Nat.lt_irrefl _)⟩
   simp only[u9,bQ4];rw[List.drop_eq_nil_of_le (Nat.le_of_eq hlen)]
theorem aN1 {t : TypeId} (ht : P.underlying t = some (.slice e)) (hi : P.info? e = some ie) (hz : ie.zero = some zv) (hzl : zv.cells.toList.length = ie.size) (hby : ie.bytes ≤ 1048576) {i o sl L m : Nat} {x : Value} {news : List Value} (hx : u9 hp ie.size x = some (m, news))
  {c:T Value} {k:Nat} (hg:hp.m.get i=some (.cells c k e ie.size)) (hk:o+(sl+m)*ie.size<=k) (hL:sl+m<=L) (hLb:Nat.ble L 67108864=true) (hone:news.all Value.oneCell'=true) (hlen:news.length=m*ie.size):
  ∃hp1 ct,A8 P hp t t (.slice (some ⟨i,o,none⟩) sl (d8 L 0)) x=some (.slice (some ⟨i,o,none⟩) (sl+m) (d8 L 0),hp1)/\hp1.nx=hp.nx/\(∀j,j≠i->hp1.m.get j=hp.m.get j)/\hp1.m.get i=some (.cells ct k e ie.size)/\ ∀y,ct.get y=(fill c (o+sl*ie.size) news).get y:=by
 have hsum:Nat.ble (sl+m) 67108864=true:=bG1 (bL2 hL (bF8 hLb));have h1:(Nat.beq zv.cells.toList.length ie.size&&Nat.ble ie.bytes 1048576)=true:=by rw[hzl,j9 rfl,bG1 hby];rfl
 by_cases hm:m=0
 ·subst hm
  have hn:news=[]:=bG0 (by rw[hlen,bO3])
  subst hn;refine⟨hp,c,?_,rfl,fun _ _=>rfl,hg,fun _=>rfl⟩
  have hble:Nat.ble sl (d8 L 0)=true:=bG1 (by have:=n9 L 0;have:=bF8 hLb;unfold unk at*;omega)
  unfold A8;simp only[ht,hi,hz];rw[h1,bH1,hx];simp only[hg];rw[hsum];simp only[hone,Bool.and_self,bH1,j9,hble,bM0]
 ·have hmax:Nat.max k (o+(sl+m)*ie.size)=k:=bP5 hk
  refine⟨{hp with m:=hp.m.set i (some (.cells (fill c (o+sl*ie.size) news) k e ie.size))},fill c (o+sl*ie.size) news,?_,rfl,fun j hj=>?_,by simp only[T.get_set,bH6],fun _=>rfl⟩
  ·unfold A8
   simp only[ht,hi,hz];rw[h1,bH1,hx];simp only[hg];rw[hsum];have hk2:Nat.ble (o+sl*ie.size) k=true:=bG1 (by rw[bJ0]at hk;omega)
   simp only[hone,Bool.and_self,bH1,u6 hm,bH2,bG1 (n9 L 0),M2,P2,hk2,j9,bG1 hL,hmax,P0];rw[show Nat.ble 1 0=false from rfl,Bool.false_and,bH2]
  ·simp only[T.get_set,bH4 hj]
theorem aW5 {t : TypeId} (ht : P.underlying t = some (.slice e)) (hi : P.info? e = some ie) (hz : ie.zero = some zv) (hcs : cst zv = true) (hzl : zv.cells.toList.length = ie.size) (hone : zv.cells.toList.all Value.oneCell' = true) {i o m cc : Nat} {c : T Value} {k e' z' : Nat}
  (hg:hp.m.get i=some (.cells c k e' z')) (hk:o+m*ie.size<=k):
  ∃hp1 ct vs,ap6 P hp t (.slice (some ⟨i,o,none⟩) m cc)=some (.tuple #[],hp1)/\hp1.nx=hp.nx/\(∀j,j≠i->hp1.m.get j=hp.m.get j)/\hp1.m.get i=some (.cells ct k e' z')/\(∀y,ct.get y=(fill c o vs).get y)/\vs.length=m*ie.size:=by
 cases m with
 |zero=>exact⟨hp,c,[],by simp only[ap6,ht],rfl,fun _ _=>rfl,hg,fun _=>rfl,by simp⟩
 |succ m=>
  have hxz:G5 P e=some zv:=by unfold G5;simp only[hi,hz,hcs,bH1]
  have hl:(xrep (m+1) zv.cells.toList).length=(m+1)*ie.size:=by rw[C4,hzl]
  have hall:(xrep (m+1) zv.cells.toList).all Value.oneCell'=true:=by
   rw[bI4];intro v hv;obtain⟨j,hj,rfl⟩:=List.getElem_of_mem hv;have h2:=W9 zv.cells.toList (m+1) j (by rw[hzl,<-hl];exact hj)
   rw[bG6 hj]at h2;exact(bI4.1 hone) _ (bG4 h2.symm)
  have hble:Nat.ble (o+(xrep (m+1) zv.cells.toList).length) k=true:=bG1 (by rw[hl];exact hk)
  refine⟨{hp with m:=hp.m.set i (some (.cells (fill c o (xrep (m+1) zv.cells.toList)) k e' z'))},fill c o (xrep (m+1) zv.cells.toList),xrep (m+1) zv.cells.toList,?_,rfl,fun j hj=>?_,by simp only[T.get_set,bH6],fun _=>rfl,hl⟩
  ·simp only[ap6,ht,hxz,hg,hble,hall,Bool.and_self,bH1,P0]
  ·simp only[T.get_set,bH4 hj]
theorem by2 (D : be7 P g ρ e ie zv) {i o n lo a b : Nat} (hlo : Nat.ble (Nat.max lo n) 67108864 = true) (hab : a < b) (hbn : b ≤ n) {c : T Value} {k : Nat} (hg : hp.m.get i = some (.cells c k e ie.size)) (hk : o + n * ie.size ≤ k)
  {olds:List Value} (hl:l9 c o (n*ie.size)=some olds) (hone:olds.all Value.oneCell'=true):
  XT P C 33 ((Go.Proofs.Body2.n23 ρ).body.getD .skip) (fill .e 0 [.slice (some ⟨i,o,none⟩) n (d8 lo 0),.int .i64 a,.int .i64 b]) hp fun tm' hp'=>
   tm'.get 6=some (.slice (some ⟨i,o,none⟩) (a+(n-b)) (d8 (Nat.max lo n) 0))/\
   hp.nx<=hp'.nx/\(∀j,j≠i->hp'.m.get j=hp.m.get j)/\ ∃ct,hp'.m.get i=some (.cells ct k e ie.size)/\l9 ct o ((a+(n-b))*ie.size)=some (olds.take (a*ie.size)++olds.drop (b*ie.size)):=by
 have hlen:=(j7 hl).1;have hmulb:n*ie.size=b*ie.size+(n-b)*ie.size:=by rw[<-bJ0];congr 1;omega
 have hmula:b*ie.size=a*ie.size+(b-a)*ie.size:=by rw[<-bJ0];congr 1;omega
 have hsum:(a+(n-b))*ie.size=a*ie.size+(n-b)*ie.size:=bJ0 _ _ _;have hmx:n<=Nat.max lo n:=bM4 lo n;obtain⟨v3,h3⟩:=be4 (hp:=hp) D.t22 D.ty (i:=i) (o:=o) (a:=a) (b:=b) hlo (Nat.le_of_lt hab) hbn;obtain⟨x,hx1,hx2,_⟩:=at9 (hp:=hp) D.t22 D.ty hlo hbn hg hk hl;have hs1:=K0 (hp:=⟨hp.m,hp.nx+8⟩) D.t22 D.ty (i:=i) (o:=o) (n:=n) (lo:=lo) (l:=0) (h:=a) hlo (by omega) (bP0 _) (by omega) hg none (some (.int .i64 a)) (.inr ⟨rfl,rfl⟩) (.inl rfl)
 rw[bO3,bM0,bN6,bN6]at hs1;have hdl:(olds.drop (b*ie.size)).length=(n-b)*ie.size:=by rw[bK6];omega
 have hdone:(olds.drop (b*ie.size)).all Value.oneCell'=true:=by
  rw[bI4]at hone⊢;exact fun v hv=>hone v (bO1 hv)
 obtain⟨hp2,c2,a1,a2,a3,a4,a5⟩:=aN1 (hp:=⟨hp.m,hp.nx+8⟩) D.t22 D.ty D.zero D.zl D.by_ (i:=i) (o:=o) (sl:=a) (L:=Nat.max lo n) (hx2 _) hg (by omega) (by omega) hlo hdone hdl
 have hs2:=K0 (hp:=hp2) D.t22 D.ty (i:=i) (o:=o) (n:=a+(n-b)) (lo:=Nat.max lo n) (l:=a+(n-b)) (h:=n) (by rw[show Nat.max (Nat.max lo n) (a+(n-b))=Nat.max lo n from bP5 (by omega)];exact hlo)
  (bL2 hmx (Nat.le_max_left _ _)) (by omega) (bK7 (by omega) (Nat.le_max_left _ _)) a4 (some (.int .i64 ((a+(n-b):Nat):Int))) (some (.int .i64 n)) (.inl rfl) (.inl rfl)
 obtain ⟨hp3, c3, vs, b1, b2, b3, b4, b5, b6⟩ := aW5 (hp := hp2) D.t22 D.ty D.zero D.cst D.zl D.one (i := i) (o := o + (a + (n - b)) * ie.size) (m := n - (a + (n - b))) (cc := d8 (Nat.max (Nat.max lo n) (a + (n - b)) - (a + (n - b))) 0) a4
  (by have : (n - (a + (n - b))) * ie.size = (b - a) * ie.size := by congr 1; omega
      omega)
 simp only[Go.Proofs.Body2.n23,bJ6,fill];refine .seq (.region (.cons rfl rfl (fun _ _=>rfl) (.nil ?_)))
 refine .seq (.region ?_);refine .mv rfl rfl rfl rfl (.mv rfl rfl rfl rfl (.mv rfl rfl rfl rfl (.mv rfl rfl rfl rfl (.cons (v:= .int .i64 n) (hp1:=hp) rfl rfl (fun _ _=>D5 D.t22 _ _ _) (.cons (v:=v3) (hp1:=hp) rfl rfl (fun _ _=>h3) (.nil ?_))))))
 refine .seq (.seq (.region (.mv rfl rfl rfl rfl (.mv rfl rfl rfl rfl (.cons (v:= .bool false) (hp1:=hp) rfl rfl ?_ (.nil (.condF rfl (.skip ?_))))))))
 ·intro _ _
  show f8 hp (F9 P .eql (ρ.t 3) (.int .i64 a) (.int .i64 b))=_;simp only[F9,Z5,bL1,bH1,A9,aj4,f8];rw[bN0 (by omega)]
 refine .seq (.region (.mv rfl rfl rfl rfl (.cons (v:= .int .i64 n) (hp1:=hp) rfl rfl (fun _ _=>D5 D.t22 _ _ _) (.asg rfl rfl rfl rfl (.nil ?_)))))
 refine .seq (.drawG (by kernel_rfl) ?_)
 refine .mv rfl rfl rfl rfl (.mv rfl rfl rfl rfl (.k1 (v:= .slice (some ⟨i,o,none⟩) a (d8 (Nat.max lo n) 0)) rfl rfl rfl (fun _=>hs1) ?_))
 refine .mv rfl rfl rfl rfl (.mv rfl rfl rfl rfl (.k1 (v:=x) rfl rfl rfl (fun _=>hx1 _) ?_))
 refine .k3 (v:= .slice (some ⟨i,o,none⟩) (a+(n-b)) (d8 (Nat.max lo n) 0)) (S2:=hp2) rfl rfl rfl (by kernel_rfl) (fun _ _=>aJ1 a1) ?_
 refine .asg rfl rfl rfl rfl (.nil ⟨by kernel_rfl,by kernel_rfl,?_⟩)
 refine .seq (.region (.mv rfl rfl rfl rfl (.mv rfl rfl rfl rfl (.cons (v:= .int .i64 ((a+(n-b):Nat):Int)) (hp1:=hp2) rfl rfl (fun _ _=>D5 D.t22 _ _ _) (.mv rfl rfl rfl rfl (.cons (hp1:=hp2) rfl rfl (fun _ _=>hs2) (.cons (hp1:=hp3) rfl rfl (fun _ _=>b1) (.nil ?_))))))))
 refine .seq (.region (.mv rfl rfl rfl rfl (.asg rfl rfl rfl rfl (.nil ?_))));refine .ret ⟨rfl,?_,fun j hj=>by rw[b3 j hj,a3 j hj],c3,b4,?_⟩
 ·show hp.nx<=hp3.nx
  rw[b2,a2];exact Nat.le_add_right _ _
 ·have hl1:(olds.take (a*ie.size)).length=a*ie.size:=by rw[bI9];omega
  have hlen2:(olds.take (a*ie.size)++olds.drop (b*ie.size)).length=(a+(n-b))*ie.size:=by rw[bI1,hl1,hdl,hsum]
  have:=B2 (c:=c3) (vs:=olds.take (a*ie.size)++olds.drop (b*ie.size)) (o:=o) (fun j hj=>by
   rw[hlen2]at hj;rw[b5,i8,bH4 (by omega),a5,i8]
   by_cases h1:j<a*ie.size
   ·rw[bH4 (by omega),bG3 (by omega),bI7,bH6 h1]
    exact((j7 hl).2 j (by omega)).symm
   ·rw[bH6 (by omega),bG2 (by omega),hl1]
    congr 1
    omega)
  rw[hlen2]at this;exact this
structure ag4 (P:Program)(g:FuncId)(ρ:Go.Shelf.Ren)(e:TypeId)(ie:TypeInfo)(zv:Value):Prop where
 fn:∃fn,P.funcs[g]? =some fn/\fn.body=(Go.Proofs.Body2.n21 ρ).body/\fn.ntmps=95/\fn.results= #[.tmp 6]
 t22:P.underlying (ρ.t 22)=some (.slice e)
 t3:P.underlying (ρ.t 3)=some (.int .i64)
 ty:P.info? e=some ie
 zero:ie.zero=some zv
 cst:cst zv=true
 zl:zv.cells.toList.length=ie.size
 sz:1<=ie.size
 by_:ie.bytes<=1048576
 fo:∃fo,P.funcs[ρ.f 27]? =some fo/\ao8 fo=false
 nT:Nat.beq (ρ.t 22) ah2=false
def COv (ρ:Go.Shelf.Ren)(call:f9):Prop:=call.ov (ρ.f 27)=some (ρ.t 22)
theorem aa1 {hp':Hp}{size j q m c:Nat}(h:hp'.m.get j=hp.m.get j):u9 hp' size (.slice (some ⟨j,q,none⟩) m c)=u9 hp size (.slice (some ⟨j,q,none⟩) m c):=by
 simp only[u9,h]
theorem S3 (t:TypeId){a b:Nat}(h:a+b<4611686018427387904):f8 hp (F9 P .add t (.int .i64 a) (.int .i64 b))=some (.int .i64 ((a+b:Nat):Int),hp):=by
 have:IntKind.i64.wrap ((a:Int)+(b:Int))=((a+b:Nat):Int):=by rw[IntKind.wrap_i64];omega
 simp only[F9,Z5,bL1,bH1,A9,f8,this]
theorem bB4 (t:TypeId){a b:Nat}(h:a<4611686018427387904)(hb:b<=a):f8 hp (F9 P .sub t (.int .i64 a) (.int .i64 b))=some (.int .i64 ((a-b:Nat):Int),hp):=by
 have:IntKind.i64.wrap ((a:Int)-(b:Int))=((a-b:Nat):Int):=by rw[IntKind.wrap_i64];omega
 simp only[F9,Z5,bL1,bH1,A9,f8,this]
theorem X5 (t:TypeId){a b:Nat}(h:a≠b):f8 hp (F9 P .eql t (.int .i64 a) (.int .i64 b))=some (.bool false,hp):=by
 simp only[F9,Z5,bL1,bH1,A9,aj4,f8];rw[bN0 (by omega)]
theorem br2 (t:TypeId)(a:Nat):f8 hp (F9 P .eql t (.int .i64 a) (.int .i64 a))=some (.bool true,hp):=by
 simp only[F9,Z5,bL1,bH1,A9,aj4,f8]
theorem bf5 (t:TypeId){m M up:Nat}{b:Bool}(hM:M<18446744073709551616)(h:(b=false/\up=0/\m<=M)\/(b=true/\up=m/\m≠0)):f8 hp (F9 P .gtr t (.int .i64 m) (.complex .f64 M up))=some (.bool b,hp):=by
 have e1:K5 (.int .i64 (m:Nat))=some (.i64,m,m+1):=rfl;have e2:K5 (.complex .f64 M up)=some (.i64,M,up):=by
  simp only[K5,Q0,aQ7];rw[show Y1 M=M by unfold Y1;exact bP9 hM]
 have e3:Z5 P .gtr t (.int .i64 m) (.complex .f64 M up)=none:=rfl;have e4:S5 (M,up) (m,m+1)=some b:=by
  unfold S5
  rcases h with⟨rfl,rfl,h⟩| ⟨rfl,rfl,h⟩
  ·rw[j9 rfl,Bool.not_true,Bool.false_and,bH2,u6 (Nat.succ_ne_zero m),bG1 (show m+1<=M+1 by omega)]
   rfl
  ·rw[u6 h,bG1 (bH7 _)]
   rfl
 simp only[F9,e3,aW0,e1,e2,bL1,bH1,br5,e4,bJ9,f8]
theorem aB9 {t:TypeId}(ht:P.underlying t=some (.slice e))(a:Addr){n lo up:Nat}(hup:up<unk):f8 hp (am9 P t (.slice (some a) n (d8 lo up)))=some (.complex .f64 (Nat.max lo n) up,hp):=by
 simp only[am9,ht,bG1 (n9 lo up),bH1,F6 hup,E2 hup,f8]
theorem Z8 {t : TypeId} (ht : P.underlying t = some (.slice e)) (hi : P.info? e = some ie) {i o dl dc j q n cx m : Nat} {c : T Value} {k e' z' : Nat} {vs : List Value} (hg : hp.m.get i = some (.cells c k e' z')) (hx : u9 hp ie.size (.slice (some ⟨j, q, none⟩) (Nat.min n dl) cx) = some (m, vs))
  (hk:o+m*ie.size<=k\/(unk<=dc/\z'=ie.size/\o<=k)) (hm:m<=dl) (hone:vs.all Value.oneCell'=true):
  aJ2 P hp t (.slice (some ⟨i,o,none⟩) dl dc) (.slice (some ⟨j,q,none⟩) n cx)=some (.int .i64 m,{hp with m:=hp.m.set i (some (.cells (fill c o vs) (Nat.max k (o+m*ie.size)) e' z'))}):=by
 have hb:((Nat.ble (o+m*ie.size) k|| (Nat.ble unk dc&&Nat.beq z' ie.size&&Nat.ble o k))&&Nat.ble m dl&&vs.all Value.oneCell')=true:=by
  rw[hone,bG1 hm,bO2,bO2,bN1]
  rcases hk with h| ⟨h1,h2,h3⟩
  ·exact .inl (bG1 h)
  ·exact .inr (by rw[bG1 h1,j9 h2,bG1 h3];rfl)
 simp only[aJ2,ht,hi,hg,hx];rw[hb,bH1,P0]
theorem Z7 {t u:TypeId}{x y:Value}{r:Value×Hp}(h:aJ2 P hp t x y=some r):z9 P hp .copy [t,u] [x,y]=some r:=by simp only[z9,h]
theorem bd2 {t u:TypeId}{x y:Value}{r:Value×Hp}(h1:A8 P hp t u x y=none)(h:R0 P hp t u x y=some r):z9 P hp .append [t,u] [x,y]=some r:=by simp only[z9,h1,h]
theorem be1 (D : ag4 P g ρ e ie zv) {call : f9} (hc : COv ρ call) {i j o1 l1 c1 o2 l2 c2 : Nat} {ci cj : T Value} {ki kj ei ej zi zj : Nat} (hij : i ≠ j) (hi : hp.m.get i = some (.cells ci ki ei zi)) (hj : hp.m.get j = some (.cells cj kj ej zj)) (hk : 1 ≤ kj) :
  aB8 P call hp (.func (.func (ρ.f 27)) #[] #[]) [.slice (some ⟨i,o1,none⟩) l1 c1,.slice (some ⟨j,o2,none⟩) l2 c2]=some (.bool false,hp):=by
 obtain⟨fo,h1,h2⟩:=D.fo;have hc:call.ov (ρ.f 27)=some (ρ.t 22):=hc;simp only[aB8,h1,h2,bH2,hc,D.nT];show aX4 P hp (ρ.t 22) [_,_]=_;simp only[aX4,D.t22,D.ty,u6 hij,bH2,hi,hj,bG1 hk,bH1]
theorem aW8 (D : ag4 P g ρ e ie zv) {a : Option Addr} {n c j q cm : Nat} {r v0 : Value} {hp1 : Hp} (hs : p8 P hp (ρ.t 22) (.slice a n c) (some (.int .i64 n)) none none = some (v0, hp))
  (ha:A8 P hp (ρ.t 22) (ρ.t 22) (.slice a n c) (.slice (some ⟨j,q,none⟩) 1 cm)=some (r,hp1)):
  XT P C 95 ((Go.Proofs.Body2.n21 ρ).body.getD .skip) (fill .e 0 [.slice a n c,.int .i64 n,.slice (some ⟨j,q,none⟩) 1 cm]) hp fun tm' hp'=>tm'.get 6=some r/\hp'=hp1:=by
 simp only[Go.Proofs.Body2.n21,bJ6,fill];refine .seq (.region (.cons rfl rfl (fun _ _=>rfl) (.nil ?_)))
 refine .seq (.region (.mv rfl rfl rfl rfl (.mv rfl rfl rfl rfl (.cons (v:=v0) (hp1:=hp) rfl rfl (fun _ _=>hs) (.nil ?_)))))
 refine .seq (.region (.mv rfl rfl rfl rfl (.cons (v:= .int .i64 ((1:Nat):Int)) (hp1:=hp) rfl rfl (fun _ _=>D5 D.t22 _ _ _) (.asg rfl rfl rfl rfl (.nil ?_)))))
 refine .seq (.seq (.region (.mv rfl rfl rfl rfl (.cons (v:= .bool false) (hp1:=hp) rfl rfl (fun _ _=>X5 (P:=P) (ρ.t 3) (a:=1) (b:=0) (by omega)) (.nil (.condF rfl (.skip ?_)))))))
 refine .seq (.region (.mv rfl rfl rfl rfl (.cons (v:= .int .i64 n) (hp1:=hp) rfl rfl (fun _ _=>D5 D.t22 _ _ _) (.asg rfl rfl rfl rfl (.nil ?_)))))
 refine .seqR (.seq (.region (.mv rfl rfl rfl rfl (.mv rfl rfl rfl rfl (.cons (v:= .bool true) (hp1:=hp) rfl rfl (fun _ _=>br2 (P:=P) (ρ.t 3) n) (.nil ?_))))))
 refine .condT rfl (.seq (.region (.mv rfl rfl rfl rfl (.mv rfl rfl rfl rfl (.cons (v:=r) (hp1:=hp1) rfl rfl (fun _ _=>aJ1 ha) (.asg rfl rfl rfl rfl (.nil (.ret ⟨rfl,rfl⟩))))))))
theorem aH2 {ct : T Value} {o s n at_ : Nat} {olds news : List Value} (hat : at_ ≤ n) (hlo : olds.length = n * s) (hln : news.length = s) (h1 : ∀ j, j < at_ * s → ct.get (o + j) = olds[j]?) (h2 : ∀ j, j < s → ct.get (o + at_ * s + j) = news[j]?) (h3 : ∀ j, j < (n - at_) * s → ct.get (o + (at_ + 1) * s + j) = olds[at_ * s + j]?) :
  l9 ct o ((n+1)*s)=some (olds.take (at_*s)++news++olds.drop (at_*s)):=by
 have hm:n*s=at_*s+(n-at_)*s:=by rw[<-bJ0];congr 1;omega
 have hm1:(at_+1)*s=at_*s+s:=bM1 _ _;have hm2:(n+1)*s=n*s+s:=bM1 _ _;have l1:(olds.take (at_*s)).length=at_*s:=by rw[bI9];omega
 have l2:(olds.take (at_*s)++news).length=at_*s+s:=by rw[bI1,l1,hln]
 have l3:(olds.take (at_*s)++news++olds.drop (at_*s)).length=(n+1)*s:=by rw[bI1,l2,bK6];omega
 have:=B2 (c:=ct) (vs:=olds.take (at_*s)++news++olds.drop (at_*s)) (o:=o) (fun j hj=>by
  rw[l3]at hj
  by_cases c1:j<at_*s
  ·rw[h1 j c1,bG8,bG3 (by omega),bI7,bH6 c1]
  ·by_cases c2:j<at_*s+s
   ·rw[bG8,bG2 (by omega),l1,bG3 (by omega),<-h2 (j-at_*s) (by omega)]
    congr 1;omega
   ·rw[bG2 (by omega),l2,bJ3]
    have:=h3 (j-(at_*s+s)) (by omega)
    rw[show o+(at_+1)*s+(j-(at_*s+s))=o+j by omega]at this
    rw[this])
 rw[l3]at this;exact this
theorem aJ3 (D : ag4 P g ρ e ie zv) {i o n lo at_ j q cm : Nat} (hlo : Nat.ble (Nat.max lo n) 67108864 = true) (hroom : n + 1 ≤ Nat.max lo n) (hat : at_ < n) (hij : j ≠ i) {c cj : T Value} {k kj ej zj : Nat} (hg : hp.m.get i = some (.cells c k e ie.size)) (hgj : hp.m.get j = some (.cells cj kj ej zj))
  (hk:o+n*ie.size<=k) {olds news:List Value} (hl:l9 c o (n*ie.size)=some olds) (hn:u9 hp ie.size (.slice (some ⟨j,q,none⟩) 1 cm)=some (1,news)) (hnl:news.length=ie.size) (hone:olds.all Value.oneCell'=true) (hone':news.all Value.oneCell'=true):
  XT P (COv ρ) 95 ((Go.Proofs.Body2.n21 ρ).body.getD .skip) (fill .e 0 [.slice (some ⟨i,o,none⟩) n (d8 lo 0),.int .i64 at_,.slice (some ⟨j,q,none⟩) 1 cm]) hp fun tm' hp'=>
   tm'.get 6=some (.slice (some ⟨i,o,none⟩) (n+1) (d8 (Nat.max lo n) 0))/\hp.nx<=hp'.nx/\(∀x,x≠i->hp'.m.get x=hp.m.get x)/\
   ∃ct k',hp'.m.get i=some (.cells ct k' e ie.size)/\o+(n+1)*ie.size<=k'/\l9 ct o ((n+1)*ie.size)=some (olds.take (at_*ie.size)++news++olds.drop (at_*ie.size)):=by
 have hMb:Nat.max lo n<=67108864:=bF8 hlo;generalize hM:Nat.max lo n=M at*;have hlen:=(j7 hl).1;have hMM:Nat.max M (n+1)=M:=bP5 hroom;have hlo2:Nat.ble (Nat.max M (n+1)) 67108864=true:=by rw[hMM];exact hlo
 have hs:=D.sz;have m1:n*ie.size=at_*ie.size+(n-at_)*ie.size:=by rw[<-bJ0];congr 1;omega
 have m2:(at_+1)*ie.size=at_*ie.size+ie.size:=bM1 _ _;have m3:(n+1)*ie.size=n*ie.size+ie.size:=bM1 _ _;have m4:(at_+1)*ie.size<=n*ie.size:=bG7 _ hat;have s1:=K0 (hp:=hp) D.t22 D.ty (i:=i) (o:=o) (n:=n) (lo:=lo) (l:=at_) (h:=n) (by rw[hM];exact hlo) (by rw[hM];omega) (Nat.le_of_lt hat) (by rw[hM];omega) hg (some (.int .i64 at_)) none (.inl rfl) (.inr ⟨rfl,rfl⟩)
 have s2:=K0 (hp:=hp) D.t22 D.ty (i:=i) (o:=o) (n:=n) (lo:=lo) (l:=0) (h:=n+1) (by rw[hM];exact hlo) (by rw[hM];omega) (bP0 _) (by rw[hM];omega) hg none (some (.int .i64 ((n+1:Nat):Int))) (.inr ⟨rfl,rfl⟩) (.inl rfl)
 rw[hM]at s2;simp only[bO3,bM0,bN6]at s2;have s3:∀(hpx:Hp) {ct:T Value} {kx:Nat},hpx.m.get i=some (.cells ct kx e ie.size)-> ∀l,l<n+1->p8 P hpx (ρ.t 22) (.slice (some ⟨i,o,none⟩) (n+1) (d8 M 0)) (some (.int .i64 l)) none none=some (.slice (some ⟨i,o+l*ie.size,none⟩) (n+1-l) (d8 (M-l) 0),hpx):=by
  intro hpx ct kx hgx l hlt;have:=K0 (hp:=hpx) D.t22 D.ty (i:=i) (o:=o) (n:=n+1) (lo:=M) (l:=l) (h:=n+1) hlo2 (by rw[hMM];omega) (Nat.le_of_lt hlt) (by rw[hMM];omega) hgx (some (.int .i64 l)) none (.inl rfl) (.inr ⟨rfl,rfl⟩)
  rwa[hMM]at this
 have hv1:=V4 hl (a:=at_*ie.size) (m:=(n-at_)*ie.size) (by omega)
 rw[bK3 (by rw[bK6];omega)]at hv1
 have hdone:(olds.drop (at_*ie.size)).all Value.oneCell'=true:=by
  rw[bI4]at hone⊢;exact fun v hv=>hone v (bO1 hv)
 have x1:u9 ⟨hp.m,hp.nx+9⟩ ie.size (.slice (some ⟨i,o+at_*ie.size,none⟩) (Nat.min (n+1-at_) (n+1-(at_+1))) (d8 (M-at_) 0))=some (n-at_,olds.drop (at_*ie.size)):=by
  have hmin:Nat.min (n+1-at_) (n+1-(at_+1))=n-at_:=by rw[show n+1-(at_+1)=n-at_ by omega];exact Nat.min_eq_right (by omega)
  have hble:Nat.ble (o+at_*ie.size+(n-at_)*ie.size) k=true:=bG1 (by omega)
  simp only[u9,hg,rdC,hmin,hble,bH1,hv1]
 have c1:=Z8 (hp:=⟨hp.m,hp.nx+9⟩) D.t22 D.ty (i:=i) (o:=o+(at_+1)*ie.size) (dl:=n+1-(at_+1)) (dc:=d8 (M-(at_+1)) 0) hg x1 (.inr ⟨n9 _ _,rfl,by omega⟩) (by omega) hdone
 generalize hk1:Nat.max k (o+(at_+1)*ie.size+(n-at_)*ie.size)=k1 at c1;have hk1':o+(n+1)*ie.size<=k1:=by rw[<-hk1];exact bL2 (by omega) (bM4 _ _)
 generalize hc1:fill c (o+(at_+1)*ie.size) (olds.drop (at_*ie.size))=ct1 at c1;generalize hH1:({(⟨hp.m,hp.nx+9⟩:Hp)with m:=(⟨hp.m,hp.nx+9⟩:Hp).m.set i (some (.cells ct1 k1 e ie.size))}:Hp)=H1 at c1
 have hgH1:H1.m.get i=some (.cells ct1 k1 e ie.size):=by rw[<-hH1];simp only[T.get_set,bH6]
 have hoH1:∀x,x≠i->H1.m.get x=hp.m.get x:=fun x hx=>by rw[<-hH1];simp only[T.get_set,bH4 hx]
 have x2:u9 H1 ie.size (.slice (some ⟨j,q,none⟩) (Nat.min 1 (n+1-at_)) cm)=some (1,news):=by
  rw[show Nat.min 1 (n+1-at_)=1 from Nat.min_eq_left (by omega),aa1 (hoH1 j hij)]
  exact hn
 have c2:=Z8 (hp:=H1) D.t22 D.ty (i:=i) (o:=o+at_*ie.size) (dl:=n+1-at_) (dc:=d8 (M-at_) 0) hgH1 x2 (.inl (by omega)) (by omega) hone'
 have hk2:Nat.max k1 (o+at_*ie.size+1*ie.size)=k1:=bP5 (by omega)
 rw[hk2]at c2;simp only[Go.Proofs.Body2.n21,bJ6,fill];refine .seq (.region (.cons rfl rfl (fun _ _=>rfl) (.nil ?_)))
 refine .seq (.region (.mv rfl rfl rfl rfl (.mv rfl rfl rfl rfl (.cons (hp1:=hp) rfl rfl (fun _ _=>s1) (.nil ?_)))))
 refine .seq (.region (.mv rfl rfl rfl rfl (.cons (v:= .int .i64 ((1:Nat):Int)) (hp1:=hp) rfl rfl (fun _ _=>D5 D.t22 _ _ _) (.asg rfl rfl rfl rfl (.nil ?_)))))
 refine .seq (.seq (.region (.mv rfl rfl rfl rfl (.cons (v:= .bool false) (hp1:=hp) rfl rfl (fun _ _=>X5 (P:=P) (ρ.t 3) (a:=1) (b:=0) (by omega)) (.nil (.condF rfl (.skip ?_)))))))
 refine .seq (.region (.mv rfl rfl rfl rfl (.cons (v:= .int .i64 n) (hp1:=hp) rfl rfl (fun _ _=>D5 D.t22 _ _ _) (.asg rfl rfl rfl rfl (.nil ?_)))))
 refine .seq (.seq (.region (.mv rfl rfl rfl rfl (.mv rfl rfl rfl rfl (.cons (v:= .bool false) (hp1:=hp) rfl rfl (fun _ _=>X5 (P:=P) (ρ.t 3) (a:=at_) (b:=n) (by omega)) (.nil (.condF rfl (.skip ?_))))))))
 refine .seq (.seq (.region (.mv rfl rfl rfl rfl (.mv rfl rfl rfl rfl (.cons (v:= .int .i64 ((n+1:Nat):Int)) (hp1:=hp) rfl rfl (fun _ _=>S3 (P:=P) (ρ.t 3) (a:=n) (b:=1) (by omega)) (.mv rfl rfl rfl rfl (.cons (v:= .complex .f64 M 0) (hp1:=hp) rfl rfl (fun _ _=>by rw[<-hM];exact aB9 D.t22 _ C9) (.cons (v:= .bool false) (hp1:=hp) rfl rfl (fun _ _=>bf5 (P:=P) (ρ.t 3) (m:=n+1) (M:=M) (up:=0) (by omega) (.inl ⟨rfl,rfl,hroom⟩)) (.nil (.condF rfl (.skip ?_)))))))))))
 refine .seq (.region (.mv rfl rfl rfl rfl (.mv rfl rfl rfl rfl (.mv rfl rfl rfl rfl (.cons (v:= .int .i64 ((n+1:Nat):Int)) (hp1:=hp) rfl rfl (fun _ _=>S3 (P:=P) (ρ.t 3) (a:=n) (b:=1) (by omega)) (.cons (hp1:=hp) rfl rfl (fun _ _=>s2) (.asg rfl rfl rfl rfl (.nil ?_))))))))
 refine .seqR (.seq (.region (.mv rfl rfl rfl rfl (.mv rfl rfl rfl rfl (.mv rfl rfl rfl rfl (.mv rfl rfl rfl rfl (.cons (v:= .int .i64 ((at_+1:Nat):Int)) (hp1:=hp) rfl rfl (fun _ _=>S3 (P:=P) (ρ.t 3) (a:=at_) (b:=1) (by omega)) (.cons (hp1:=hp) rfl rfl (fun _ _=>s3 hp hg (at_+1) (by omega)) (.cons (v:= .bool false) (hp1:=hp) rfl rfl (fun _ hc=>be1 D hc hij hgj hg (by omega)) (.cons (v:= .bool true) (hp1:=hp) rfl rfl (fun _ _=>rfl) (.nil ?_)))))))))))
 refine .condT rfl ?_;refine .seq (.drawG (by kernel_rfl) ?_)
 refine .mv rfl rfl rfl rfl (.mv rfl rfl rfl rfl (.mv rfl rfl rfl rfl (.k0 (v:= .int .i64 ((at_+1:Nat):Int)) rfl rfl rfl (fun _ _=>S3 (P:=P) (ρ.t 3) (a:=at_) (b:=1) (by omega)) (.k1 rfl rfl rfl (fun _=>s3 ⟨hp.m,hp.nx+9⟩ hg (at_+1) (by omega)) ?_))))
 refine .mv rfl rfl rfl rfl (.mv rfl rfl rfl rfl (.k1 rfl rfl rfl (fun _=>s3 ⟨hp.m,hp.nx+9⟩ hg at_ (by omega)) ?_))
 refine .k3 (v:= .int .i64 ((n-at_:Nat):Int)) (S2:=H1) rfl rfl rfl (by kernel_rfl) (fun _ _=>Z7 (u:=ρ.t 22) c1) ?_
 refine .nil ⟨by kernel_rfl,by kernel_rfl,?_⟩
 refine .seq (.region (.mv rfl rfl rfl rfl (.mv rfl rfl rfl rfl (.cons (hp1:=H1) rfl rfl (fun _ _=>s3 H1 hgH1 at_ (by omega)) (.mv rfl rfl rfl rfl (.cons rfl rfl (fun _ _=>Z7 (u:=ρ.t 22) c2) (.nil ?_)))))))
 refine .seq (.region (.mv rfl rfl rfl rfl (.asg rfl rfl rfl rfl (.nil ?_))));refine .ret ⟨rfl,?_,fun x hx=>?_,fill ct1 (o+at_*ie.size) news,k1,?_,hk1',?_⟩
 ·show hp.nx<=H1.nx
  rw[<-hH1];exact Nat.le_add_right _ _
 ·show(H1.m.set i _).get x=_
  rw[T.get_set,bH4 hx,hoH1 x hx]
 ·show(H1.m.set i _).get i=_
  rw[T.get_set,bH6 rfl]
 ·refine aH2 (Nat.le_of_lt hat) hlen hnl (fun y hy=>?_) (fun y hy=>?_) (fun y hy=>?_)
  ·rw[i8,bH4 (by omega),<-hc1,i8,bH4 (by omega)]
   exact((j7 hl).2 y (by omega)).symm
  ·rw[i8,bH6 (by omega)]
   congr 1;omega
  ·rw[i8,bH4 (by omega),<-hc1,i8,bH6 (by rw[bK6];omega),bJ3]
   congr 1;omega
theorem bo9 (D : ag4 P g ρ e ie zv) {i o n at_ j q cm : Nat} (hlo : Nat.ble (n + 1) 67108864 = true) (hat : at_ < n) (hi : i < hp.nx) (hj : j < hp.nx) {c : T Value} {k : Nat} (hg : hp.m.get i = some (.cells c k e ie.size))
  (hk:o+n*ie.size<=k) {olds news:List Value} (hl:l9 c o (n*ie.size)=some olds) (hn:u9 hp ie.size (.slice (some ⟨j,q,none⟩) 1 cm)=some (1,news)) (hnl:news.length=ie.size) (hone:olds.all Value.oneCell'=true) (hone':news.all Value.oneCell'=true):
  XT P C 95 ((Go.Proofs.Body2.n21 ρ).body.getD .skip) (fill .e 0 [.slice (some ⟨i,o,none⟩) n (d8 n (n+1)),.int .i64 at_,.slice (some ⟨j,q,none⟩) 1 cm]) hp fun tm' hp'=>
   tm'.get 6=some (.slice (some ⟨hp.nx,0,none⟩) (n+1) (d8 (n+1) 0))/\hp.nx<hp'.nx/\(∀x,x≠hp.nx->hp'.m.get x=hp.m.get x)/\
   ∃ct k',hp'.m.get hp.nx=some (.cells ct k' e ie.size)/\0+(n+1)*ie.size<=k'/\l9 ct 0 ((n+1)*ie.size)=some (olds.take (at_*ie.size)++news++olds.drop (at_*ie.size)):=by
 have hMb:n+1<=67108864:=bF8 hlo;have hlen:=(j7 hl).1;have hnn:Nat.max n n=n:=Nat.max_self n;have hup:n+1<unk:=by unfold unk;omega
 have hlon:Nat.ble (Nat.max n n) 67108864=true:=by rw[hnn];exact bG1 (by omega)
 have hMM:Nat.max (n+1) (n+1)=n+1:=Nat.max_self _;have hlo2:Nat.ble (Nat.max (n+1) (n+1)) 67108864=true:=by rw[hMM];exact hlo
 have hs:=D.sz;have m1:n*ie.size=at_*ie.size+(n-at_)*ie.size:=by rw[<-bJ0];congr 1;omega
 have m2:(at_+1)*ie.size=at_*ie.size+ie.size:=bM1 _ _;have m3:(n+1)*ie.size=n*ie.size+ie.size:=bM1 _ _;have m4:(at_+1)*ie.size<=n*ie.size:=bG7 _ hat;have s1:∀(hpx:Hp),hpx.m.get i=some (.cells c k e ie.size)->p8 P hpx (ρ.t 22) (.slice (some ⟨i,o,none⟩) n (d8 n (n+1))) (some (.int .i64 at_)) none none=some (.slice (some ⟨i,o+at_*ie.size,none⟩) (n-at_) (d8 (n-at_) (n+1-at_)),hpx):=by
  intro hpx hgx;have:=aq6 (hp:=hpx) D.t22 D.ty (i:=i) (o:=o) (n:=n) (lo:=n) (l:=at_) (h:=n) hup hlon (by rw[hnn];exact bH7 _) (Nat.le_of_lt hat) (by rw[hnn];exact hat) hgx (some (.int .i64 at_)) none (.inl rfl) (.inr ⟨rfl,rfl⟩)
  rwa[hnn]at this
 have s2:=aq6 (hp:=hp) D.t22 D.ty (i:=i) (o:=o) (n:=n) (lo:=n) (l:=0) (h:=at_) hup hlon (by rw[hnn];omega) (bP0 _) (by rw[hnn];omega) hg none (some (.int .i64 at_)) (.inr ⟨rfl,rfl⟩) (.inl rfl)
 rw[hnn]at s2;simp only[bO3,bM0,bN6]at s2;have hl0:=V4 hl (a:=0) (m:=at_*ie.size) (by omega)
 rw[bM0,bP1]at hl0;generalize hV:olds.take (at_*ie.size)++xrep (n+1-at_) zv.cells.toList=V at*;have hVl:V.length=(n+1)*ie.size:=by
  rw[<-hV,bI1,bI9,C4,D.zl,show min (at_*ie.size) olds.length=at_*ie.size by omega,<-bJ0]
  congr 1;omega
 have hapn:A8 P hp (ρ.t 22) (ρ.t 3) (.slice (some ⟨i,o,none⟩) at_ (d8 n (n+1))) (.int .i64 ((n+1-at_:Nat):Int))=none:=by unfold A8;simp only[D.t22,D.t3]
 have hap:R0 P hp (ρ.t 22) (ρ.t 3) (.slice (some ⟨i,o,none⟩) at_ (d8 n (n+1))) (.int .i64 ((n+1-at_:Nat):Int))=some (.slice (some ⟨hp.nx,0,none⟩) (n+1) (d8 (n+1) 0),hp.new V e ie.size):=by
  have e1:(cst zv&&Nat.beq zv.cells.toList.length ie.size&&Nat.ble ie.bytes 1048576&&Nat.ble 1 ie.size&&Nat.ble 1 (n+1-at_)&&Nat.ble (at_+(n+1-at_)) 67108864&&(Nat.ble unk (d8 n (n+1))&&Nat.ble 1 (B5 (d8 n (n+1)))&&Nat.ble (B5 (d8 n (n+1))) (at_+(n+1-at_))))=true:=by
   rw[D.cst,D.zl,j9 rfl,bG1 D.by_,bG1 D.sz,bG1 (show 1<=n+1-at_ by omega),show at_+(n+1-at_)=n+1 by omega,hlo,bG1 (n9 n (n+1)),E2 hup,bG1 (show 1<=n+1 by omega),bG1 (bH7 _)]
   rfl
  have e2:Nat.ble (o+at_*ie.size) k=true:=bG1 (by omega)
  have e3:at_+(n+1-at_)=n+1:=by omega
  unfold R0;simp only[D.t22,D.t3,D.ty,D.zero];show(bif _ then _ else _)=_
  rw[e1,bH1];simp only[hg,e2,bH1,hl0,e3,hV]
 generalize hH0:hp.new V e ie.size=H0 at hap;have hgH0:H0.m.get hp.nx=some (.cells (fill .e 0 V) ((n+1)*ie.size) e ie.size):=by
  rw[<-hH0];show(hp.m.set hp.nx _).get hp.nx=_;rw[T.get_set,bH6 rfl,hVl]
 have hoH0:∀x,x≠hp.nx->H0.m.get x=hp.m.get x:=fun x hx=>by
  rw[<-hH0];show(hp.m.set hp.nx _).get x=_;rw[T.get_set,bH4 hx]
 have s3:∀(hpx:Hp) {ct:T Value} {kx:Nat},hpx.m.get hp.nx=some (.cells ct kx e ie.size)-> ∀l,l<n+1->p8 P hpx (ρ.t 22) (.slice (some ⟨hp.nx,0,none⟩) (n+1) (d8 (n+1) 0)) (some (.int .i64 l)) none none=some (.slice (some ⟨hp.nx,0+l*ie.size,none⟩) (n+1-l) (d8 (n+1-l) 0),hpx):=by
  intro hpx ct kx hgx l hlt;have:=K0 (hp:=hpx) D.t22 D.ty (i:=hp.nx) (o:=0) (n:=n+1) (lo:=n+1) (l:=l) (h:=n+1) hlo2 (by rw[hMM];omega) (Nat.le_of_lt hlt) (by rw[hMM];omega) hgx (some (.int .i64 l)) none (.inl rfl) (.inr ⟨rfl,rfl⟩)
  rwa[hMM]at this
 have x1:u9 H0 ie.size (.slice (some ⟨j,q,none⟩) (Nat.min 1 (n+1-at_)) cm)=some (1,news):=by
  rw[show Nat.min 1 (n+1-at_)=1 from Nat.min_eq_left (by omega),aa1 (hoH0 j (by omega))]
  exact hn
 have c1:=Z8 (hp:=H0) D.t22 D.ty (i:=hp.nx) (o:=0+at_*ie.size) (dl:=n+1-at_) (dc:=d8 (n+1-at_) 0) hgH0 x1 (.inl (by omega)) (by omega) hone'
 have hk1:Nat.max ((n+1)*ie.size) (0+at_*ie.size+1*ie.size)=(n+1)*ie.size:=bP5 (by omega)
 rw[hk1]at c1;generalize hc1:fill (fill .e 0 V) (0+at_*ie.size) news=ct1 at c1;generalize hH1:({H0 with m:=H0.m.set hp.nx (some (.cells ct1 ((n+1)*ie.size) e ie.size))}:Hp)=H1 at c1
 have hgH1:H1.m.get hp.nx=some (.cells ct1 ((n+1)*ie.size) e ie.size):=by rw[<-hH1];simp only[T.get_set,bH6]
 have hoH1:∀x,x≠hp.nx->H1.m.get x=hp.m.get x:=fun x hx=>by rw[<-hH1];simp only[T.get_set,bH4 hx];exact hoH0 x hx
 have hv1:=V4 hl (a:=at_*ie.size) (m:=(n-at_)*ie.size) (by omega)
 rw[bK3 (by rw[bK6];omega)]at hv1
 have hdone:(olds.drop (at_*ie.size)).all Value.oneCell'=true:=by
  rw[bI4]at hone⊢;exact fun v hv=>hone v (bO1 hv)
 have x2:u9 ⟨H1.m,H1.nx+9⟩ ie.size (.slice (some ⟨i,o+at_*ie.size,none⟩) (Nat.min (n-at_) (n+1-(at_+1))) (d8 (n-at_) (n+1-at_)))=some (n-at_,olds.drop (at_*ie.size)):=by
  have hmin:Nat.min (n-at_) (n+1-(at_+1))=n-at_:=by rw[show n+1-(at_+1)=n-at_ by omega];exact Nat.min_self _
  have hble:Nat.ble (o+at_*ie.size+(n-at_)*ie.size) k=true:=bG1 (by omega)
  have hgi:H1.m.get i=some (.cells c k e ie.size):=by rw[hoH1 i (by omega)];exact hg
  simp only[u9,hgi,rdC,hmin,hble,bH1,hv1]
 have c2:=Z8 (hp:=⟨H1.m,H1.nx+9⟩) D.t22 D.ty (i:=hp.nx) (o:=0+(at_+1)*ie.size) (dl:=n+1-(at_+1)) (dc:=d8 (n+1-(at_+1)) 0) hgH1 x2 (.inl (by omega)) (by omega) hdone
 have hk2:Nat.max ((n+1)*ie.size) (0+(at_+1)*ie.size+(n-at_)*ie.size)=(n+1)*ie.size:=bP5 (by omega)
 rw[hk2]at c2;simp only[Go.Proofs.Body2.n21,bJ6,fill];refine .seq (.region (.cons rfl rfl (fun _ _=>rfl) (.nil ?_)))
 refine .seq (.region (.mv rfl rfl rfl rfl (.mv rfl rfl rfl rfl (.cons (hp1:=hp) rfl rfl (fun _ _=>s1 hp hg) (.nil ?_)))))
 refine .seq (.region (.mv rfl rfl rfl rfl (.cons (v:= .int .i64 ((1:Nat):Int)) (hp1:=hp) rfl rfl (fun _ _=>D5 D.t22 _ _ _) (.asg rfl rfl rfl rfl (.nil ?_)))))
 refine .seq (.seq (.region (.mv rfl rfl rfl rfl (.cons (v:= .bool false) (hp1:=hp) rfl rfl (fun _ _=>X5 (P:=P) (ρ.t 3) (a:=1) (b:=0) (by omega)) (.nil (.condF rfl (.skip ?_)))))))
 refine .seq (.region (.mv rfl rfl rfl rfl (.cons (v:= .int .i64 n) (hp1:=hp) rfl rfl (fun _ _=>D5 D.t22 _ _ _) (.asg rfl rfl rfl rfl (.nil ?_)))))
 refine .seq (.seq (.region (.mv rfl rfl rfl rfl (.mv rfl rfl rfl rfl (.cons (v:= .bool false) (hp1:=hp) rfl rfl (fun _ _=>X5 (P:=P) (ρ.t 3) (a:=at_) (b:=n) (by omega)) (.nil (.condF rfl (.skip ?_))))))))
 refine .seqR (.seq (.region (.mv rfl rfl rfl rfl (.mv rfl rfl rfl rfl (.cons (v:= .int .i64 ((n+1:Nat):Int)) (hp1:=hp) rfl rfl (fun _ _=>S3 (P:=P) (ρ.t 3) (a:=n) (b:=1) (by omega)) (.mv rfl rfl rfl rfl (.cons (v:= .complex .f64 n (n+1)) (hp1:=hp) rfl rfl (fun _ _=>(aB9 D.t22 _ hup).trans (by rw[hnn])) (.cons (v:= .bool true) (hp1:=hp) rfl rfl (fun _ _=>bf5 (P:=P) (ρ.t 3) (m:=n+1) (M:=n) (up:=n+1) (by omega) (.inr ⟨rfl,rfl,by omega⟩)) (.nil ?_)))))))))
 refine .condT rfl ?_;refine .seq (.region (.mv rfl rfl rfl rfl (.mv rfl rfl rfl rfl (.cons (hp1:=hp) rfl rfl (fun _ _=>s2) (.mv rfl rfl rfl rfl (.mv rfl rfl rfl rfl (.cons (v:= .int .i64 ((n+1:Nat):Int)) (hp1:=hp) rfl rfl (fun _ _=>S3 (P:=P) (ρ.t 3) (a:=n) (b:=1) (by omega)) (.mv rfl rfl rfl rfl (.cons (v:= .int .i64 ((n+1-at_:Nat):Int)) (hp1:=hp) rfl rfl (fun _ _=>bB4 (P:=P) (ρ.t 3) (a:=n+1) (b:=at_) (by omega) (by omega)) (.cons (hp1:=H0) rfl rfl (fun _ _=>bd2 hapn hap) (.asg rfl rfl rfl rfl (.nil ?_))))))))))))
 refine .seq (.region (.mv rfl rfl rfl rfl (.mv rfl rfl rfl rfl (.cons (hp1:=H0) rfl rfl (fun _ _=>s3 H0 hgH0 at_ (by omega)) (.mv rfl rfl rfl rfl (.cons (hp1:=H1) rfl rfl (fun _ _=>Z7 (u:=ρ.t 22) c1) (.nil ?_)))))))
 refine .seq (.drawG (by kernel_rfl) ?_)
 refine .mv rfl rfl rfl rfl (.mv rfl rfl rfl rfl (.mv rfl rfl rfl rfl (.k0 (v:= .int .i64 ((at_+1:Nat):Int)) rfl rfl rfl (fun _ _=>S3 (P:=P) (ρ.t 3) (a:=at_) (b:=1) (by omega)) (.k1 rfl rfl rfl (fun _=>s3 ⟨H1.m,H1.nx+9⟩ hgH1 (at_+1) (by omega)) ?_))))
 refine .mv rfl rfl rfl rfl (.mv rfl rfl rfl rfl (.k1 rfl rfl rfl (fun _=>s1 ⟨H1.m,H1.nx+9⟩ (by rw[<-hg];exact hoH1 i (by omega))) ?_))
 refine .k3 (v:= .int .i64 ((n-at_:Nat):Int)) rfl rfl rfl (by kernel_rfl) (fun _ _=>Z7 (u:=ρ.t 22) c2) ?_
 refine .nil ⟨by kernel_rfl,by kernel_rfl,?_⟩
 refine .seq (.region (.mv rfl rfl rfl rfl (.asg rfl rfl rfl rfl (.nil ?_))));refine .ret ⟨rfl,?_,fun x hx=>?_,fill ct1 (0+(at_+1)*ie.size) (olds.drop (at_*ie.size)),(n+1)*ie.size,?_,by omega,?_⟩
 ·show hp.nx<H1.nx+9
  rw[<-hH1,<-hH0];show hp.nx<hp.nx+1+9;omega
 ·show(H1.m.set hp.nx _).get x=_
  rw[T.get_set,bH4 hx,hoH1 x hx]
 ·show(H1.m.set hp.nx _).get hp.nx=_
  rw[T.get_set,bH6 rfl]
 ·have hVg : ∀ y, y < at_ * ie.size → V[y]? = olds[y]? := fun y hy => by
   rw[<-hV,bG3 (by rw[bI9];omega),bI7,bH6 hy]
  refine aH2 (Nat.le_of_lt hat) hlen hnl (fun y hy=>?_) (fun y hy=>?_) (fun y hy=>?_)
  ·rw[i8,bH4 (by omega),<-hc1,i8,bH4 (by omega),bI6,A3 V y (by omega)]
   exact hVg y hy
  ·rw[i8,bH4 (by omega),<-hc1,i8,bH6 (by omega)]
   congr 1;omega
  ·rw[i8,bH6 (by rw[bK6];omega),bJ3]
   congr 1;omega
def XF (P:Program)(C:f9->Prop)(nt:Nat)(c:Code)(tm:T Value)(hp:Hp):Prop:=∃m0,∀call,C call-> ∀m,m0<=m->i6 P (t8 P) call nt none m c tm hp []=none
theorem XF.seq1 {a b:Code}(h:XF P C nt a tm hp):XF P C nt (.seq a b) tm hp:=by
 obtain⟨m0,h⟩:=h;refine⟨m0+1,fun call hc m hm=>?_⟩
 obtain⟨j,rfl⟩:∃j,m=j+1:=⟨m-1,by omega⟩
 simp only[i6,h call hc j (by omega)]
theorem XF.seq2 {a b:Code}(h:XN P C nt a tm hp fun tm1 hp1=>XF P C nt b tm1 hp1):XF P C nt (.seq a b) tm hp:=by
 obtain⟨tm1,hp1,⟨m1,k1⟩,m2,k2⟩:=h;refine⟨max m1 m2+1,fun call hc m hm=>?_⟩
 obtain⟨j,rfl⟩:∃j,m=j+1:=⟨m-1,by omega⟩
 simp only[i6,k1 call hc j (by omega),k2 call hc j (by omega)]
def XOF (P:Program)(C:f9->Prop)(nt:Nat)(all l:List Oper)(tm:T Value)(hp:Hp):Prop:=∀call,C call->aD1 P call nt all l tm hp=none/\ah7 P call nt all l tm hp []=none
theorem XOF.cons {all rest:List Oper}{o:Oper}{v:Value}(h1:B6 nt o.dst=true)(h2:o.guard=none)(h3:aJ9 o.op=none)(h:∀call,C call->xop P call tm hp o.op=some (v,hp1))(k:XOF P C nt all rest (z6 tm o.dst v) hp1):XOF P C nt all (o::rest) tm hp:=by
 intro call hc
 constructor
 ·rw[P6,h1,bH1,h call hc]
  simp only[q9,h2,bH1];exact(k call hc).1
 ·simp only[ah7,h1,bH1,q9,h2,h3,h call hc]
  exact(k call hc).2
theorem XOF.mv {all rest:List Oper}{o:Oper}{t:Tmp}(h1:B6 nt o.dst=true)(h2:o.guard=none)(h:o.op= .move (.tmp t)){v:Value}(hv:tm.get t=some v)(k:XOF P C nt all rest (z6 tm o.dst v) hp):XOF P C nt all (o::rest) tm hp:=
 .cons h1 h2 (by rw[h];rfl) (fun _ _=>by rw[h];simp only[c8,j8,d6,f8,hv,bJ6]) k
theorem XOF.bad {all rest:List Oper}{o:Oper}(h1:B6 nt o.dst=true)(h2:o.guard=none)(h3:aJ9 o.op=none)(h:∀call,C call->xop P call tm hp o.op=none):XOF P C nt all (o::rest) tm hp:=by
 intro call hc
 constructor
 ·rw[P6,h1,bH1,h call hc]
  simp only[q9,h2,bH1]
 ·simp only[ah7,h1,bH1,q9,h2,h3,h call hc]
theorem XF.region {id:Nat}{ops:Array Oper}(h:XOF P C nt ops.toList ops.toList tm hp):XF P C nt (.region id ops false) tm hp:=
 ⟨1,fun call hc m hm=>by obtain⟨k,rfl⟩:∃k,m=k+1:=⟨m-1,by omega⟩;simp only[i6,bH2,(h call hc).1,bj0,(h call hc).2]⟩
theorem bd4 {f : FuncId} {fn : Func} {c : Code} {args : List Value} (h1 : P.funcs[f]? = some fn) (h2 : fn.body = some c) (h : XF P C (args.length + (fn.ntmps - args.length)) c (fill .e 0 args) hp) :
  ∃m0,∀call,C call-> ∀m,m0<=m-> ∀runD,W3 P (t8 P) call runD m f args hp=none:=by
 obtain⟨m0,k1⟩:=h;refine⟨m0,fun call hc m hm runD=>?_⟩
 unfold W3;simp only[h1,h2,k1 call hc m hm]
theorem bz2 (t:TypeId){m M:Nat}(hM:M<18446744073709551616)(h:M<m):f8 hp (F9 P .gtr t (.int .i64 m) (.complex .f64 M 0))=none:=by
 have e1:K5 (.int .i64 (m:Nat))=some (.i64,m,m+1):=rfl;have e2:K5 (.complex .f64 M 0)=some (.i64,M,0):=by
  simp only[K5,Q0,aQ7];rw[show Y1 M=M by unfold Y1;exact bP9 hM]
 have e3:Z5 P .gtr t (.int .i64 m) (.complex .f64 M 0)=none:=rfl;have e4:S5 (M,0) (m,m+1)=none:=by
  unfold S5;rw[j9 rfl,Bool.not_true,Bool.false_and,bH2,u6 (Nat.succ_ne_zero m),V2 (show M+1<m+1 by omega)]
  rfl
 have e5:irem .gtr (.int .i64 m) (.complex .f64 M 0)=none:=rfl;simp only[F9,e3,aW0,e1,e2,bL1,bH1,br5,e4,Option.map_none,e5,f8]
theorem bp0 (D : ag4 P g ρ e ie zv) {i o n lo at_ : Nat} {vv : Value} {j q cm : Nat} (hvv : vv = .slice (some ⟨j, q, none⟩) 1 cm) (hlo : Nat.ble (Nat.max lo n) 67108864 = true) (hroom : Nat.max lo n < n + 1) (hat : at_ < n) {c : T Value} {k : Nat} (hg : hp.m.get i = some (.cells c k e ie.size)) :
  XF P C 95 ((Go.Proofs.Body2.n21 ρ).body.getD .skip) (fill .e 0 [.slice (some ⟨i,o,none⟩) n (d8 lo 0),.int .i64 at_,vv]) hp:=by
 subst hvv;have hMb:Nat.max lo n<=67108864:=bF8 hlo;have hmx:n<=Nat.max lo n:=bM4 lo n;generalize hM:Nat.max lo n=M at*;have s1:=K0 (hp:=hp) D.t22 D.ty (i:=i) (o:=o) (n:=n) (lo:=lo) (l:=at_) (h:=n) (by rw[hM];exact hlo) (by rw[hM];omega) (Nat.le_of_lt hat) (by rw[hM];omega) hg (some (.int .i64 at_)) none (.inl rfl) (.inr ⟨rfl,rfl⟩)
 simp only[Go.Proofs.Body2.n21,bJ6,fill];refine .seq2 (.region (.cons rfl rfl (fun _ _=>rfl) (.nil ?_)))
 refine .seq2 (.region (.mv rfl rfl rfl rfl (.mv rfl rfl rfl rfl (.cons (hp1:=hp) rfl rfl (fun _ _=>s1) (.nil ?_)))))
 refine .seq2 (.region (.mv rfl rfl rfl rfl (.cons (v:= .int .i64 ((1:Nat):Int)) (hp1:=hp) rfl rfl (fun _ _=>D5 D.t22 _ _ _) (.asg rfl rfl rfl rfl (.nil ?_)))))
 refine .seq2 (.seq (.region (.mv rfl rfl rfl rfl (.cons (v:= .bool false) (hp1:=hp) rfl rfl (fun _ _=>X5 (P:=P) (ρ.t 3) (a:=1) (b:=0) (by omega)) (.nil (.condF rfl (.skip ?_)))))))
 refine .seq2 (.region (.mv rfl rfl rfl rfl (.cons (v:= .int .i64 n) (hp1:=hp) rfl rfl (fun _ _=>D5 D.t22 _ _ _) (.asg rfl rfl rfl rfl (.nil ?_)))))
 refine .seq2 (.seq (.region (.mv rfl rfl rfl rfl (.mv rfl rfl rfl rfl (.cons (v:= .bool false) (hp1:=hp) rfl rfl (fun _ _=>X5 (P:=P) (ρ.t 3) (a:=at_) (b:=n) (by omega)) (.nil (.condF rfl (.skip ?_))))))))
 refine .seq1 (.seq1 (.region (.mv rfl rfl rfl rfl (.mv rfl rfl rfl rfl (.cons (v:= .int .i64 ((n+1:Nat):Int)) (hp1:=hp) rfl rfl rfl (fun _ _=>S3 (P:=P) (ρ.t 3) (a:=n) (b:=1) (by omega)) (.mv rfl rfl rfl rfl (.cons (v:= .complex .f64 M 0) (hp1:=hp) rfl rfl rfl (fun _ _=>by rw[<-hM];exact aB9 D.t22 _ C9) (.bad rfl rfl rfl (fun _ _=>bz2 (P:=P) (ρ.t 3) (m:=n+1) (M:=M) (by omega) hroom)))))))))
structure bj3 (hp:Hp)(i:Nat)(J:Nat->Prop)(e size n:Nat)(V:List Value)(v:Value)(hp':Hp):Prop where
 ex:∃b q lo ct k,v= .slice (some ⟨b,q,none⟩) n (d8 lo 0)/\lo<=67108864/\(b=i\/hp.nx<=b)/\b<hp'.nx/\hp'.m.get b=some (.cells ct k e size)/\q+n*size<=k/\l9 ct q (n*size)=some V
 nx:hp.nx<=hp'.nx
 old:∀x,x<hp.nx->x≠i-> ¬J x->hp'.m.get x=hp.m.get x
theorem aV8 {t : TypeId} (ht : P.underlying t = some (.slice e)) (hi : P.info? e = some ie) (hz : ie.zero = some zv) (hzl : zv.cells.toList.length = ie.size) (hby : ie.bytes ≤ 1048576) {i o n lo : Nat} {x : Value} {olds news : List Value} (hlo : Nat.ble lo 67108864 = true) (hn : n + 1 ≤ 67108864)
  (hx:u9 hp ie.size x=some (1,news)) (hin:i<hp.nx) {c:T Value} {k:Nat} (hg:hp.m.get i=some (.cells c k e ie.size)) (hk:o+n*ie.size<=k) (hl:l9 c o (n*ie.size)=some olds) (hone:news.all Value.oneCell'=true) (hlen:news.length=ie.size):
  ∃v hp1,A8 P hp t t (.slice (some ⟨i,o,none⟩) n (d8 lo 0)) x=some (v,hp1)/\bj3 hp i (fun _=>False) e ie.size (n+1) (olds++news) v hp1:=by
 obtain⟨N1,hN1⟩:∃N1,N1=n+1:=⟨_,rfl⟩;rw[<-hN1]at hn⊢;have hn':Nat.ble N1 67108864=true:=bG1 hn;have hol:=(j7 hl).1;have hm2:N1*ie.size=n*ie.size+ie.size:=by rw[hN1];exact bM1 _ _
 have h1:(Nat.beq zv.cells.toList.length ie.size&&Nat.ble ie.bytes 1048576)=true:=by rw[hzl,j9 rfl,bG1 hby];rfl
 have hk2:Nat.ble (o+n*ie.size) k=true:=bG1 hk;have hll:(olds++news).length=N1*ie.size:=by rw[bI1,hol,hlen,hm2]
 cases hle:Nat.ble N1 lo with
 |true=>
  refine⟨.slice (some ⟨i,o,none⟩) N1 (d8 lo 0),{hp with m:=hp.m.set i (some (.cells (fill c (o+n*ie.size) news) (Nat.max k (o+N1*ie.size)) e ie.size))},?_,⟨i,o,lo,fill c (o+n*ie.size) news,Nat.max k (o+N1*ie.size),rfl,bF8 hlo,.inl rfl,hin,by simp only[T.get_set,bH6],bM4 _ _,?_⟩,bH7 _,fun x _ hx _=>by simp only[T.get_set,bH4 hx]⟩
  ·unfold A8
   simp only[ht,hi,hz];rw[h1,bH1,hx];simp only[hg];rw[<-hN1,hn'];simp only[hone,Bool.and_self,bH1,u6 (Nat.one_ne_zero),bH2,bG1 (n9 lo 0),M2,P2,hk2,j9,hle,P0];rw[show Nat.ble 1 0=false from rfl,Bool.false_and,bH2]
  ·rw[<-hll]
   exact B2 (fun y hy=>by
    rw[i8]
    by_cases c1:y<n*ie.size
    ·rw[bH4 (by omega),bG3 (by omega)]
     exact((j7 hl).2 y c1).symm
    ·rw[bH6 (by omega),bG2 (by omega),hol]
     congr 1;omega)
 |false=>
  have hcg:∀y,y<N1*ie.size->(bif Nat.beq o 0 then fill c (n*ie.size) news else fill (fill .e 0 olds) (n*ie.size) news).get y=(olds++news)[y]? :=by
   intro y hy;cases ho:Nat.beq o 0 with
   |true=>
    have ho:=bF9 ho;subst ho;rw[bH1,i8]
    by_cases c1:y<n*ie.size
    ·rw[bH4 (by omega),bG3 (by omega)]
     have:=(j7 hl).2 y c1;rw[bI6]at this;exact this.symm
    ·rw[bH6 (by omega),bG2 (by omega),hol]
   |false=>
    rw[bH2,i8]
    by_cases c1:y<n*ie.size
    ·rw[bH4 (by omega),bG3 (by omega),A3 olds y (by omega)]
    ·rw[bH6 (by omega),bG2 (by omega),hol]
  refine⟨.slice (some ⟨hp.nx,0,none⟩) N1 (d8 N1 0),⟨(hp.m.set i none).set hp.nx (some (.cells (bif Nat.beq o 0 then fill c (n*ie.size) news else fill (fill .e 0 olds) (n*ie.size) news) (N1*ie.size) e ie.size)),hp.nx+1⟩,?_,
   ⟨hp.nx,0,N1,_,N1*ie.size,rfl,hn,.inr (bH7 _),bL5 _,by simp only[T.get_set,bH6];rfl,by omega,?_⟩,bM9 _,fun x hx hxi _=>by simp only[T.get_set,bH4 hxi,bH4 (show x≠hp.nx by omega)]⟩
  ·unfold A8
   simp only[ht,hi,hz];rw[h1,bH1,hx];simp only[hg];rw[<-hN1,hn'];simp only[hone,Bool.and_self,bH1,u6 (Nat.one_ne_zero),bH2,bG1 (n9 lo 0),M2,P2,hk2,j9,hle,hl,T.force_eq];rw[show Nat.ble 1 0=false from rfl,Bool.false_and,bH2]
  ·rw[<-hll]
   exact B2 (fun y hy=>by rw[bI6];exact hcg y (by omega))
theorem bj3.weak {i:Nat}{J:Nat->Prop}{e size n:Nat}{V:List Value}{v:Value}{hp':Hp}(h:bj3 hp i (fun _=>False) e size n V v hp'):bj3 hp i J e size n V v hp':=
 ⟨h.ex,h.nx,fun x h1 h2 _=>h.old x h1 h2 (fun h=>h)⟩
def aF6 (P:Program)(C:f9->Prop)(g:FuncId)(args:List Value)(hp:Hp)(v:Value)(hp':Hp):Prop:=∃m0,∀call,C call-> ∀m,m0<=m-> ∀runD,at6 (W3 P (t8 P) call runD m g) args hp=some (v,hp')
theorem aF6.of {args:List Value}{v:Value}{hp':Hp}(h:∃m0,∀call,C call-> ∀m,m0<=m-> ∀runD,W3 P (t8 P) call runD m g args hp=some (v,hp')):aF6 P C g args hp v hp':=by
 obtain⟨m0,h⟩:=h;exact⟨m0,fun call hc m hm runD=>by unfold at6;rw[h call hc m hm runD]⟩
set_option maxRecDepth 2000 in
theorem bo8 (D : ag4 P g ρ e ie zv) {i o n lo at_ j q cm : Nat} (hlo : Nat.max lo n ≤ 67108864) (hn1 : n + 1 ≤ 67108864) (hat : at_ ≤ n) (hij : j ≠ i) (hi : i < hp.nx) (hj : j < hp.nx) {c cj : T Value} {k kj ej zj : Nat} (hg : hp.m.get i = some (.cells c k e ie.size)) (hgj : hp.m.get j = some (.cells cj kj ej zj))
  (hk:o+n*ie.size<=k) {olds news:List Value} (hl:l9 c o (n*ie.size)=some olds) (hn:u9 hp ie.size (.slice (some ⟨j,q,none⟩) 1 cm)=some (1,news)) (hnl:news.length=ie.size) (hone:olds.all Value.oneCell'=true) (hone':news.all Value.oneCell'=true) (hnrO:olds.all noR=true) (hnrN:news.all noR=true):
  ∃v hp',aF6 P (COv ρ) g [.slice (some ⟨i,o,none⟩) n (d8 lo 0),.int .i64 at_,.slice (some ⟨j,q,none⟩) 1 cm] hp v hp'/\bj3 hp i (fun x=>x=j) e ie.size (n+1) (olds.take (at_*ie.size)++news++olds.drop (at_*ie.size)) v hp':=by
 obtain⟨fn,f1,f2,f3,f4⟩:=D.fn;obtain⟨cd,f5⟩:∃cd,fn.body=some cd/\(Go.Proofs.Body2.n21 ρ).body.getD .skip=cd:=⟨_,f2.trans (by rfl),rfl⟩
 have hlen:=(j7 hl).1;have hlo':Nat.ble (Nat.max lo n) 67108864=true:=bG1 hlo;have hn1':Nat.ble (n+1) 67108864=true:=bG1 hn1;have hmx:n<=Nat.max lo n:=bM4 lo n
 rcases Nat.lt_or_ge at_ n with hlt|hge
 ·by_cases hroom:n+1<=Nat.max lo n
  ·
   have h:=aJ3 D hlo' hroom hlt hij hg hgj hk hl hn hnl hone hone';rw[f5.2]at h;obtain⟨v,hp',⟨tm1,rfl,q1,q2,q3,ct,k',q4,q5,q6⟩,hrun⟩:=W4 (args:=[.slice (some ⟨i,o,none⟩) n (d8 lo 0),.int .i64 at_,.slice (some ⟨j,q,none⟩) 1 cm]) f1 f5.1 f4 (by rw[f3];exact h)
   refine⟨_,_,.of hrun,⟨i,o,Nat.max lo n,ct,k',by rw[q1];rfl,hlo,.inl rfl,by omega,q4,q5,q6⟩,q2,fun x _ hx _=>q3 x hx⟩
  ·
   have hroom':Nat.max lo n<n+1:=Nat.lt_of_not_le hroom;have hfail:=bp0 (C:=COv ρ) D (at_:=at_) (vv:= .slice (some ⟨j,q,none⟩) 1 cm) rfl hlo' hroom' hlt (o:=o) hg;rw[f5.2]at hfail;obtain⟨m1,hfail⟩:=bd4 (C:=COv ρ) (args:=[.slice (some ⟨i,o,none⟩) n (d8 lo 0),.int .i64 at_,.slice (some ⟨j,q,none⟩) 1 cm]) f1 f5.1 (by rw[f3];exact hfail)
   have gi:((T.set .e i (some (.cells c k e ie.size))).set j (some (.cells cj kj ej zj)):T Blk).get i=some (.cells c k e ie.size):=by rw[T.get_set,bH4 (Ne.symm hij),T.get_set,bH6 rfl]
   have gj:((T.set .e i (some (.cells c k e ie.size))).set j (some (.cells cj kj ej zj)):T Blk).get j=some (.cells cj kj ej zj):=by rw[T.get_set,bH6 rfl]
   generalize hS:(⟨(T.set .e i (some (.cells c k e ie.size))).set j (some (.cells cj kj ej zj)),hp.nx⟩:Hp)=S at*;have gi:S.m.get i=some (.cells c k e ie.size):=by rw[<-hS];exact gi
   have gj:S.m.get j=some (.cells cj kj ej zj):=by rw[<-hS];exact gj
   have hSn:S.nx=hp.nx:=by rw[<-hS]
   have hnS:u9 S ie.size (.slice (some ⟨j,q,none⟩) 1 cm)=some (1,news):=by rw[aa1 (gj.trans hgj.symm)];exact hn
   have hA0:Nat.max (n+1) n=n+1:=bP5 (bM9 n);have hA:=aJ3 (hp:=S) D (lo:=n+1) (by rw[hA0];exact hn1') (by rw[hA0];exact bH7 _) hlt hij gi gj hk hl hnS hnl hone hone'
   have hB:=bo9 (hp:=S) (C:=COv ρ) D hn1' hlt (by rw[hSn];exact hi) (by rw[hSn];exact hj) gi hk hl hnS hnl hone hone'
   rw[f5.2]at hA hB;obtain⟨vA,hpA,⟨tmA,rfl,a1,a2,a3,cA,kA,a4,a5,a6⟩,mA,hrA⟩:=W4 (args:=[.slice (some ⟨i,o,none⟩) n (d8 (n+1) 0),.int .i64 at_,.slice (some ⟨j,q,none⟩) 1 cm]) f1 f5.1 f4 (by rw[f3];exact hA)
   obtain⟨vB,hpB,⟨tmB,rfl,b1,b2,b3,cB,kB,b4,b5,b6⟩,mB,hrB⟩:=W4 (args:=[.slice (some ⟨i,o,none⟩) n (d8 n (n+1)),.int .i64 at_,.slice (some ⟨j,q,none⟩) 1 cm]) f1 f5.1 f4 (by rw[f3];exact hB)
   rw[a1,bJ6]at hrA;rw[b1,bJ6]at hrB;generalize hV:olds.take (at_*ie.size)++news++olds.drop (at_*ie.size)=V at*;have hVl:V.length=(n+1)*ie.size:=(j7 a6).1;refine⟨.slice (some ⟨Nat.max hpA.nx hpB.nx,0,none⟩) (n+1) (d8 (n+1) 0),⟨((hp.m.set i none).set j none).set (Nat.max hpA.nx hpB.nx) (some (.cells (fill .e 0 V) ((n+1)*ie.size) e ie.size)),Nat.max hpA.nx hpB.nx+1⟩,⟨max m1 (max mA mB),fun call hc m hm runD=>?_⟩,?_⟩
   ·unfold at6
    rw[hfail call hc m (by omega) runD]
    simp only;have e0:(Nat.ble unk (d8 lo 0)&&Nat.beq (B5 (d8 lo 0)) 0&& !(Nat.beq i j)&&Nat.ble (n+1) 67108864)=true:=by
     rw[bG1 (n9 lo 0),M2,j9 rfl,u6 (Ne.symm hij),hn1'];rfl
    have e1:(Nat.beq (n+1) (n+1)&&Nat.ble unk (d8 (n+1) 0)&&Nat.ble unk (d8 (n+1) 0))=true:=by
     rw[bG1 (n9 (n+1) 0),j9 rfl];rfl
    have e2:(Nat.ble (o+(n+1)*ie.size) kA&&Nat.ble (0+(n+1)*ie.size) kB&&Nat.beq e e&&Nat.beq ie.size ie.size)=true:=by
     rw[bG1 a5,bG1 b5,j9 rfl,j9 rfl];rfl
    unfold aO6;simp only;rw[e0,bH1,hg,hgj];simp only;rw[hS,hrA call hc m (by omega) runD,hrB call hc m (by omega) runD,hA0]
    simp only;rw[e1,bH1,a4,b4];simp only;rw[e2,bH1,a6,b6];simp only;have hVr:V.all noR=true:=by
     rw[<-hV,List.all_append,List.all_append,hnrN];rw[bI4]at hnrO;simp only[bF5,bI4];exact⟨⟨fun x hx=>hnrO x (bO0 hx),trivial⟩,fun x hx=>hnrO x (bO1 hx)⟩
    rw[bj5,Bool.or_true,hVr,bQ7,bH1]
   ·have hmA:hpA.nx<=Nat.max hpA.nx hpB.nx:=Nat.le_max_left _ _
    have hmB:hpB.nx<=Nat.max hpA.nx hpB.nx:=bM4 _ _;have hx:hp.nx<=Nat.max hpA.nx hpB.nx:=by rw[<-hSn];exact bL2 a2 hmA
    refine⟨⟨Nat.max hpA.nx hpB.nx,0,n+1,fill .e 0 V,(n+1)*ie.size,rfl,hn1,.inr hx,bL5 _,by simp only[T.get_set,bH6],Nat.le_of_eq (bI6 _),?_⟩,bL2 hx (bM9 _),fun x hx1 hx2 hx3=>?_⟩
    ·rw[<-hVl]
     exact B2 (fun y hy=>by rw[bI6];exact A3 V y hy)
    ·show(T.set _ _ _:T Blk).get x=_
     rw[T.get_set,bH4 (by omega),T.get_set,bH4 hx3,T.get_set,bH4 hx2]
 ·
  have hat':at_=n:=Nat.le_antisymm hat hge;subst hat';obtain⟨v0,h1,_,_⟩:=at9 (hp:=hp) D.t22 D.ty hlo' (bH7 at_) hg hk hl;obtain⟨r,hp1,h2,h3⟩:=aV8 D.t22 D.ty D.zero D.zl D.by_ (bG1 (bL2 (Nat.le_max_left lo at_) hlo)) hn1 hn hi hg hk hl hone' hnl;have h:=aW8 (C:=COv ρ) D (h1 hp.nx) h2;rw[f5.2]at h;obtain⟨v,hp',⟨tm1,rfl,q1,rfl⟩,hrun⟩:=W4 (args:=[.slice (some ⟨i,o,none⟩) at_ (d8 lo 0),.int .i64 at_,.slice (some ⟨j,q,none⟩) 1 cm]) f1 f5.1 f4 (by rw[f3];exact h)
  rw[q1,bJ6]at hrun;refine⟨r,_,.of hrun,?_⟩;rw[bK3 (Nat.le_of_eq hlen),List.drop_eq_nil_of_le (Nat.le_of_eq hlen),bO4];exact h3.weak
theorem by4 (D : ag4 P g ρ e ie zv) {j q cm : Nat} {news : List Value} (hn : u9 hp ie.size (.slice (some ⟨j, q, none⟩) 1 cm) = some (1, news)) :
  ∃v hp',aF6 P C g [.slice none 0 0,.int .i64 ((0:Nat):Int),.slice (some ⟨j,q,none⟩) 1 cm] hp v hp'/\v= .slice (some ⟨hp.nx,0,none⟩) 1 (d8 1 0)/\hp'=hp.new news e ie.size:=by
 obtain⟨fn,f1,f2,f3,f4⟩:=D.fn;obtain⟨cd,f5⟩:∃cd,fn.body=some cd/\(Go.Proofs.Body2.n21 ρ).body.getD .skip=cd:=⟨_,f2.trans (by rfl),rfl⟩
 have h1:p8 P hp (ρ.t 22) (.slice none 0 0) (some (.int .i64 ((0:Nat):Int))) none none=some (.slice none 0 0,hp):=by
  have hb:v7 0 0 (some (.int .i64 ((0:Nat):Int))) none none=some (0,0,none):=by simp only[v7,G0 (bH7 0)]
  unfold p8;simp only[D.t22,D.ty];rw[j9 rfl,hb];rfl
 have h2:A8 P hp (ρ.t 22) (ρ.t 22) (.slice none 0 0) (.slice (some ⟨j,q,none⟩) 1 cm)=some (.slice (some ⟨hp.nx,0,none⟩) 1 (d8 1 0),hp.new news e ie.size):=by
  have e1:(Nat.beq zv.cells.toList.length ie.size&&Nat.ble ie.bytes 1048576)=true:=by rw[D.zl,j9 rfl,bG1 D.by_];rfl
  have e2:(Nat.beq 0 0&&Nat.beq 0 0&&Nat.ble 1 67108864)=true:=by rw[j9 rfl,bG1 (by omega)];rfl
  unfold A8;simp only[D.t22,D.ty,D.zero];rw[e1,bH1,hn];simp only;rw[e2,bH1,u6 Nat.one_ne_zero,bH2]
 have h:=aW8 (C:=C) D h1 h2;rw[f5.2]at h;obtain⟨v,hp',⟨tm1,rfl,q1,rfl⟩,hrun⟩:=W4 (args:=[.slice none 0 0,.int .i64 ((0:Nat):Int),.slice (some ⟨j,q,none⟩) 1 cm]) f1 f5.1 f4 (by rw[f3];exact h)
 rw[q1,bJ6]at hrun;exact⟨_,_,.of hrun,rfl,rfl⟩
theorem bo6 (D : be7 P g ρ e ie zv) {i o n lo a b : Nat} (hlo : Nat.max lo n ≤ 67108864) (hab : a < b) (hbn : b ≤ n) (hi : i < hp.nx) {c : T Value} {k : Nat} (hg : hp.m.get i = some (.cells c k e ie.size)) (hk : o + n * ie.size ≤ k)
  {olds:List Value} (hl:l9 c o (n*ie.size)=some olds) (hone:olds.all Value.oneCell'=true):
  ∃v hp',aF6 P C g [.slice (some ⟨i,o,none⟩) n (d8 lo 0),.int .i64 a,.int .i64 b] hp v hp'/\bj3 hp i (fun _=>False) e ie.size (a+(n-b)) (olds.take (a*ie.size)++olds.drop (b*ie.size)) v hp':=by
 obtain⟨fn,f1,f2,f3,f4⟩:=D.fn;obtain⟨cd,f5⟩:∃cd,fn.body=some cd/\(Go.Proofs.Body2.n23 ρ).body.getD .skip=cd:=⟨_,f2.trans (by rfl),rfl⟩
 have h:=by2 (C:=C) D (bG1 hlo) hab hbn hg hk hl hone;rw[f5.2]at h;obtain⟨v,hp',⟨tm1,rfl,q1,q2,q3,ct,q4,q5⟩,hrun⟩:=W4 (args:=[.slice (some ⟨i,o,none⟩) n (d8 lo 0),.int .i64 a,.int .i64 b]) f1 f5.1 f4 (by rw[f3];exact h)
 refine⟨_,_,.of hrun,⟨i,o,Nat.max lo n,ct,k,by rw[q1];rfl,hlo,.inl rfl,by omega,q4,?_,q5⟩,q2,fun x _ hx _=>q3 x hx⟩
 have:(a+(n-b))*ie.size<=n*ie.size:=bG7 _ (by omega)
 omega
end
end Go.Xe
end PartXm422
