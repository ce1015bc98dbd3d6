/- The executor: Delete and Insert, parts 22.
  Conditions: none. -/
import Derived.Test.YtcjhhnoaoldcmaaSm3
import Derived.Shelf.Bodies2
import Derived.KernelRfl
set_option linter.unusedSimpArgs false
set_option linter.unusedVariables false
noncomputable section PartXm422
namespace Go.Xe
open Go.RowKit
structure DelFn (P:Program)(g:FuncId)(ρ:Go.Shelf.Ren)(e:TypeId)(ie:TypeInfo)(zv:Value):Prop where
 fn:∃fn,P.funcs[g]? =some fn/\fn.body=(Go.Proofs.Body2.n23 ρ).body/\fn.ntmps=33/\fn.results= #[.tmp 6]
 t22:P.underlying (ρ.t 22)=some (.slice e)
 ty:P.info? e=some ie
 zero:ie.zero=some zv
 cst:cst zv=true
 zl:zv.cells.toList.length=ie.size
 one:zv.cells.toList.all Value.oneCell'=true
 by_:ie.bytes<=1048576
section
variable {P :Program}{g:FuncId}{ρ:Go.Shelf.Ren}{e:TypeId}{ie:TypeInfo}{zv:Value}{call:c8}{runD:FuncId->List Value->Hp->Option (Value×Hp)}{hp:Hp}
theorem X6 {a b:Nat}(h:b<a):Nat.ble a b=false:=by
 cases e:Nat.ble a b with
 |false=>rfl
 |true=>simp_all;omega
def XS (P:Program)(C:c8->Prop)(nt:Nat)(c:Code)(tm:T Value)(hp:Hp)(r:XR):Prop:=∃m0,∀call,C call-> ∀m,m0<=m->d7 P (i8 P) call nt none m c tm hp []=some r
variable {C :c8->Prop}{nt:Nat}{tm tm1:T Value}{hp1:Hp}{r:XR}
theorem XS.ret :XS P C nt .ret tm hp (.mk .ret tm hp []):=⟨1,fun _ _ m hm=>by obtain⟨k,rfl⟩:∃k,m=k+1:=⟨m-1,by omega⟩;rfl⟩
theorem XS.skip :XS P C nt .skip tm hp (.mk .normal tm hp []):=⟨1,fun _ _ m hm=>by obtain⟨k,rfl⟩:∃k,m=k+1:=⟨m-1,by omega⟩;rfl⟩
variable {id:Nat}{ops:Array Oper}
theorem XS.region (h:∀call,C call->ap1 P call nt ops.toList ops.toList tm hp=some (tm1,hp1)):XS P C nt (.region id ops false) tm hp (.mk .normal tm1 hp1 []):=
 ⟨1,fun call hc m hm=>by obtain⟨k,rfl⟩:∃k,m=k+1:=⟨m-1,by omega⟩;simp only[d7,bB9,h call hc]⟩
theorem XS.draw (h:∀call,C call->i8 P call nt ops.toList tm hp=some (tm1,hp1)):XS P C nt (.region id ops true) tm hp (.mk .normal tm1 hp1 []):=
 ⟨1,fun call hc m hm=>by obtain⟨k,rfl⟩:∃k,m=k+1:=⟨m-1,by omega⟩;simp only[d7,bB8,h call hc]⟩
variable {a b:Code}
theorem XS.seq (h:XS P C nt a tm hp (.mk .normal tm1 hp1 []))(k:XS P C nt b tm1 hp1 r):XS P C nt (.seq a b) tm hp r:=by
 obtain⟨d,h⟩:=h;obtain⟨f,k⟩:=k;refine⟨max d f+1,fun call hc m hm=>?_⟩
 obtain⟨j,rfl⟩:∃j,m=j+1:=⟨m-1,by omega⟩
 simp only[d7,h call hc j (by omega),k call hc j (by omega)]
variable {c:Operand}
theorem XS.condT (hc:a8 tm c=some (.bool true))(h:XS P C nt a tm hp r):XS P C nt (.cond c a b) tm hp r:=by
 obtain⟨f,h⟩:=h;refine⟨f+1,fun call d m hm=>?_⟩
 obtain⟨j,rfl⟩:∃j,m=j+1:=⟨m-1,by omega⟩
 simp only[d7,hc,h call d j (by omega)]
theorem XS.condF (hc:a8 tm c=some (.bool false))(h:XS P C nt b tm hp r):XS P C nt (.cond c a b) tm hp r:=by
 obtain⟨f,h⟩:=h;refine⟨f+1,fun call d m hm=>?_⟩
 obtain⟨j,rfl⟩:∃j,m=j+1:=⟨m-1,by omega⟩
 simp only[d7,hc,h call d j (by omega)]
def XN (P:Program)(C:c8->Prop)(nt:Nat)(c:Code)(tm:T Value)(hp:Hp)(Q:T Value->Hp->Prop):Prop:=∃tm1 hp1,XS P C nt c tm hp (.mk .normal tm1 hp1 [])/\Q tm1 hp1
def XT (P:Program)(C:c8->Prop)(nt:Nat)(c:Code)(tm:T Value)(hp:Hp)(Q:T Value->Hp->Prop):Prop:=∃tm1 hp1,XS P C nt c tm hp (.mk .ret tm1 hp1 [])/\Q tm1 hp1
def XO (P:Program)(C:c8->Prop)(nt:Nat)(all l:List Oper)(tm:T Value)(hp:Hp)(Q:T Value->Hp->Prop):Prop:=∃tm1 hp1,(∀call,C call->ap1 P call nt all l tm hp=some (tm1,hp1))/\Q tm1 hp1
variable {Q :T Value->Hp->Prop}
theorem XT.ret (h:Q tm hp):XT P C nt .ret tm hp Q:=⟨_,_,XS.ret,h⟩
theorem XN.skip (h:Q tm hp):XN P C nt .skip tm hp Q:=⟨_,_,XS.skip,h⟩
theorem XN.seq (h:XN P C nt a tm hp fun tm1 hp1=>XN P C nt b tm1 hp1 Q):XN P C nt (.seq a b) tm hp Q:=by
 obtain⟨t1,h1,k1,t2,h2,k2,k3⟩:=h;exact⟨t2,h2,k1.seq k2,k3⟩
theorem XT.seq (h:XN P C nt a tm hp fun tm1 hp1=>XT P C nt b tm1 hp1 Q):XT P C nt (.seq a b) tm hp Q:=by
 obtain⟨t1,h1,k1,t2,h2,k2,k3⟩:=h;exact⟨t2,h2,k1.seq k2,k3⟩
theorem XN.condF (hc:a8 tm c=some (.bool false))(h:XN P C nt b tm hp Q):XN P C nt (.cond c a b) tm hp Q:=by obtain⟨t1,h1,k1,k2⟩:=h;exact⟨t1,h1,k1.condF hc,k2⟩
theorem XT.condT (hc:a8 tm c=some (.bool true))(h:XT P C nt a tm hp Q):XT P C nt (.cond c a b) tm hp Q:=by obtain⟨t1,h1,k1,k2⟩:=h;exact⟨t1,h1,k1.condT hc,k2⟩
theorem XN.region (h:XO P C nt ops.toList ops.toList tm hp Q):XN P C nt (.region id ops false) tm hp Q:=by
 obtain⟨t1,h1,k1,k2⟩:=h;exact⟨t1,h1,.region k1,k2⟩
theorem XO.nil {all:List Oper}(h:Q tm hp):XO P C nt all [] tm hp Q:=⟨_,_,fun _ _=>ac1,h⟩
theorem XO.cons {all rest:List Oper}{o:Oper}{v:Value}(h1:l5 nt o.dst=true)(h2:o.guard=none)(h:∀call,C call->xop P call tm hp o.op=some (v,hp1))(k:XO P C nt all rest (j2 tm o.dst v) hp1 Q):XO P C nt all (o::rest) tm hp Q:=by
 obtain⟨t1,d,k1,k2⟩:=k;refine⟨t1,d,fun call hc=>?_,k2⟩
 rw[H1,h1,bB8,h call hc];simp only[f8,h2,bB8]
 grind
variable {t:Tmp}
theorem XO.mv {all rest:List Oper}{o:Oper}(h1:l5 nt o.dst=true)(h2:o.guard=none)(h:o.op= .move (.tmp t)){v:Value}(d:tm.get t=some v)(k:XO P C nt all rest (j2 tm o.dst v) hp Q):XO P C nt all (o::rest) tm hp Q:=
 .cons h1 h2 (fun _ _=>by rw[h];simp only[a9,d9,a8,d8,d,bE3]) k
theorem aZ4 {t:TypeId}(ht:P.underlying t=some (.slice e))(a:Option Addr)(n c:Nat):Q3 hp P t (.slice a n c)=some (.int .i64 n):=by
 unfold Q3 at2;simp only[ht]
def XG (P:Program)(C:c8->Prop)(nt:Nat)(all:List Oper)(nx0:Nat)(l:List (Oper×Nat))(i:Nat)(tm:T Value)(S:Hp)(I:Nat)(es:List Ent)(Q:Out->Prop):Prop:=∃out,(∀call,C call->xgo P call nt all nx0 l i tm S I es=some out)/\Q out
variable {all :List Oper}{nx0:Nat}{rest:List (Oper×Nat)}{o:Oper}{pre ix I:Nat}{S S2:Hp}{es:List Ent}{QO:Out->Prop}{v:Value}
theorem XG.nil (h:QO ⟨tm,S,I,es⟩):XG P C nt all nx0 [] ix tm S I es QO:=⟨_,fun _ _=>rfl,h⟩
theorem XG.k0 (h1:l5 nt o.dst=true)(h2:o.guard=none)(h3:c6 o.op=0)(h:∀call,C call->xop P call tm S o.op=some (v,S))(k:XG P C nt all nx0 rest (ix+1) (j2 tm o.dst v) S I (⟨ix,o,pre,tm,S,S,I,true,v,none⟩::es) QO):XG P C nt all nx0 ((o,pre)::rest) ix tm S I es QO:=by
 obtain⟨d,k1,k2⟩:=k;refine⟨d,fun call hc=>?_,k2⟩
 unfold xgo;rw[h1,bB8];simp only[f8,h2,bB8,h3,h call hc]
 grind
theorem XG.k1 (h1:l5 nt o.dst=true)(h2:o.guard=none)(h3:c6 o.op=1)(h:∀call,xop P call tm S o.op=some (v,S))(k:XG P C nt all nx0 rest (ix+1) (j2 tm o.dst v) S I (⟨ix,o,pre,tm,S,S,I,true,v,none⟩::es) QO):XG P C nt all nx0 ((o,pre)::rest) ix tm S I es QO:=by
 obtain⟨d,k1,k2⟩:=k;refine⟨d,fun call hc=>?_,k2⟩
 unfold xgo;rw[h1,bB8];have:xrd P tm S o.op=some v:=by
  unfold xrd
  simp_all
 simp only[f8,h2,bB8,h3,this]
 grind
theorem XG.k3 (h1:l5 nt o.dst=true)(h2:o.guard=none)(h3:c6 o.op=3)(ht:takes nx0 (ae3 pre I) es S=S)(h:∀call,C call->xop P call tm S o.op=some (v,S2))(k:XG P C nt all nx0 rest (ix+1) (j2 tm o.dst v) S2 (I|||pre) (⟨ix,o,pre,tm,S,S2,I,true,v,none⟩::es) QO):XG P C nt all nx0 ((o,pre)::rest) ix tm S I es QO:=by
 obtain⟨d,k1,k2⟩:=k;refine⟨d,fun call hc=>?_,k2⟩
 unfold xgo;rw[h1,bB8];simp only[f8,h2,bB8,h3,ht,h call hc];exact k1 call hc
theorem XG.mv (h1:l5 nt o.dst=true)(h2:o.guard=none)(h3:o.op= .move (.tmp t))(d:tm.get t=some v)(k:XG P C nt all nx0 rest (ix+1) (j2 tm o.dst v) S I (⟨ix,o,pre,tm,S,S,I,true,v,none⟩::es) QO):XG P C nt all nx0 ((o,pre)::rest) ix tm S I es QO:=
 .k0 h1 h2 (by rw[h3];rfl) (fun _ _=>by rw[h3];simp only[a9,d9,a8,d8,d,bE3]) k
theorem XN.drawG   (  f : stat ops.toList (p9 ops.toList []) = true)
  (h:XG P C nt ops.toList hp.nx (ops.toList.zip (p9 ops.toList [])) 0 tm ⟨hp.m,hp.nx+ops.toList.length⟩ 0 [] fun d=>dyn P ⟨hp.m,hp.nx+ops.toList.length⟩ d.es=true/\takes hp.nx (ab0 d.I) d.es d.S=d.S/\Q d.tm d.S):XN P C nt (.region id ops true) tm hp Q:=by
 obtain⟨d,h1,h2,h3,h4⟩:=h;refine⟨d.tm,d.S,.draw fun call hc=>?_,h4⟩
 have:F8 P call nt ops.toList tm hp=some (d.tm,d.S):=by
  unfold F8
  grind
 unfold i8
 grind
structure InsFn (P:Program)(g:FuncId)(ρ:Go.Shelf.Ren)(e:TypeId)(ie:TypeInfo)(zv:Value):Prop where
 fn:∃fn,P.funcs[g]? =some fn/\fn.body=(Go.Proofs.Body2.n21 ρ).body/\fn.ntmps=95/\fn.results= #[.tmp 6]
 t22:P.underlying (ρ.t 22)=some (.slice e)
 t3:P.underlying (ρ.t 3)=some (.int .i64)
 ty:P.info? e=some ie
 zero:ie.zero=some zv
 cst:cst zv=true
 zl:zv.cells.toList.length=ie.size
 sz:1<=ie.size
 by_:ie.bytes<=1048576
 fo:∃fo,P.funcs[ρ.f 27]? =some fo/\O7 fo=false
 nT:Nat.beq (ρ.t 22) af4=false
def XF (P:Program)(C:c8->Prop)(nt:Nat)(c:Code)(tm:T Value)(hp:Hp):Prop:=∃m0,∀call,C call-> ∀m,m0<=m->d7 P (i8 P) call nt none m c tm hp []=none
def XOF (P:Program)(C:c8->Prop)(nt:Nat)(all l:List Oper)(tm:T Value)(hp:Hp):Prop:=∀call,C call->ap1 P call nt all l tm hp=none/\Q5 P call nt all l tm hp []=none
theorem XOF.cons {all rest:List Oper}{o:Oper}{v:Value}(h1:l5 nt o.dst=true)(h2:o.guard=none)(h3:aH7 o.op=none)(h:∀call,C call->xop P call tm hp o.op=some (v,hp1))(k:XOF P C nt all rest (j2 tm o.dst v) hp1):XOF P C nt all (o::rest) tm hp:=by
 intro call hc
 constructor
 ·rw[H1,h1,bB8,h call hc]
  simp only[f8,h2,bB8];exact(k call hc).1
 ·simp only[Q5,h1,bB8,f8,h2,h3,h call hc]
  exact(k call hc).2
theorem XOF.mv {all rest:List Oper}{o:Oper}(h1:l5 nt o.dst=true)(h2:o.guard=none)(h:o.op= .move (.tmp t)){v:Value}(d:tm.get t=some v)(k:XOF P C nt all rest (j2 tm o.dst v) hp):XOF P C nt all (o::rest) tm hp:=
 .cons h1 h2 (by rw[h];rfl) (fun _ _=>by rw[h];simp only[a9,d9,a8,d8,d,bE3]) k
theorem XOF.bad {all rest:List Oper}{o:Oper}(h1:l5 nt o.dst=true)(h2:o.guard=none)(h3:aH7 o.op=none)(h:∀call,C call->xop P call tm hp o.op=none):XOF P C nt all (o::rest) tm hp:=by
 intro call hc
 constructor
 ·rw[H1,h1,bB8,h call hc]
  simp only[f8,h2,bB8]
 ·simp only[Q5,h1,bB8,f8,h2,h3,h call hc]
theorem XF.region (h:XOF P C nt ops.toList ops.toList tm hp):XF P C nt (.region id ops false) tm hp:=
 ⟨1,fun call hc m hm=>by obtain⟨k,rfl⟩:∃k,m=k+1:=⟨m-1,by omega⟩;simp only[d7,bB9,(h call hc).1,aT4,(h call hc).2]⟩
structure NewL (hp:Hp)(i:Nat)(J:Nat->Prop)(e size n:Nat)(V:List Value)(v:Value)(hp':Hp):Prop where
 ex:∃b q lo ct k,v= .slice (some ⟨b,q,none⟩) n (g9 lo 0)/\lo<=67108864/\(b=i\/hp.nx<=b)/\b<hp'.nx/\hp'.m.get b=some (.cells ct k e size)/\q+n*size<=k/\f9 ct q (n*size)=some V
 nx:hp.nx<=hp'.nx
 old:∀x,x<hp.nx->x≠i-> ¬J x->hp'.m.get x=hp.m.get x
theorem NewL.weak {i:Nat}{J:Nat->Prop}{e size n:Nat}{V:List Value}{v:Value}{hp':Hp}(h:NewL hp i (fun _=>False) e size n V v hp'):NewL hp i J e size n V v hp':=
 ⟨h.ex,h.nx,fun x h1 h2 _=>h.old x h1 h2 (fun h=>h)⟩
def bw9 (P:Program)(C:c8->Prop)(g:FuncId)(args:List Value)(hp:Hp)(v:Value)(hp':Hp):Prop:=∃m0,∀call,C call-> ∀m,m0<=m-> ∀runD,ar8 (ab6 P (i8 P) call runD m g) args hp=some (v,hp')
theorem bw9.of {args:List Value}{v:Value}{hp':Hp}(h:∃d,∀call,C call-> ∀m,d<=m-> ∀runD,ab6 P (i8 P) call runD m g args hp=some (v,hp')):bw9 P C g args hp v hp':=by
 obtain⟨d,h⟩:=h;exact⟨d,fun call hc m hm runD=>by unfold ar8;rw[h call hc m hm runD]⟩
end
end Go.Xe
end PartXm422
