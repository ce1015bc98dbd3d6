/- The executor: Delete and Insert, parts 22.
  Conditions: none. -/
import Derived.Test.YtcjhhnoaoldcmaaGreatSm3
import Derived.Shelf.Bodies2
import Derived.KernelRfl
set_option linter.unusedSimpArgs false
set_option linter.unusedVariables false
noncomputable section PartXm422
namespace Go.Xe
open Go.RowKit
structure aO0 (P:Program)(g:FuncId)(ρ:Go.Shelf.Ren)(e:TypeId)(ie:TypeInfo)(zv:Value):Prop where
 fn:∃fn,P.funcs[g]? =some fn/\fn.body=(Go.Proofs.Body2.n23 ρ).body/\fn.ntmps=33/\fn.results= #[.tmp 6]
 t22:P.underlying (ρ.t 22)=some (.slice e)
 ty:P.info? e=some ie
 zero:ie.zero=some zv
 cst:cst zv=true
 zl:zv.cells.toList.length=ie.size
 one:zv.cells.toList.all Value.oneCell'=true
 by_:ie.bytes<=1048576
section
variable {P :Program}{g:FuncId}{ρ:Go.Shelf.Ren}{e:TypeId}{ie:TypeInfo}{zv:Value}{call:d8}{runD:FuncId->List Value->Hp->Option (Value×Hp)}{hp:Hp}
theorem N5 (lo:Nat):F7 (c7 lo 0)=lo:=D4 B0
theorem J8 (lo:Nat):z7 (c7 lo 0)=0:=C5 B0
theorem S8 {a b:Nat}(h:b<a):Nat.ble a b=false:=by
 cases e:Nat.ble a b with
 |false=>rfl
 |true=>simp_all;omega
variable {m:Nat}
theorem D8 {v:Nat}(h:v<=m):C4 (.int .i64 v) m=some v:=by
 simp only[C4]
 grind
variable {e' i k lo n up:Nat}{c:T Value}
theorem aq5 {t : TypeId} (ht : P.underlying t = some (.slice e)) (hi : P.info? e = some ie) {o l h:Nat} (  d : up < unk) (  u : Nat.ble (Nat.max lo n) 67108864 = true) (hh : h ≤ Nat.max lo n) (hl : l ≤ h) (hlt : l < Nat.max lo n)   ( A : hp.m.get i = some (.cells c k e' ie.size)) ( s  p : Option Value)
  (z:s=some (.int .i64 l)\/(s=none/\l=0)) (w:p=some (.int .i64 h)\/(p=none/\h=n)):
  j6 P hp t (.slice (some ⟨i,o,none⟩) n (c7 lo up)) s p none=some (.slice (some ⟨i,o+l*ie.size,none⟩) (h-l) (c7 (Nat.max lo n-l) (up-l)),hp):=by
 have hb:n9 n (Nat.max lo n) s p none=some (l,h,none):=by
  rcases w with rfl| ⟨rfl,rfl⟩<;>rcases z with rfl| ⟨rfl,rfl⟩<;>simp only[n9,Option.getD_none,D8 hh,D8 hl]
 unfold j6;simp only[ht,hi,D4 d,C5 d,bF8 (j4 lo up),bG8];rw[u,bG8,hb];simp only
 by_cases h0:l=0
 ·simp_all
 ·rw[m8 h0,bG9,m8 (by omega),bG9,A]
  simp_all
theorem H8 {t : TypeId} (ht : P.underlying t = some (.slice e)) (hi : P.info? e = some ie) {o l h:Nat} (  s : Nat.ble (Nat.max lo n) 67108864 = true) (hh : h ≤ Nat.max lo n) (hl : l ≤ h) (hlt : l < Nat.max lo n)   ( z : hp.m.get i = some (.cells c k e' ie.size)) ( p  d : Option Value)
  (w:p=some (.int .i64 l)\/(p=none/\l=0)) (u:d=some (.int .i64 h)\/(d=none/\h=n)):
  j6 P hp t (.slice (some ⟨i,o,none⟩) n (c7 lo 0)) p d none=some (.slice (some ⟨i,o+l*ie.size,none⟩) (h-l) (c7 (Nat.max lo n-l) 0),hp):=by
 have:=aq5 (hp:=hp) ht hi (o:=o) B0 s hh hl hlt z p d w u
 grind
def XS (P:Program)(C:d8->Prop)(nt:Nat)(c:Code)(tm:T Value)(hp:Hp)(r:XR):Prop:=∃m0,∀call,C call-> ∀m,m0<=m->f6 P (l8 P) call nt none m c tm hp []=some r
variable {C :d8->Prop}{nt:Nat}{tm tm1:T Value}{hp1:Hp}{r:XR}
theorem XS.ret :XS P C nt .ret tm hp (.mk .ret tm hp []):=⟨1,fun _ _ m hm=>by obtain⟨k,rfl⟩:∃k,m=k+1:=⟨m-1,by omega⟩;rfl⟩
theorem XS.skip :XS P C nt .skip tm hp (.mk .normal tm hp []):=⟨1,fun _ _ m hm=>by obtain⟨k,rfl⟩:∃k,m=k+1:=⟨m-1,by omega⟩;rfl⟩
variable {id:Nat}{ops:Array Oper}
theorem XS.region (h:∀call,C call->aC6 P call nt ops.toList ops.toList tm hp=some (tm1,hp1)):XS P C nt (.region id ops false) tm hp (.mk .normal tm1 hp1 []):=
 ⟨1,fun call hc m hm=>by obtain⟨k,rfl⟩:∃k,m=k+1:=⟨m-1,by omega⟩;simp only[f6,bG9,h call hc]⟩
theorem XS.draw (h:∀call,C call->l8 P call nt ops.toList tm hp=some (tm1,hp1)):XS P C nt (.region id ops true) tm hp (.mk .normal tm1 hp1 []):=
 ⟨1,fun call hc m hm=>by obtain⟨k,rfl⟩:∃k,m=k+1:=⟨m-1,by omega⟩;simp only[f6,bG8,h call hc]⟩
variable {a b:Code}
theorem XS.seq (h:XS P C nt a tm hp (.mk .normal tm1 hp1 []))(k:XS P C nt b tm1 hp1 r):XS P C nt (.seq a b) tm hp r:=by
 obtain⟨d,h⟩:=h;obtain⟨l,k⟩:=k;refine⟨max d l+1,fun call hc m hm=>?_⟩
 obtain⟨j,rfl⟩:∃j,m=j+1:=⟨m-1,by omega⟩
 simp only[f6,h call hc j (by omega),k call hc j (by omega)]
theorem XS.seqR (h:XS P C nt a tm hp (.mk .ret tm1 hp1 [])):XS P C nt (.seq a b) tm hp (.mk .ret tm1 hp1 []):=by
 obtain⟨d,h⟩:=h;refine⟨d+1,fun call hc m hm=>?_⟩
 obtain⟨j,rfl⟩:∃j,m=j+1:=⟨m-1,by omega⟩
 simp only[f6,h call hc j (by omega)]
theorem XS.condT {c:Operand}(hc:a9 tm c=some (.bool true))(h:XS P C nt a tm hp r):XS P C nt (.cond c a b) tm hp r:=by
 obtain⟨l,h⟩:=h;refine⟨l+1,fun call d m hm=>?_⟩
 obtain⟨j,rfl⟩:∃j,m=j+1:=⟨m-1,by omega⟩
 simp only[f6,hc,h call d j (by omega)]
theorem XS.condF {c:Operand}(hc:a9 tm c=some (.bool false))(h:XS P C nt b tm hp r):XS P C nt (.cond c a b) tm hp r:=by
 obtain⟨l,h⟩:=h;refine⟨l+1,fun call d m hm=>?_⟩
 obtain⟨j,rfl⟩:∃j,m=j+1:=⟨m-1,by omega⟩
 simp only[f6,hc,h call d j (by omega)]
def XN (P:Program)(C:d8->Prop)(nt:Nat)(c:Code)(tm:T Value)(hp:Hp)(Q:T Value->Hp->Prop):Prop:=∃tm1 hp1,XS P C nt c tm hp (.mk .normal tm1 hp1 [])/\Q tm1 hp1
def XT (P:Program)(C:d8->Prop)(nt:Nat)(c:Code)(tm:T Value)(hp:Hp)(Q:T Value->Hp->Prop):Prop:=∃tm1 hp1,XS P C nt c tm hp (.mk .ret tm1 hp1 [])/\Q tm1 hp1
def XO (P:Program)(C:d8->Prop)(nt:Nat)(all l:List Oper)(tm:T Value)(hp:Hp)(Q:T Value->Hp->Prop):Prop:=∃tm1 hp1,(∀call,C call->aC6 P call nt all l tm hp=some (tm1,hp1))/\Q tm1 hp1
variable {Q :T Value->Hp->Prop}
theorem XT.ret (h:Q tm hp):XT P C nt .ret tm hp Q:=⟨_,_,XS.ret,h⟩
theorem XN.skip (h:Q tm hp):XN P C nt .skip tm hp Q:=⟨_,_,XS.skip,h⟩
theorem XN.seq (h:XN P C nt a tm hp fun tm1 hp1=>XN P C nt b tm1 hp1 Q):XN P C nt (.seq a b) tm hp Q:=by
 obtain⟨t1,h1,k1,t2,h2,k2,k3⟩:=h;exact⟨t2,h2,k1.seq k2,k3⟩
theorem XT.seq (h:XN P C nt a tm hp fun tm1 hp1=>XT P C nt b tm1 hp1 Q):XT P C nt (.seq a b) tm hp Q:=by
 obtain⟨t1,h1,k1,t2,h2,k2,k3⟩:=h;exact⟨t2,h2,k1.seq k2,k3⟩
theorem XT.seqR (h:XT P C nt a tm hp Q):XT P C nt (.seq a b) tm hp Q:=by
 obtain⟨t1,h1,k1,k2⟩:=h;exact⟨t1,h1,k1.seqR,k2⟩
theorem XN.condF {c:Operand}(hc:a9 tm c=some (.bool false))(h:XN P C nt b tm hp Q):XN P C nt (.cond c a b) tm hp Q:=by obtain⟨t1,h1,k1,k2⟩:=h;exact⟨t1,h1,k1.condF hc,k2⟩
theorem XT.condT {c:Operand}(hc:a9 tm c=some (.bool true))(h:XT P C nt a tm hp Q):XT P C nt (.cond c a b) tm hp Q:=by obtain⟨t1,h1,k1,k2⟩:=h;exact⟨t1,h1,k1.condT hc,k2⟩
theorem XN.region (h:XO P C nt ops.toList ops.toList tm hp Q):XN P C nt (.region id ops false) tm hp Q:=by
 obtain⟨t1,h1,k1,k2⟩:=h;exact⟨t1,h1,.region k1,k2⟩
theorem XO.nil {all:List Oper}(h:Q tm hp):XO P C nt all [] tm hp Q:=⟨_,_,fun _ _=>aC7,h⟩
theorem XO.cons {all rest:List Oper}{o:Oper}{v:Value}(h1:u7 nt o.dst=true)(h2:o.guard=none)(h:∀call,C call->xop P call tm hp o.op=some (v,hp1))(k:XO P C nt all rest (q9 tm o.dst v) hp1 Q):XO P C nt all (o::rest) tm hp Q:=by
 obtain⟨t1,d,k1,k2⟩:=k;refine⟨t1,d,fun call hc=>?_,k2⟩
 rw[N8,h1,bG8,h call hc];simp only[j2,h2,bG8]
 grind
variable {t:Tmp}
theorem XO.mv {all rest:List Oper}{o:Oper}(h1:u7 nt o.dst=true)(h2:o.guard=none)(h:o.op= .move (.tmp t)){v:Value}(d:tm.get t=some v)(k:XO P C nt all rest (q9 tm o.dst v) hp Q):XO P C nt all (o::rest) tm hp Q:=
 .cons h1 h2 (fun _ _=>by rw[h];simp only[b9,g9,a9,d7,d,bJ3]) k
theorem XO.asg {all rest:List Oper}{o:Oper}(h1:u7 nt o.dst=true)(h2:o.guard=none)(h:o.op= .assign (.tmp t)){v:Value}(d:tm.get t=some v)(k:XO P C nt all rest (q9 tm o.dst v) hp Q):XO P C nt all (o::rest) tm hp Q:=
 .cons h1 h2 (fun _ _=>by rw[h];simp only[b9,g9,a9,d7,d,bJ3]) k
theorem bc4 {t:TypeId}(ht:P.underlying t=some (.slice e))(a:Option Addr)(n c:Nat):Q6 hp P t (.slice a n c)=some (.int .i64 n):=by
 unfold Q6 at9;simp only[ht]
theorem B6 {t:TypeId}(ht:P.underlying t=some (.slice e))(a:Option Addr)(n c:Nat):d7 hp (Q6 hp P t (.slice a n c))=some (.int .i64 n,hp):=by rw[bc4 ht];rfl
variable {x y:Value}
theorem aI4 {t u:TypeId}{r:Value×Hp}(h:v9 P hp t u x y=some r):t8 P hp .append [t,u] [x,y]=some r:=by simp only[t8,h]
def XG (P:Program)(C:d8->Prop)(nt:Nat)(all:List Oper)(nx0:Nat)(l:List (Oper×Nat))(i:Nat)(tm:T Value)(S:Hp)(I:Nat)(es:List Ent)(Q:Out->Prop):Prop:=∃out,(∀call,C call->xgo P call nt all nx0 l i tm S I es=some out)/\Q out
variable {all :List Oper}{nx0:Nat}{rest:List (Oper×Nat)}{o:Oper}{pre ix I:Nat}{S S2:Hp}{es:List Ent}{QO:Out->Prop}{v:Value}
theorem XG.nil (h:QO ⟨tm,S,I,es⟩):XG P C nt all nx0 [] ix tm S I es QO:=⟨_,fun _ _=>rfl,h⟩
theorem XG.k0 (h1:u7 nt o.dst=true)(h2:o.guard=none)(h3:c9 o.op=0)(h:∀call,C call->xop P call tm S o.op=some (v,S))(k:XG P C nt all nx0 rest (ix+1) (q9 tm o.dst v) S I (⟨ix,o,pre,tm,S,S,I,true,v,none⟩::es) QO):XG P C nt all nx0 ((o,pre)::rest) ix tm S I es QO:=by
 obtain⟨d,k1,k2⟩:=k;refine⟨d,fun call hc=>?_,k2⟩
 unfold xgo;rw[h1,bG8];simp only[j2,h2,bG8,h3,h call hc]
 grind
theorem XG.k1 (h1:u7 nt o.dst=true)(h2:o.guard=none)(h3:c9 o.op=1)(h:∀call,xop P call tm S o.op=some (v,S))(k:XG P C nt all nx0 rest (ix+1) (q9 tm o.dst v) S I (⟨ix,o,pre,tm,S,S,I,true,v,none⟩::es) QO):XG P C nt all nx0 ((o,pre)::rest) ix tm S I es QO:=by
 obtain⟨d,k1,k2⟩:=k;refine⟨d,fun call hc=>?_,k2⟩
 unfold xgo;rw[h1,bG8];have:xrd P tm S o.op=some v:=by
  unfold xrd
  simp_all
 simp only[j2,h2,bG8,h3,this]
 grind
theorem XG.k3 (h1:u7 nt o.dst=true)(h2:o.guard=none)(h3:c9 o.op=3)(ht:takes nx0 (ag8 pre I) es S=S)(h:∀call,C call->xop P call tm S o.op=some (v,S2))(k:XG P C nt all nx0 rest (ix+1) (q9 tm o.dst v) S2 (I|||pre) (⟨ix,o,pre,tm,S,S2,I,true,v,none⟩::es) QO):XG P C nt all nx0 ((o,pre)::rest) ix tm S I es QO:=by
 obtain⟨d,k1,k2⟩:=k;refine⟨d,fun call hc=>?_,k2⟩
 unfold xgo;rw[h1,bG8];simp only[j2,h2,bG8,h3,ht,h call hc];exact k1 call hc
theorem XG.mv (h1:u7 nt o.dst=true)(h2:o.guard=none)(h3:o.op= .move (.tmp t))(d:tm.get t=some v)(k:XG P C nt all nx0 rest (ix+1) (q9 tm o.dst v) S I (⟨ix,o,pre,tm,S,S,I,true,v,none⟩::es) QO):XG P C nt all nx0 ((o,pre)::rest) ix tm S I es QO:=
 .k0 h1 h2 (by rw[h3];rfl) (fun _ _=>by rw[h3];simp only[b9,g9,a9,d7,d,bJ3]) k
theorem XG.asg (h1:u7 nt o.dst=true)(h2:o.guard=none)(h3:o.op= .assign (.tmp t))(d:tm.get t=some v)(k:XG P C nt all nx0 rest (ix+1) (q9 tm o.dst v) S I (⟨ix,o,pre,tm,S,S,I,true,v,none⟩::es) QO):XG P C nt all nx0 ((o,pre)::rest) ix tm S I es QO:=
 .k0 h1 h2 (by rw[h3];rfl) (fun _ _=>by rw[h3];simp only[b9,g9,a9,d7,d,bJ3]) k
theorem XN.drawG   (  l : stat ops.toList (z6 ops.toList []) = true)
  (h:XG P C nt ops.toList hp.nx (ops.toList.zip (z6 ops.toList [])) 0 tm ⟨hp.m,hp.nx+ops.toList.length⟩ 0 [] fun d=>dyn P ⟨hp.m,hp.nx+ops.toList.length⟩ d.es=true/\takes hp.nx (ae6 d.I) d.es d.S=d.S/\Q d.tm d.S):XN P C nt (.region id ops true) tm hp Q:=by
 obtain⟨d,h1,h2,h3,h4⟩:=h;refine⟨d.tm,d.S,.draw fun call hc=>?_,h4⟩
 have:J4 P call nt ops.toList tm hp=some (d.tm,d.S):=by
  unfold J4
  grind
 unfold l8
 grind
variable {f:FuncId}{args:List Value}
theorem U3  {fn : Func} {c : Code}  {r : Tmp} (h1 : P.funcs[f]? = some fn) (h2 : fn.body = some c) (h3 : fn.results = #[.tmp r]) (h : XT P C (args.length + (fn.ntmps - args.length)) c (fill .e 0 args) hp Q) :
  ∃v hp',(∃tm1,tm1.get r=v/\Q tm1 hp')/\ ∃d,∀call,C call-> ∀m,d<=m-> ∀runD,U2 P (l8 P) call runD m f args hp=some (v.getD undef,hp'):=by
 obtain⟨tm1,hp1,⟨d,k1⟩,k2⟩:=h;refine⟨_,hp1,⟨tm1,rfl,k2⟩,d,fun call hc m hm runD=>?_⟩
 unfold U2;simp only[h1,h2,k1 call hc m hm,aB7,D9,h3,C7,ae1,ac5]
variable {vs:List Value}
theorem T6 {o:Nat}(h:j3 c o n=some vs){a:Nat}(hm:a+m<=n):j3 c (o+a) m=some ((vs.drop a).take m):=by
 obtain⟨h1,h2⟩:=f9 h;have d:((vs.drop a).take m).length=m:=by grind
 have:=A4 (c:=c) (vs:=(vs.drop a).take m) (o:=o+a) (fun j hj=>by
  rw[d]at hj;rw[bI4,bH3 hj,bJ0,h2 (a+j) (by omega),bL1])
 grind
theorem bd0 {t : TypeId} (ht : P.underlying t = some (.slice e)) (hi : P.info? e = some ie) {o a b:Nat} (  l : Nat.ble (Nat.max lo n) 67108864 = true) (  d : a ≤ b) (  h : b ≤ n) :
  ∃v,j6 P hp t (.slice (some ⟨i,o,none⟩) n (c7 lo 0)) (some (.int .i64 a)) (some (.int .i64 b)) (some (.int .i64 n))=some (v,hp):=by
 have hb:n9 n (Nat.max lo n) (some (.int .i64 a)) (some (.int .i64 b)) (some (.int .i64 n))=some (a,b,some n):=by
  simp only[n9,D8 (bM1 lo n),bJ6,bJ3,D8 h,D8 d]
 unfold j6;simp only[ht,hi,N5,J8,bF8 (j4 lo 0),bG8];rw[l,bG8,hb];cases hc:Nat.beq n a with
 |true=>simp_all
 |false=>simp_all
theorem aW5 {t : TypeId} (ht : P.underlying t = some (.slice e)) (hi : P.info? e = some ie) {o b:Nat} (  h : Nat.ble (Nat.max lo n) 67108864 = true) (hb : b = 0) :
  j6 P hp t (.slice (some ⟨i,o,none⟩) n (c7 lo 0)) (some (.int .i64 b)) none none=some (.slice (some ⟨i,o,none⟩) n (c7 (Nat.max lo n) 0),hp):=by
 have d:n9 n (Nat.max lo n) (some (.int .i64 b)) none none=some (b,n,none):=by simp only[n9,D8 (show b<=n by omega)]
 unfold j6;simp only[ht,hi,N5,J8,bF8 (j4 lo 0),bG8];rw[h,bG8,d];simp only;rw[j9 hb,bG8]
theorem bd1 {t : TypeId} (ht : P.underlying t = some (.slice e)) (hi : P.info? e = some ie) {o b:Nat} (  h : Nat.ble (Nat.max lo b) 67108864 = true) (hb : b ≠ 0) (  l : Nat.max lo b = b) :
  j6 P hp t (.slice (some ⟨i,o,none⟩) b (c7 lo 0)) (some (.int .i64 b)) none none=some (.slice (some ⟨0,0,some 0⟩) 0 unk,hp):=by
 have d:n9 b (Nat.max lo b) (some (.int .i64 b)) none none=some (b,b,none):=by simp only[n9,D8 (bH4 b)]
 unfold j6;simp only[ht,hi,N5,J8,bF8 (j4 lo 0),bG8];rw[h,bG8,d];simp only;rw[m8 hb,bG9,j9 l.symm,bG8]
variable {olds:List Value}
theorem as9 {t : TypeId} (ht : P.underlying t = some (.slice e)) (hi : P.info? e = some ie) {o b:Nat} (  p : Nat.ble (Nat.max lo n) 67108864 = true) (  s : b ≤ n)   ( u : hp.m.get i = some (.cells c k e' ie.size)) (hk : o + n * ie.size ≤ k)
   (hl:j3 c o (n*ie.size)=some olds):
  ∃x,(∀nx,j6 P ⟨hp.m,nx⟩ t (.slice (some ⟨i,o,none⟩) n (c7 lo 0)) (some (.int .i64 b)) none none=some (x,⟨hp.m,nx⟩))/\(∀nx,m9 ⟨hp.m,nx⟩ ie.size x=some (n-b,olds.drop (b*ie.size)))/\(b<n-> ∃q c',x= .slice (some ⟨i,q,none⟩) (n-b) c'):=by
 have z:n*ie.size=b*ie.size+(n-b)*ie.size:=by rw[<-bI7];congr 1;omega
 have w:=(f9 hl).1;have l:n<=Nat.max lo n:=bM1 lo n
 by_cases hlt:b<Nat.max lo n
 ·refine⟨_,fun nx=>H8 (hp:=⟨hp.m,nx⟩) ht hi p (bM1 lo n) s hlt u _ _ (.inl rfl) (.inr ⟨rfl,rfl⟩),fun nx=>?_,fun _=>⟨_,_,rfl⟩⟩
  have h1:=T6 hl (a:=b*ie.size) (m:=(n-b)*ie.size) (by omega)
  rw[bK0 (by rw[bK3];omega)]at h1
  have d:Nat.ble (o+b*ie.size+(n-b)*ie.size) k=true:=bF8 (by omega)
  simp only[m9,u,rdC,d,bG8,h1]
 ·have hb:b=n:=Nat.le_antisymm s (bK9 l (bM9 hlt))
  subst hb;have l:Nat.max lo b=b:=Nat.le_antisymm (bM9 hlt) l
  rcases Nat.eq_zero_or_pos b with h0|hpos
  ·refine⟨_,fun nx=>aW5 ht hi p h0,fun nx=>?_,fun h=>absurd h (Nat.lt_irrefl _)⟩
   have d:Nat.ble (o+b*ie.size) k=true:=bF8 (by omega)
   simp only[m9,u,rdC];rw[d,bG8,hl]
   simp_all
  ·refine⟨_,fun nx=>bd1 ht hi p (Nat.pos_iff_ne_zero.1 hpos) l,fun nx=>?_,fun h=>absurd h (Nat.lt_irrefl _)⟩
   simp only[m9,bP9]
   grind
variable {news:List Value}
theorem aM3 {t : TypeId} (ht : P.underlying t = some (.slice e)) (hi : P.info? e = some ie) (hz : ie.zero = some zv) (  D : zv.cells.toList.length = ie.size) (  B : ie.bytes ≤ 1048576) {o sl L:Nat}   (hx : m9 hp ie.size x = some (m, news))
    (w:hp.m.get i=some (.cells c k e ie.size)) (hk:o+(sl+m)*ie.size<=k) (A:sl+m<=L) (l:Nat.ble L 67108864=true) (d:news.all Value.oneCell'=true) (s:news.length=m*ie.size):
  ∃hp1 ct,v9 P hp t t (.slice (some ⟨i,o,none⟩) sl (c7 L 0)) x=some (.slice (some ⟨i,o,none⟩) (sl+m) (c7 L 0),hp1)/\hp1.nx=hp.nx/\(∀j,j≠i->hp1.m.get j=hp.m.get j)/\hp1.m.get i=some (.cells ct k e ie.size)/\ ∀y,ct.get y=(fill c (o+sl*ie.size) news).get y:=by
 have h:Nat.ble (sl+m) 67108864=true:=bF8 (bK9 A (bF5 l));have h1:(Nat.beq zv.cells.toList.length ie.size&&Nat.ble ie.bytes 1048576)=true:=by simp_all
 by_cases hm:m=0
 ·subst hm
  have hn:news=[]:=bF7 (by rw[s,bO0])
  subst hn;refine⟨hp,c,?_,rfl,fun _ _=>rfl,w,fun _=>rfl⟩
  have p:Nat.ble sl (c7 L 0)=true:=bF8 (by have:=j4 L 0;have:=bF5 l;unfold unk at*;omega)
  unfold v9;simp only[ht,hi,hz];rw[h1,bG8,hx];simp only[w];rw[h];simp only[d,Bool.and_self,bG8,j9,p,bL7]
 ·have u:Nat.max k (o+(sl+m)*ie.size)=k:=bP1 hk
  refine⟨{hp with m:=hp.m.set i (some (.cells (fill c (o+sl*ie.size) news) k e ie.size))},fill c (o+sl*ie.size) news,?_,rfl,fun j hj=>?_,by simp only[T.get_set,bH3],fun _=>rfl⟩
  ·unfold v9
   simp only[ht,hi,hz];rw[h1,bG8,hx];simp only[w];rw[h];have z:Nat.ble (o+sl*ie.size) k=true:=bF8 (by rw[bI7]at hk;omega)
   simp only[d,Bool.and_self,bG8,m8 hm,bG9,bF8 (j4 L 0),J8,N5,z,j9,bF8 A,u,E6];rw[show Nat.ble 1 0=false from rfl,Bool.false_and,bG9]
  ·simp only[T.get_set,bH1 hj]
theorem aV3 {t : TypeId} (ht : P.underlying t = some (.slice e)) (hi : P.info? e = some ie) (hz : ie.zero = some zv) (  s : cst zv = true) (  p : zv.cells.toList.length = ie.size) (   l : zv.cells.toList.all Value.oneCell' = true) {o cc:Nat}  { w:Nat}
  (z:hp.m.get i=some (.cells c k e' w)) (hk:o+m*ie.size<=k):
  ∃hp1 ct vs,ap5 P hp t (.slice (some ⟨i,o,none⟩) m cc)=some (.tuple #[],hp1)/\hp1.nx=hp.nx/\(∀j,j≠i->hp1.m.get j=hp.m.get j)/\hp1.m.get i=some (.cells ct k e' w)/\(∀y,ct.get y=(fill c o vs).get y)/\vs.length=m*ie.size:=by
 cases m with
 |zero=>exact⟨hp,c,[],by simp only[ap5,ht],rfl,fun _ _=>rfl,z,fun _=>rfl,by simp⟩
 |succ m=>
  have u:E9 P e=some zv:=by unfold E9;simp only[hi,hz,s,bG8]
  have hl:(xrep (m+1) zv.cells.toList).length=(m+1)*ie.size:=by rw[A5,p]
  have d:(xrep (m+1) zv.cells.toList).all Value.oneCell'=true:=by
   rw[bI1];intro v A;obtain⟨j,hj,rfl⟩:=List.getElem_of_mem A;have h2:=U8 zv.cells.toList (m+1) j (by rw[p,<-hl];exact hj)
   rw[bG3 hj]at h2;exact(bI1.1 l) _ (bG1 h2.symm)
  have h:Nat.ble (o+(xrep (m+1) zv.cells.toList).length) k=true:=bF8 (by rw[hl];exact hk)
  refine⟨{hp with m:=hp.m.set i (some (.cells (fill c o (xrep (m+1) zv.cells.toList)) k e' w))},fill c o (xrep (m+1) zv.cells.toList),xrep (m+1) zv.cells.toList,?_,rfl,fun j hj=>?_,by simp only[T.get_set,bH3],fun _=>rfl,hl⟩
  ·simp only[ap5,ht,u,z,h,d,Bool.and_self,bG8,E6]
  ·simp only[T.get_set,bH1 hj]
theorem bx6 (D : aO0 P g ρ e ie zv) {o a b:Nat} (  p : Nat.ble (Nat.max lo n) 67108864 = true) (  z : a < b) (  w : b ≤ n)   ( B : hp.m.get i = some (.cells c k e ie.size)) (hk : o + n * ie.size ≤ k)
   (hl:j3 c o (n*ie.size)=some olds) (U:olds.all Value.oneCell'=true):
  XT P C 33 ((Go.Proofs.Body2.n23 ρ).body.getD .skip) (fill .e 0 [.slice (some ⟨i,o,none⟩) n (c7 lo 0),.int .i64 a,.int .i64 b]) hp fun tm' hp'=>
   tm'.get 6=some (.slice (some ⟨i,o,none⟩) (a+(n-b)) (c7 (Nat.max lo n) 0))/\
   hp.nx<=hp'.nx/\(∀j,j≠i->hp'.m.get j=hp.m.get j)/\ ∃ct,hp'.m.get i=some (.cells ct k e ie.size)/\j3 ct o ((a+(n-b))*ie.size)=some (olds.take (a*ie.size)++olds.drop (b*ie.size)):=by
 have T:=(f9 hl).1;have G:n*ie.size=b*ie.size+(n-b)*ie.size:=by rw[<-bI7];congr 1;omega
 have F:b*ie.size=a*ie.size+(b-a)*ie.size:=by rw[<-bI7];congr 1;omega
 have V:(a+(n-b))*ie.size=a*ie.size+(n-b)*ie.size:=bI7 _ _ _;have H:n<=Nat.max lo n:=bM1 lo n;obtain⟨v3,h3⟩:=bd0 (hp:=hp) D.t22 D.ty (i:=i) (o:=o) (a:=a) (b:=b) p (Nat.le_of_lt z) w;obtain⟨x,M,N,_⟩:=as9 (hp:=hp) D.t22 D.ty p w B hk hl;have hs1:=H8 (hp:=⟨hp.m,hp.nx+8⟩) D.t22 D.ty (i:=i) (o:=o) (n:=n) (lo:=lo) (l:=0) (h:=a) p (by omega) (bO6 _) (by omega) B none (some (.int .i64 a)) (.inr ⟨rfl,rfl⟩) (.inl rfl)
 rw[bO0,bL7,bN3,bN3]at hs1;have A:(olds.drop (b*ie.size)).length=(n-b)*ie.size:=by grind
 have u:(olds.drop (b*ie.size)).all Value.oneCell'=true:=by grind
 obtain⟨s,c2,W,a2,X,O,Y⟩:=aM3 (hp:=⟨hp.m,hp.nx+8⟩) D.t22 D.ty D.zero D.zl D.by_ (i:=i) (o:=o) (sl:=a) (L:=Nat.max lo n) (N _) B (by omega) (by omega) p u A
 have K:=H8 (hp:=s) D.t22 D.ty (i:=i) (o:=o) (n:=a+(n-b)) (lo:=Nat.max lo n) (l:=a+(n-b)) (h:=n) (by rw[show Nat.max (Nat.max lo n) (a+(n-b))=Nat.max lo n from bP1 (by omega)];exact p)
  (bK9 H (Nat.le_max_left _ _)) (by omega) (bK4 (by omega) (Nat.le_max_left _ _)) O (some (.int .i64 ((a+(n-b):Nat):Int))) (some (.int .i64 n)) (.inl rfl) (.inl rfl)
 obtain ⟨  J,  R, vs,  Z, b2, b3, b4, b5, b6⟩ := aV3 (hp :=   s) D.t22 D.ty D.zero D.cst D.zl D.one (i := i) (o := o + (a + (n - b)) * ie.size) (m := n - (a + (n - b))) (cc := c7 (Nat.max (Nat.max lo n) (a + (n - b)) - (a + (n - b))) 0)  O
  (by have : (n - (a + (n - b))) * ie.size = (b - a) * ie.size := by congr 1; omega
      omega)
 simp only[Go.Proofs.Body2.n23,bJ3,fill];refine .seq (.region (.cons rfl rfl (fun _ _=>rfl) (.nil ?_)))
 refine .seq (.region ?_);refine .mv rfl rfl rfl rfl (.mv rfl rfl rfl rfl (.mv rfl rfl rfl rfl (.mv rfl rfl rfl rfl (.cons (v:= .int .i64 n) (hp1:=hp) rfl rfl (fun _ _=>B6 D.t22 _ _ _) (.cons (v:=v3) (hp1:=hp) rfl rfl (fun _ _=>h3) (.nil ?_))))))
 refine .seq (.seq (.region (.mv rfl rfl rfl rfl (.mv rfl rfl rfl rfl (.cons (v:= .bool false) (hp1:=hp) rfl rfl ?_ (.nil (.condF rfl (.skip ?_))))))))
 ·intro _ _
  show d7 hp (D7 P .eql (ρ.t 3) (.int .i64 a) (.int .i64 b))=_;simp only[D7,W8,bK8,bG8,w9,ah6,d7]
  simp_all;omega
 refine .seq (.region (.mv rfl rfl rfl rfl (.cons (v:= .int .i64 n) (hp1:=hp) rfl rfl (fun _ _=>B6 D.t22 _ _ _) (.asg rfl rfl rfl rfl (.nil ?_)))))
 refine .seq (.drawG (by kernel_rfl) ?_)
 refine .mv rfl rfl rfl rfl (.mv rfl rfl rfl rfl (.k1 (v:= .slice (some ⟨i,o,none⟩) a (c7 (Nat.max lo n) 0)) rfl rfl rfl (fun _=>hs1) ?_))
 refine .mv rfl rfl rfl rfl (.mv rfl rfl rfl rfl (.k1 (v:=x) rfl rfl rfl (fun _=>M _) ?_))
 refine .k3 (v:= .slice (some ⟨i,o,none⟩) (a+(n-b)) (c7 (Nat.max lo n) 0)) (S2:=s) rfl rfl rfl (by kernel_rfl) (fun _ _=>aI4 W) ?_
 refine .asg rfl rfl rfl rfl (.nil ⟨by kernel_rfl,by kernel_rfl,?_⟩)
 refine .seq (.region (.mv rfl rfl rfl rfl (.mv rfl rfl rfl rfl (.cons (v:= .int .i64 ((a+(n-b):Nat):Int)) (hp1:=s) rfl rfl (fun _ _=>B6 D.t22 _ _ _) (.mv rfl rfl rfl rfl (.cons (hp1:=s) rfl rfl (fun _ _=>K) (.cons (hp1:=J) rfl rfl (fun _ _=>Z) (.nil ?_))))))))
 refine .seq (.region (.mv rfl rfl rfl rfl (.asg rfl rfl rfl rfl (.nil ?_))));refine .ret ⟨rfl,?_,fun j hj=>by rw[b3 j hj,X j hj],R,b4,?_⟩
 ·grind
 ·have E:(olds.take (a*ie.size)).length=a*ie.size:=by rw[bI6];omega
  have d:(olds.take (a*ie.size)++olds.drop (b*ie.size)).length=(a+(n-b))*ie.size:=by grind
  have:=A4 (c:=R) (vs:=olds.take (a*ie.size)++olds.drop (b*ie.size)) (o:=o) (fun j hj=>by
   rw[d]at hj;rw[b5,i4,bH1 (by omega),Y,i4]
   by_cases h1:j<a*ie.size
   ·rw[bH1 (by omega),bG0 (by omega),bI4,bH3 h1]
    exact((f9 hl).2 j (by omega)).symm
   ·rw[bH3 (by omega),bF9 (by omega),E]
    congr 1
    omega)
  rw[d]at this;exact this
structure Z7 (P:Program)(g:FuncId)(ρ:Go.Shelf.Ren)(e:TypeId)(ie:TypeInfo)(zv:Value):Prop where
 fn:∃fn,P.funcs[g]? =some fn/\fn.body=(Go.Proofs.Body2.n21 ρ).body/\fn.ntmps=95/\fn.results= #[.tmp 6]
 t22:P.underlying (ρ.t 22)=some (.slice e)
 t3:P.underlying (ρ.t 3)=some (.int .i64)
 ty:P.info? e=some ie
 zero:ie.zero=some zv
 cst:cst zv=true
 zl:zv.cells.toList.length=ie.size
 sz:1<=ie.size
 by_:ie.bytes<=1048576
 fo:∃fo,P.funcs[ρ.f 27]? =some fo/\ao3 fo=false
 nT:Nat.beq (ρ.t 22) af4=false
def COv (ρ:Go.Shelf.Ren)(call:d8):Prop:=call.ov (ρ.f 27)=some (ρ.t 22)
variable {hp':Hp}{j q:Nat}
theorem X6 {size c:Nat}(h:hp'.m.get j=hp.m.get j):m9 hp' size (.slice (some ⟨j,q,none⟩) m c)=m9 hp size (.slice (some ⟨j,q,none⟩) m c):=by
 simp only[m9,h]
theorem P8 (t:TypeId){a b:Nat}(h:a+b<4611686018427387904):d7 hp (D7 P .add t (.int .i64 a) (.int .i64 b))=some (.int .i64 ((a+b:Nat):Int),hp):=by
 have:IntKind.i64.wrap ((a:Int)+(b:Int))=((a+b:Nat):Int):=by rw[IntKind.wrap_i64];omega
 simp only[D7,W8,bK8,bG8,w9,d7,this]
theorem bB5 (t:TypeId){a b:Nat}(h:a<4611686018427387904)(hb:b<=a):d7 hp (D7 P .sub t (.int .i64 a) (.int .i64 b))=some (.int .i64 ((a-b:Nat):Int),hp):=by
 have:IntKind.i64.wrap ((a:Int)-(b:Int))=((a-b:Nat):Int):=by rw[IntKind.wrap_i64];omega
 simp only[D7,W8,bK8,bG8,w9,d7,this]
theorem V2 (t:TypeId){a b:Nat}(h:a≠b):d7 hp (D7 P .eql t (.int .i64 a) (.int .i64 b))=some (.bool false,hp):=by
 simp only[D7,W8,bK8,bG8,w9,ah6,d7];rw[bM7 (by omega)]
theorem bq1 (t:TypeId)(a:Nat):d7 hp (D7 P .eql t (.int .i64 a) (.int .i64 a))=some (.bool true,hp):=by
 simp only[D7,W8,bK8,bG8,w9,ah6,d7]
theorem be2 (t:TypeId){M:Nat}{b:Bool}(hM:M<18446744073709551616)(h:(b=false/\up=0/\m<=M)\/(b=true/\up=m/\m≠0)):d7 hp (D7 P .gtr t (.int .i64 m) (.complex .f64 M up))=some (.bool b,hp):=by
 have d:I3 (.int .i64 (m:Nat))=some (.i64,m,m+1):=rfl;have l:I3 (.complex .f64 M up)=some (.i64,M,up):=by
  simp only[I3,O1,aP3];rw[show V6 M=M by unfold V6;exact bP5 hM]
 have p:W8 P .gtr t (.int .i64 m) (.complex .f64 M up)=none:=rfl;have s:Q1 (M,up) (m,m+1)=some b:=by
  unfold Q1
  rcases h with⟨rfl,rfl,h⟩| ⟨rfl,rfl,h⟩
  ·rw[j9 rfl,Bool.not_true,Bool.false_and,bG9,m8 (Nat.succ_ne_zero m),bF8 (show m+1<=M+1 by omega)]
   rfl
  ·rw[m8 h,bF8 (bH4 _)]
   rfl
 simp only[D7,p,aU8,d,l,bK8,bG8,bq6,s,bJ6,d7]
theorem aB4 {t:TypeId}(ht:P.underlying t=some (.slice e))(a:Addr)(d:up<unk):d7 hp (am0 P t (.slice (some a) n (c7 lo up)))=some (.complex .f64 (Nat.max lo n) up,hp):=by
 simp only[am0,ht,bF8 (j4 lo up),bG8,D4 d,C5 d,d7]
theorem X3 {t : TypeId} (ht : P.underlying t = some (.slice e)) (hi : P.info? e = some ie) {o dl dc  l:Nat}  { h:Nat}  ( p : hp.m.get i = some (.cells c k e'  h)) (hx : m9 hp ie.size (.slice (some ⟨j, q, none⟩) (Nat.min n dl)  l) = some (m, vs))
  (hk:o+m*ie.size<=k\/(unk<=dc/\h=ie.size/\o<=k)) (hm:m<=dl) (d:vs.all Value.oneCell'=true):
  aI5 P hp t (.slice (some ⟨i,o,none⟩) dl dc) (.slice (some ⟨j,q,none⟩) n l)=some (.int .i64 m,{hp with m:=hp.m.set i (some (.cells (fill c o vs) (Nat.max k (o+m*ie.size)) e' h))}):=by
 have hb:((Nat.ble (o+m*ie.size) k|| (Nat.ble unk dc&&Nat.beq h ie.size&&Nat.ble o k))&&Nat.ble m dl&&vs.all Value.oneCell')=true:=by
  rw[d,bF8 hm,bN9,bN9,bM8]
  simp_all;omega
 simp only[aI5,ht,hi,p,hx];rw[hb,bG8,E6]
theorem X0 {t u:TypeId}{r:Value×Hp}(h:aI5 P hp t x y=some r):t8 P hp .copy [t,u] [x,y]=some r:=by simp only[t8,h]
theorem bb8 {t u:TypeId}{r:Value×Hp}(h1:v9 P hp t u x y=none)(h:P0 P hp t u x y=some r):t8 P hp .append [t,u] [x,y]=some r:=by simp only[t8,h1,h]
variable {cj:T Value}{ej kj zj:Nat}
theorem bc7 (D : Z7 P g ρ e ie zv) {call : d8} (hc : COv ρ call) { A  w  h  B  z  l:Nat} { p:T Value} { u  s  E:Nat} (  d : i ≠ j) (hi : hp.m.get i = some (.cells  p  u  s  E)) (hj : hp.m.get j = some (.cells cj kj ej zj)) (hk : 1 ≤ kj) :
  aB3 P call hp (.func (.func (ρ.f 27)) #[] #[]) [.slice (some ⟨i,A,none⟩) w h,.slice (some ⟨j,B,none⟩) z l]=some (.bool false,hp):=by
 obtain⟨fo,h1,h2⟩:=D.fo;have hc:call.ov (ρ.f 27)=some (ρ.t 22):=hc;simp only[aB3,h1,h2,bG9,hc,D.nT];show aW1 P hp (ρ.t 22) [_,_]=_;simp only[aW1,D.t22,D.ty,m8 d,bG9,hi,hj,bF8 hk,bG8]
variable {cm:Nat}
theorem aV6 (D : Z7 P g ρ e ie zv) {a : Option Addr} {c:Nat} {r  d : Value} {hp1 : Hp} (hs : j6 P hp (ρ.t 22) (.slice a n c) (some (.int .i64 n)) none none = some ( d, hp))
  (h:v9 P hp (ρ.t 22) (ρ.t 22) (.slice a n c) (.slice (some ⟨j,q,none⟩) 1 cm)=some (r,hp1)):
  XT P C 95 ((Go.Proofs.Body2.n21 ρ).body.getD .skip) (fill .e 0 [.slice a n c,.int .i64 n,.slice (some ⟨j,q,none⟩) 1 cm]) hp fun tm' hp'=>tm'.get 6=some r/\hp'=hp1:=by
 simp only[Go.Proofs.Body2.n21,bJ3,fill];refine .seq (.region (.cons rfl rfl (fun _ _=>rfl) (.nil ?_)))
 refine .seq (.region (.mv rfl rfl rfl rfl (.mv rfl rfl rfl rfl (.cons (v:=d) (hp1:=hp) rfl rfl (fun _ _=>hs) (.nil ?_)))))
 refine .seq (.region (.mv rfl rfl rfl rfl (.cons (v:= .int .i64 ((1:Nat):Int)) (hp1:=hp) rfl rfl (fun _ _=>B6 D.t22 _ _ _) (.asg rfl rfl rfl rfl (.nil ?_)))))
 refine .seq (.seq (.region (.mv rfl rfl rfl rfl (.cons (v:= .bool false) (hp1:=hp) rfl rfl (fun _ _=>V2 (P:=P) (ρ.t 3) (a:=1) (b:=0) (by omega)) (.nil (.condF rfl (.skip ?_)))))))
 refine .seq (.region (.mv rfl rfl rfl rfl (.cons (v:= .int .i64 n) (hp1:=hp) rfl rfl (fun _ _=>B6 D.t22 _ _ _) (.asg rfl rfl rfl rfl (.nil ?_)))))
 refine .seqR (.seq (.region (.mv rfl rfl rfl rfl (.mv rfl rfl rfl rfl (.cons (v:= .bool true) (hp1:=hp) rfl rfl (fun _ _=>bq1 (P:=P) (ρ.t 3) n) (.nil ?_))))))
 refine .condT rfl (.seq (.region (.mv rfl rfl rfl rfl (.mv rfl rfl rfl rfl (.cons (v:=r) (hp1:=hp1) rfl rfl (fun _ _=>aI4 h) (.asg rfl rfl rfl rfl (.nil (.ret ⟨rfl,rfl⟩))))))))
variable {at_:Nat}
theorem aG1 {ct : T Value} {o s:Nat}  (  d : at_ ≤ n) (  l : olds.length = n * s) (  h : news.length = s) (h1 : ∀ j, j < at_ * s → ct.get (o + j) = olds[j]?) (h2 : ∀ j, j < s → ct.get (o + at_ * s + j) = news[j]?) (h3 : ∀ j, j < (n - at_) * s → ct.get (o + (at_ + 1) * s + j) = olds[at_ * s + j]?) :
  j3 ct o ((n+1)*s)=some (olds.take (at_*s)++news++olds.drop (at_*s)):=by
 have hm:n*s=at_*s+(n-at_)*s:=by rw[<-bI7];congr 1;omega
 have p:(at_+1)*s=at_*s+s:=bL8 _ _;have u:(n+1)*s=n*s+s:=bL8 _ _;have D:(olds.take (at_*s)).length=at_*s:=by grind
 have w:(olds.take (at_*s)++news).length=at_*s+s:=by grind
 have z:(olds.take (at_*s)++news++olds.drop (at_*s)).length=(n+1)*s:=by grind
 have:=A4 (c:=ct) (vs:=olds.take (at_*s)++news++olds.drop (at_*s)) (o:=o) (fun j hj=>by
  rw[z]at hj
  by_cases A:j<at_*s
  ·grind
  ·by_cases B:j<at_*s+s
   ·grind
   ·rw[bF9 (by omega),w,bJ0]
    have:=h3 (j-(at_*s+s)) (by omega)
    rw[show o+(at_+1)*s+(j-(at_*s+s))=o+j by omega]at this
    rw[this])
 grind
theorem aI7 (D : Z7 P g ρ e ie zv) {o:Nat} (  w : Nat.ble (Nat.max lo n) 67108864 = true) (    p : n + 1 ≤ Nat.max lo n) (  H : at_ < n) (  O : j ≠ i)   ( z : hp.m.get i = some (.cells c k e ie.size)) ( aa : hp.m.get j = some (.cells cj kj ej zj))
  (hk:o+n*ie.size<=k) (hl:j3 c o (n*ie.size)=some olds) (hn:m9 hp ie.size (.slice (some ⟨j,q,none⟩) 1 cm)=some (1,news)) (ae:news.length=ie.size) (E:olds.all Value.oneCell'=true) (K:news.all Value.oneCell'=true):
  XT P (COv ρ) 95 ((Go.Proofs.Body2.n21 ρ).body.getD .skip) (fill .e 0 [.slice (some ⟨i,o,none⟩) n (c7 lo 0),.int .i64 at_,.slice (some ⟨j,q,none⟩) 1 cm]) hp fun tm' hp'=>
   tm'.get 6=some (.slice (some ⟨i,o,none⟩) (n+1) (c7 (Nat.max lo n) 0))/\hp.nx<=hp'.nx/\(∀x,x≠i->hp'.m.get x=hp.m.get x)/\
   ∃ct k',hp'.m.get i=some (.cells ct k' e ie.size)/\o+(n+1)*ie.size<=k'/\j3 ct o ((n+1)*ie.size)=some (olds.take (at_*ie.size)++news++olds.drop (at_*ie.size)):=by
 have ah:Nat.max lo n<=67108864:=bF5 w;generalize hM:Nat.max lo n=M at*;have U:=(f9 hl).1;have s:Nat.max M (n+1)=M:=bP1 p;have V:Nat.ble (Nat.max M (n+1)) 67108864=true:=by rw[s];exact w
 have hs:=D.sz;have m1:n*ie.size=at_*ie.size+(n-at_)*ie.size:=by rw[<-bI7];congr 1;omega
 have m2:(at_+1)*ie.size=at_*ie.size+ie.size:=bL8 _ _;have m3:(n+1)*ie.size=n*ie.size+ie.size:=bL8 _ _;have m4:(at_+1)*ie.size<=n*ie.size:=bG4 _ H;have s1:=H8 (hp:=hp) D.t22 D.ty (i:=i) (o:=o) (n:=n) (lo:=lo) (l:=at_) (h:=n) (by rw[hM];exact w) (by rw[hM];omega) (Nat.le_of_lt H) (by rw[hM];omega) z (some (.int .i64 at_)) none (.inl rfl) (.inr ⟨rfl,rfl⟩)
 have s2:=H8 (hp:=hp) D.t22 D.ty (i:=i) (o:=o) (n:=n) (lo:=lo) (l:=0) (h:=n+1) (by rw[hM];exact w) (by rw[hM];omega) (bO6 _) (by rw[hM];omega) z none (some (.int .i64 ((n+1:Nat):Int))) (.inr ⟨rfl,rfl⟩) (.inl rfl)
 rw[hM]at s2;simp only[bO0,bL7,bN3]at s2;have Z:∀(d:Hp) {ct:T Value} {kx:Nat},d.m.get i=some (.cells ct kx e ie.size)-> ∀l,l<n+1->j6 P d (ρ.t 22) (.slice (some ⟨i,o,none⟩) (n+1) (c7 M 0)) (some (.int .i64 l)) none none=some (.slice (some ⟨i,o+l*ie.size,none⟩) (n+1-l) (c7 (M-l) 0),d):=by
  intro d ct kx ab l hlt;have:=H8 (hp:=d) D.t22 D.ty (i:=i) (o:=o) (n:=n+1) (lo:=M) (l:=l) (h:=n+1) V (by rw[s];omega) (Nat.le_of_lt hlt) (by rw[s];omega) ab (some (.int .i64 l)) none (.inl rfl) (.inr ⟨rfl,rfl⟩)
  rwa[s]at this
 have X:=T6 hl (a:=at_*ie.size) (m:=(n-at_)*ie.size) (by omega)
 rw[bK0 (by rw[bK3];omega)]at X
 have J:(olds.drop (at_*ie.size)).all Value.oneCell'=true:=by
  rw[bI1]at E⊢;exact fun v hv=>E v (bN8 hv)
 have x1:m9 ⟨hp.m,hp.nx+9⟩ ie.size (.slice (some ⟨i,o+at_*ie.size,none⟩) (Nat.min (n+1-at_) (n+1-(at_+1))) (c7 (M-at_) 0))=some (n-at_,olds.drop (at_*ie.size)):=by
  have W:Nat.min (n+1-at_) (n+1-(at_+1))=n-at_:=by rw[show n+1-(at_+1)=n-at_ by omega];exact Nat.min_eq_right (by omega)
  have L:Nat.ble (o+at_*ie.size+(n-at_)*ie.size) k=true:=bF8 (by omega)
  simp only[m9,z,rdC,W,L,bG8,X]
 have Y:=X3 (hp:=⟨hp.m,hp.nx+9⟩) D.t22 D.ty (i:=i) (o:=o+(at_+1)*ie.size) (dl:=n+1-(at_+1)) (dc:=c7 (M-(at_+1)) 0) z x1 (.inr ⟨j4 _ _,rfl,by omega⟩) (by omega) J
 generalize ac:Nat.max k (o+(at_+1)*ie.size+(n-at_)*ie.size)=k1 at Y;have R:o+(n+1)*ie.size<=k1:=by rw[<-ac];exact bK9 (by omega) (bM1 _ _)
 generalize N:fill c (o+(at_+1)*ie.size) (olds.drop (at_*ie.size))=F at Y;generalize G:({(⟨hp.m,hp.nx+9⟩:Hp)with m:=(⟨hp.m,hp.nx+9⟩:Hp).m.set i (some (.cells F k1 e ie.size))}:Hp)=H1 at Y
 have A:H1.m.get i=some (.cells F k1 e ie.size):=by rw[<-G];simp only[T.get_set,bH3]
 have B:∀x,x≠i->H1.m.get x=hp.m.get x:=fun x hx=>by rw[<-G];simp only[T.get_set,bH1 hx]
 have x2:m9 H1 ie.size (.slice (some ⟨j,q,none⟩) (Nat.min 1 (n+1-at_)) cm)=some (1,news):=by
  rw[show Nat.min 1 (n+1-at_)=1 from Nat.min_eq_left (by omega),X6 (B j O)]
  exact hn
 have c2:=X3 (hp:=H1) D.t22 D.ty (i:=i) (o:=o+at_*ie.size) (dl:=n+1-at_) (dc:=c7 (M-at_) 0) A x2 (.inl (by omega)) (by omega) K
 have ad:Nat.max k1 (o+at_*ie.size+1*ie.size)=k1:=bP1 (by omega)
 rw[ad]at c2;simp only[Go.Proofs.Body2.n21,bJ3,fill];refine .seq (.region (.cons rfl rfl (fun _ _=>rfl) (.nil ?_)))
 refine .seq (.region (.mv rfl rfl rfl rfl (.mv rfl rfl rfl rfl (.cons (hp1:=hp) rfl rfl (fun _ _=>s1) (.nil ?_)))))
 refine .seq (.region (.mv rfl rfl rfl rfl (.cons (v:= .int .i64 ((1:Nat):Int)) (hp1:=hp) rfl rfl (fun _ _=>B6 D.t22 _ _ _) (.asg rfl rfl rfl rfl (.nil ?_)))))
 refine .seq (.seq (.region (.mv rfl rfl rfl rfl (.cons (v:= .bool false) (hp1:=hp) rfl rfl (fun _ _=>V2 (P:=P) (ρ.t 3) (a:=1) (b:=0) (by omega)) (.nil (.condF rfl (.skip ?_)))))))
 refine .seq (.region (.mv rfl rfl rfl rfl (.cons (v:= .int .i64 n) (hp1:=hp) rfl rfl (fun _ _=>B6 D.t22 _ _ _) (.asg rfl rfl rfl rfl (.nil ?_)))))
 refine .seq (.seq (.region (.mv rfl rfl rfl rfl (.mv rfl rfl rfl rfl (.cons (v:= .bool false) (hp1:=hp) rfl rfl (fun _ _=>V2 (P:=P) (ρ.t 3) (a:=at_) (b:=n) (by omega)) (.nil (.condF rfl (.skip ?_))))))))
 refine .seq (.seq (.region (.mv rfl rfl rfl rfl (.mv rfl rfl rfl rfl (.cons (v:= .int .i64 ((n+1:Nat):Int)) (hp1:=hp) rfl rfl (fun _ _=>P8 (P:=P) (ρ.t 3) (a:=n) (b:=1) (by omega)) (.mv rfl rfl rfl rfl (.cons (v:= .complex .f64 M 0) (hp1:=hp) rfl rfl (fun _ _=>by rw[<-hM];exact aB4 D.t22 _ B0) (.cons (v:= .bool false) (hp1:=hp) rfl rfl (fun _ _=>be2 (P:=P) (ρ.t 3) (m:=n+1) (M:=M) (up:=0) (by omega) (.inl ⟨rfl,rfl,p⟩)) (.nil (.condF rfl (.skip ?_)))))))))))
 refine .seq (.region (.mv rfl rfl rfl rfl (.mv rfl rfl rfl rfl (.mv rfl rfl rfl rfl (.cons (v:= .int .i64 ((n+1:Nat):Int)) (hp1:=hp) rfl rfl (fun _ _=>P8 (P:=P) (ρ.t 3) (a:=n) (b:=1) (by omega)) (.cons (hp1:=hp) rfl rfl (fun _ _=>s2) (.asg rfl rfl rfl rfl (.nil ?_))))))))
 refine .seqR (.seq (.region (.mv rfl rfl rfl rfl (.mv rfl rfl rfl rfl (.mv rfl rfl rfl rfl (.mv rfl rfl rfl rfl (.cons (v:= .int .i64 ((at_+1:Nat):Int)) (hp1:=hp) rfl rfl (fun _ _=>P8 (P:=P) (ρ.t 3) (a:=at_) (b:=1) (by omega)) (.cons (hp1:=hp) rfl rfl (fun _ _=>Z hp z (at_+1) (by omega)) (.cons (v:= .bool false) (hp1:=hp) rfl rfl (fun _ hc=>bc7 D hc O aa z (by omega)) (.cons (v:= .bool true) (hp1:=hp) rfl rfl (fun _ _=>rfl) (.nil ?_)))))))))))
 refine .condT rfl ?_;refine .seq (.drawG (by kernel_rfl) ?_)
 refine .mv rfl rfl rfl rfl (.mv rfl rfl rfl rfl (.mv rfl rfl rfl rfl (.k0 (v:= .int .i64 ((at_+1:Nat):Int)) rfl rfl rfl (fun _ _=>P8 (P:=P) (ρ.t 3) (a:=at_) (b:=1) (by omega)) (.k1 rfl rfl rfl (fun _=>Z ⟨hp.m,hp.nx+9⟩ z (at_+1) (by omega)) ?_))))
 refine .mv rfl rfl rfl rfl (.mv rfl rfl rfl rfl (.k1 rfl rfl rfl (fun _=>Z ⟨hp.m,hp.nx+9⟩ z at_ (by omega)) ?_))
 refine .k3 (v:= .int .i64 ((n-at_:Nat):Int)) (S2:=H1) rfl rfl rfl (by kernel_rfl) (fun _ _=>X0 (u:=ρ.t 22) Y) ?_
 refine .nil ⟨by kernel_rfl,by kernel_rfl,?_⟩
 refine .seq (.region (.mv rfl rfl rfl rfl (.mv rfl rfl rfl rfl (.cons (hp1:=H1) rfl rfl (fun _ _=>Z H1 A at_ (by omega)) (.mv rfl rfl rfl rfl (.cons rfl rfl (fun _ _=>X0 (u:=ρ.t 22) c2) (.nil ?_)))))))
 refine .seq (.region (.mv rfl rfl rfl rfl (.asg rfl rfl rfl rfl (.nil ?_))));refine .ret ⟨rfl,?_,fun x hx=>?_,fill F (o+at_*ie.size) news,k1,?_,R,?_⟩
 ·show hp.nx<=H1.nx
  rw[<-G];exact Nat.le_add_right _ _
 ·show(H1.m.set i _).get x=_
  rw[T.get_set,bH1 hx,B x hx]
 ·show(H1.m.set i _).get i=_
  rw[T.get_set,bH3 rfl]
 ·refine aG1 (Nat.le_of_lt H) U ae (fun y hy=>?_) (fun y hy=>?_) (fun y hy=>?_)
  ·rw[i4,bH1 (by omega),<-N,i4,bH1 (by omega)]
   exact((f9 hl).2 y (by omega)).symm
  ·rw[i4,bH3 (by omega)]
   congr 1;omega
  ·rw[i4,bH1 (by omega),<-N,i4,bH3 (by rw[bK3];omega),bJ0]
   congr 1;omega
theorem bn7 (D : Z7 P g ρ e ie zv) {o:Nat} (  R : Nat.ble (n + 1) 67108864 = true) (  z : at_ < n) (hi : i < hp.nx) (hj : j < hp.nx)   (hg : hp.m.get i = some (.cells c k e ie.size))
  (hk:o+n*ie.size<=k) (hl:j3 c o (n*ie.size)=some olds) (hn:m9 hp ie.size (.slice (some ⟨j,q,none⟩) 1 cm)=some (1,news)) (ao:news.length=ie.size) (H:olds.all Value.oneCell'=true) (U:news.all Value.oneCell'=true):
  XT P C 95 ((Go.Proofs.Body2.n21 ρ).body.getD .skip) (fill .e 0 [.slice (some ⟨i,o,none⟩) n (c7 n (n+1)),.int .i64 at_,.slice (some ⟨j,q,none⟩) 1 cm]) hp fun tm' hp'=>
   tm'.get 6=some (.slice (some ⟨hp.nx,0,none⟩) (n+1) (c7 (n+1) 0))/\hp.nx<hp'.nx/\(∀x,x≠hp.nx->hp'.m.get x=hp.m.get x)/\
   ∃ct k',hp'.m.get hp.nx=some (.cells ct k' e ie.size)/\0+(n+1)*ie.size<=k'/\j3 ct 0 ((n+1)*ie.size)=some (olds.take (at_*ie.size)++news++olds.drop (at_*ie.size)):=by
 have ap:n+1<=67108864:=bF5 R;have ab:=(f9 hl).1;have p:Nat.max n n=n:=Nat.max_self n;have A:n+1<unk:=by unfold unk;omega
 have F:Nat.ble (Nat.max n n) 67108864=true:=by rw[p];exact bF8 (by omega)
 have w:Nat.max (n+1) (n+1)=n+1:=Nat.max_self _;have ac:Nat.ble (Nat.max (n+1) (n+1)) 67108864=true:=by rw[w];exact R
 have hs:=D.sz;have m1:n*ie.size=at_*ie.size+(n-at_)*ie.size:=by rw[<-bI7];congr 1;omega
 have m2:(at_+1)*ie.size=at_*ie.size+ie.size:=bL8 _ _;have m3:(n+1)*ie.size=n*ie.size+ie.size:=bL8 _ _;have m4:(at_+1)*ie.size<=n*ie.size:=bG4 _ z;have s1:∀(d:Hp),d.m.get i=some (.cells c k e ie.size)->j6 P d (ρ.t 22) (.slice (some ⟨i,o,none⟩) n (c7 n (n+1))) (some (.int .i64 at_)) none none=some (.slice (some ⟨i,o+at_*ie.size,none⟩) (n-at_) (c7 (n-at_) (n+1-at_)),d):=by
  intro d O;have:=aq5 (hp:=d) D.t22 D.ty (i:=i) (o:=o) (n:=n) (lo:=n) (l:=at_) (h:=n) A F (by rw[p];exact bH4 _) (Nat.le_of_lt z) (by rw[p];exact z) O (some (.int .i64 at_)) none (.inl rfl) (.inr ⟨rfl,rfl⟩)
  rwa[p]at this
 have s2:=aq5 (hp:=hp) D.t22 D.ty (i:=i) (o:=o) (n:=n) (lo:=n) (l:=0) (h:=at_) A F (by rw[p];omega) (bO6 _) (by rw[p];omega) hg none (some (.int .i64 at_)) (.inr ⟨rfl,rfl⟩) (.inl rfl)
 rw[p]at s2;simp only[bO0,bL7,bN3]at s2;have aa:=T6 hl (a:=0) (m:=at_*ie.size) (by omega)
 rw[bL7,bO7]at aa;generalize hV:olds.take (at_*ie.size)++xrep (n+1-at_) zv.cells.toList=V at*;have ai:V.length=(n+1)*ie.size:=by
  rw[<-hV,bH8,bI6,A5,D.zl,show min (at_*ie.size) olds.length=at_*ie.size by omega,<-bI7]
  congr 1;omega
 have X:v9 P hp (ρ.t 22) (ρ.t 3) (.slice (some ⟨i,o,none⟩) at_ (c7 n (n+1))) (.int .i64 ((n+1-at_:Nat):Int))=none:=by unfold v9;simp only[D.t22,D.t3]
 have W:P0 P hp (ρ.t 22) (ρ.t 3) (.slice (some ⟨i,o,none⟩) at_ (c7 n (n+1))) (.int .i64 ((n+1-at_:Nat):Int))=some (.slice (some ⟨hp.nx,0,none⟩) (n+1) (c7 (n+1) 0),hp.new V e ie.size):=by
  have e1:(cst zv&&Nat.beq zv.cells.toList.length ie.size&&Nat.ble ie.bytes 1048576&&Nat.ble 1 ie.size&&Nat.ble 1 (n+1-at_)&&Nat.ble (at_+(n+1-at_)) 67108864&&(Nat.ble unk (c7 n (n+1))&&Nat.ble 1 (z7 (c7 n (n+1)))&&Nat.ble (z7 (c7 n (n+1))) (at_+(n+1-at_))))=true:=by
   rw[D.cst,D.zl,j9 rfl,bF8 D.by_,bF8 D.sz,bF8 (show 1<=n+1-at_ by omega),show at_+(n+1-at_)=n+1 by omega,R,bF8 (j4 n (n+1)),C5 A,bF8 (show 1<=n+1 by omega),bF8 (bH4 _)]
   rfl
  have e2:Nat.ble (o+at_*ie.size) k=true:=bF8 (by omega)
  have e3:at_+(n+1-at_)=n+1:=by omega
  unfold P0;simp only[D.t22,D.t3,D.ty,D.zero];show(bif _ then _ else _)=_
  rw[e1,bG8];simp only[hg,e2,bG8,aa,e3,hV]
 generalize K:hp.new V e ie.size=H0 at W;have B:H0.m.get hp.nx=some (.cells (fill .e 0 V) ((n+1)*ie.size) e ie.size):=by
  rw[<-K];show(hp.m.set hp.nx _).get hp.nx=_;rw[T.get_set,bH3 rfl,ai]
 have G:∀x,x≠hp.nx->H0.m.get x=hp.m.get x:=fun x hx=>by
  rw[<-K];show(hp.m.set hp.nx _).get x=_;rw[T.get_set,bH1 hx]
 have s3:∀(d:Hp) {ct:T Value} {kx:Nat},d.m.get hp.nx=some (.cells ct kx e ie.size)-> ∀l,l<n+1->j6 P d (ρ.t 22) (.slice (some ⟨hp.nx,0,none⟩) (n+1) (c7 (n+1) 0)) (some (.int .i64 l)) none none=some (.slice (some ⟨hp.nx,0+l*ie.size,none⟩) (n+1-l) (c7 (n+1-l) 0),d):=by
  intro d ct kx O l hlt;have:=H8 (hp:=d) D.t22 D.ty (i:=hp.nx) (o:=0) (n:=n+1) (lo:=n+1) (l:=l) (h:=n+1) ac (by rw[w];omega) (Nat.le_of_lt hlt) (by rw[w];omega) O (some (.int .i64 l)) none (.inl rfl) (.inr ⟨rfl,rfl⟩)
  rwa[w]at this
 have x1:m9 H0 ie.size (.slice (some ⟨j,q,none⟩) (Nat.min 1 (n+1-at_)) cm)=some (1,news):=by
  rw[show Nat.min 1 (n+1-at_)=1 from Nat.min_eq_left (by omega),X6 (G j (by omega))]
  exact hn
 have c1:=X3 (hp:=H0) D.t22 D.ty (i:=hp.nx) (o:=0+at_*ie.size) (dl:=n+1-at_) (dc:=c7 (n+1-at_) 0) B x1 (.inl (by omega)) (by omega) U
 have ak:Nat.max ((n+1)*ie.size) (0+at_*ie.size+1*ie.size)=(n+1)*ie.size:=bP1 (by omega)
 rw[ak]at c1;generalize Z:fill (fill .e 0 V) (0+at_*ie.size) news=J at c1;generalize L:({H0 with m:=H0.m.set hp.nx (some (.cells J ((n+1)*ie.size) e ie.size))}:Hp)=H1 at c1
 have E:H1.m.get hp.nx=some (.cells J ((n+1)*ie.size) e ie.size):=by rw[<-L];simp only[T.get_set,bH3]
 have s:∀x,x≠hp.nx->H1.m.get x=hp.m.get x:=fun x hx=>by rw[<-L];simp only[T.get_set,bH1 hx];exact G x hx
 have ae:=T6 hl (a:=at_*ie.size) (m:=(n-at_)*ie.size) (by omega)
 rw[bK0 (by rw[bK3];omega)]at ae
 have N:(olds.drop (at_*ie.size)).all Value.oneCell'=true:=by
  rw[bI1]at H⊢;exact fun v hv=>H v (bN8 hv)
 have x2:m9 ⟨H1.m,H1.nx+9⟩ ie.size (.slice (some ⟨i,o+at_*ie.size,none⟩) (Nat.min (n-at_) (n+1-(at_+1))) (c7 (n-at_) (n+1-at_)))=some (n-at_,olds.drop (at_*ie.size)):=by
  have ad:Nat.min (n-at_) (n+1-(at_+1))=n-at_:=by rw[show n+1-(at_+1)=n-at_ by omega];exact Nat.min_self _
  have Y:Nat.ble (o+at_*ie.size+(n-at_)*ie.size) k=true:=bF8 (by omega)
  have aj:H1.m.get i=some (.cells c k e ie.size):=by rw[s i (by omega)];exact hg
  simp only[m9,aj,rdC,ad,Y,bG8,ae]
 have c2:=X3 (hp:=⟨H1.m,H1.nx+9⟩) D.t22 D.ty (i:=hp.nx) (o:=0+(at_+1)*ie.size) (dl:=n+1-(at_+1)) (dc:=c7 (n+1-(at_+1)) 0) E x2 (.inl (by omega)) (by omega) N
 have al:Nat.max ((n+1)*ie.size) (0+(at_+1)*ie.size+(n-at_)*ie.size)=(n+1)*ie.size:=bP1 (by omega)
 rw[al]at c2;simp only[Go.Proofs.Body2.n21,bJ3,fill];refine .seq (.region (.cons rfl rfl (fun _ _=>rfl) (.nil ?_)))
 refine .seq (.region (.mv rfl rfl rfl rfl (.mv rfl rfl rfl rfl (.cons (hp1:=hp) rfl rfl (fun _ _=>s1 hp hg) (.nil ?_)))))
 refine .seq (.region (.mv rfl rfl rfl rfl (.cons (v:= .int .i64 ((1:Nat):Int)) (hp1:=hp) rfl rfl (fun _ _=>B6 D.t22 _ _ _) (.asg rfl rfl rfl rfl (.nil ?_)))))
 refine .seq (.seq (.region (.mv rfl rfl rfl rfl (.cons (v:= .bool false) (hp1:=hp) rfl rfl (fun _ _=>V2 (P:=P) (ρ.t 3) (a:=1) (b:=0) (by omega)) (.nil (.condF rfl (.skip ?_)))))))
 refine .seq (.region (.mv rfl rfl rfl rfl (.cons (v:= .int .i64 n) (hp1:=hp) rfl rfl (fun _ _=>B6 D.t22 _ _ _) (.asg rfl rfl rfl rfl (.nil ?_)))))
 refine .seq (.seq (.region (.mv rfl rfl rfl rfl (.mv rfl rfl rfl rfl (.cons (v:= .bool false) (hp1:=hp) rfl rfl (fun _ _=>V2 (P:=P) (ρ.t 3) (a:=at_) (b:=n) (by omega)) (.nil (.condF rfl (.skip ?_))))))))
 refine .seqR (.seq (.region (.mv rfl rfl rfl rfl (.mv rfl rfl rfl rfl (.cons (v:= .int .i64 ((n+1:Nat):Int)) (hp1:=hp) rfl rfl (fun _ _=>P8 (P:=P) (ρ.t 3) (a:=n) (b:=1) (by omega)) (.mv rfl rfl rfl rfl (.cons (v:= .complex .f64 n (n+1)) (hp1:=hp) rfl rfl (fun _ _=>(aB4 D.t22 _ A).trans (by rw[p])) (.cons (v:= .bool true) (hp1:=hp) rfl rfl (fun _ _=>be2 (P:=P) (ρ.t 3) (m:=n+1) (M:=n) (up:=n+1) (by omega) (.inr ⟨rfl,rfl,by omega⟩)) (.nil ?_)))))))))
 refine .condT rfl ?_;refine .seq (.region (.mv rfl rfl rfl rfl (.mv rfl rfl rfl rfl (.cons (hp1:=hp) rfl rfl (fun _ _=>s2) (.mv rfl rfl rfl rfl (.mv rfl rfl rfl rfl (.cons (v:= .int .i64 ((n+1:Nat):Int)) (hp1:=hp) rfl rfl (fun _ _=>P8 (P:=P) (ρ.t 3) (a:=n) (b:=1) (by omega)) (.mv rfl rfl rfl rfl (.cons (v:= .int .i64 ((n+1-at_:Nat):Int)) (hp1:=hp) rfl rfl (fun _ _=>bB5 (P:=P) (ρ.t 3) (a:=n+1) (b:=at_) (by omega) (by omega)) (.cons (hp1:=H0) rfl rfl (fun _ _=>bb8 X W) (.asg rfl rfl rfl rfl (.nil ?_))))))))))))
 refine .seq (.region (.mv rfl rfl rfl rfl (.mv rfl rfl rfl rfl (.cons (hp1:=H0) rfl rfl (fun _ _=>s3 H0 B at_ (by omega)) (.mv rfl rfl rfl rfl (.cons (hp1:=H1) rfl rfl (fun _ _=>X0 (u:=ρ.t 22) c1) (.nil ?_)))))))
 refine .seq (.drawG (by kernel_rfl) ?_)
 refine .mv rfl rfl rfl rfl (.mv rfl rfl rfl rfl (.mv rfl rfl rfl rfl (.k0 (v:= .int .i64 ((at_+1:Nat):Int)) rfl rfl rfl (fun _ _=>P8 (P:=P) (ρ.t 3) (a:=at_) (b:=1) (by omega)) (.k1 rfl rfl rfl (fun _=>s3 ⟨H1.m,H1.nx+9⟩ E (at_+1) (by omega)) ?_))))
 refine .mv rfl rfl rfl rfl (.mv rfl rfl rfl rfl (.k1 rfl rfl rfl (fun _=>s1 ⟨H1.m,H1.nx+9⟩ (by rw[<-hg];exact s i (by omega))) ?_))
 refine .k3 (v:= .int .i64 ((n-at_:Nat):Int)) rfl rfl rfl (by kernel_rfl) (fun _ _=>X0 (u:=ρ.t 22) c2) ?_
 refine .nil ⟨by kernel_rfl,by kernel_rfl,?_⟩
 refine .seq (.region (.mv rfl rfl rfl rfl (.asg rfl rfl rfl rfl (.nil ?_))));refine .ret ⟨rfl,?_,fun x hx=>?_,fill J (0+(at_+1)*ie.size) (olds.drop (at_*ie.size)),(n+1)*ie.size,?_,by omega,?_⟩
 ·show hp.nx<H1.nx+9
  rw[<-L,<-K];show hp.nx<hp.nx+1+9;omega
 ·show(H1.m.set hp.nx _).get x=_
  rw[T.get_set,bH1 hx,s x hx]
 ·show(H1.m.set hp.nx _).get hp.nx=_
  rw[T.get_set,bH3 rfl]
 ·have  ah : ∀ y, y < at_ * ie.size → V[y]? = olds[y]? := fun y hy => by
   rw[<-hV,bG0 (by rw[bI6];omega),bI4,bH3 hy]
  refine aG1 (Nat.le_of_lt z) ab ao (fun y hy=>?_) (fun y hy=>?_) (fun y hy=>?_)
  ·rw[i4,bH1 (by omega),<-Z,i4,bH1 (by omega),bI3,y6 V y (by omega)]
   exact ah y hy
  ·rw[i4,bH1 (by omega),<-Z,i4,bH3 (by omega)]
   congr 1;omega
  ·rw[i4,bH3 (by rw[bK3];omega),bJ0]
   congr 1;omega
def XF (P:Program)(C:d8->Prop)(nt:Nat)(c:Code)(tm:T Value)(hp:Hp):Prop:=∃m0,∀call,C call-> ∀m,m0<=m->f6 P (l8 P) call nt none m c tm hp []=none
theorem XF.seq1 (h:XF P C nt a tm hp):XF P C nt (.seq a b) tm hp:=by
 obtain⟨d,h⟩:=h;refine⟨d+1,fun call hc m hm=>?_⟩
 obtain⟨j,rfl⟩:∃j,m=j+1:=⟨m-1,by omega⟩
 simp only[f6,h call hc j (by omega)]
theorem XF.seq2 (h:XN P C nt a tm hp fun tm1 hp1=>XF P C nt b tm1 hp1):XF P C nt (.seq a b) tm hp:=by
 obtain⟨tm1,hp1,⟨d,k1⟩,l,k2⟩:=h;refine⟨max d l+1,fun call hc m hm=>?_⟩
 obtain⟨j,rfl⟩:∃j,m=j+1:=⟨m-1,by omega⟩
 simp only[f6,k1 call hc j (by omega),k2 call hc j (by omega)]
def XOF (P:Program)(C:d8->Prop)(nt:Nat)(all l:List Oper)(tm:T Value)(hp:Hp):Prop:=∀call,C call->aC6 P call nt all l tm hp=none/\af7 P call nt all l tm hp []=none
theorem XOF.cons {all rest:List Oper}{o:Oper}{v:Value}(h1:u7 nt o.dst=true)(h2:o.guard=none)(h3:aJ4 o.op=none)(h:∀call,C call->xop P call tm hp o.op=some (v,hp1))(k:XOF P C nt all rest (q9 tm o.dst v) hp1):XOF P C nt all (o::rest) tm hp:=by
 intro call hc
 constructor
 ·rw[N8,h1,bG8,h call hc]
  simp only[j2,h2,bG8];exact(k call hc).1
 ·simp only[af7,h1,bG8,j2,h2,h3,h call hc]
  exact(k call hc).2
theorem XOF.mv {all rest:List Oper}{o:Oper}(h1:u7 nt o.dst=true)(h2:o.guard=none)(h:o.op= .move (.tmp t)){v:Value}(d:tm.get t=some v)(k:XOF P C nt all rest (q9 tm o.dst v) hp):XOF P C nt all (o::rest) tm hp:=
 .cons h1 h2 (by rw[h];rfl) (fun _ _=>by rw[h];simp only[b9,g9,a9,d7,d,bJ3]) k
theorem XOF.bad {all rest:List Oper}{o:Oper}(h1:u7 nt o.dst=true)(h2:o.guard=none)(h3:aJ4 o.op=none)(h:∀call,C call->xop P call tm hp o.op=none):XOF P C nt all (o::rest) tm hp:=by
 intro call hc
 constructor
 ·rw[N8,h1,bG8,h call hc]
  simp only[j2,h2,bG8]
 ·simp only[af7,h1,bG8,j2,h2,h3,h call hc]
theorem XF.region (h:XOF P C nt ops.toList ops.toList tm hp):XF P C nt (.region id ops false) tm hp:=
 ⟨1,fun call hc m hm=>by obtain⟨k,rfl⟩:∃k,m=k+1:=⟨m-1,by omega⟩;simp only[f6,bG9,(h call hc).1,bi0,(h call hc).2]⟩
theorem bc0  {fn : Func} {c : Code}  (h1 : P.funcs[f]? = some fn) (h2 : fn.body = some c) (h : XF P C (args.length + (fn.ntmps - args.length)) c (fill .e 0 args) hp) :
  ∃d,∀call,C call-> ∀m,d<=m-> ∀runD,U2 P (l8 P) call runD m f args hp=none:=by
 obtain⟨d,k1⟩:=h;refine⟨d,fun call hc m hm runD=>?_⟩
 unfold U2
 grind
theorem bz4 (t:TypeId){M:Nat}(hM:M<18446744073709551616)(h:M<m):d7 hp (D7 P .gtr t (.int .i64 m) (.complex .f64 M 0))=none:=by
 have d:I3 (.int .i64 (m:Nat))=some (.i64,m,m+1):=rfl;have l:I3 (.complex .f64 M 0)=some (.i64,M,0):=by
  simp only[I3,O1,aP3];rw[show V6 M=M by unfold V6;exact bP5 hM]
 have p:W8 P .gtr t (.int .i64 m) (.complex .f64 M 0)=none:=rfl;have s:Q1 (M,0) (m,m+1)=none:=by
  unfold Q1;rw[j9 rfl,Bool.not_true,Bool.false_and,bG9,m8 (Nat.succ_ne_zero m),S8 (show M+1<m+1 by omega)]
  rfl
 have u:irem .gtr (.int .i64 m) (.complex .f64 M 0)=none:=rfl;simp only[D7,p,aU8,d,l,bK8,bG8,bq6,s,Option.map_none,u,d7]
theorem bn8 (D : Z7 P g ρ e ie zv) {o:Nat} {vv : Value}  (  u : vv = .slice (some ⟨j, q, none⟩) 1 cm) (  p : Nat.ble (Nat.max lo n) 67108864 = true) (    d : Nat.max lo n < n + 1) (  s : at_ < n)   ( z : hp.m.get i = some (.cells c k e ie.size)) :
  XF P C 95 ((Go.Proofs.Body2.n21 ρ).body.getD .skip) (fill .e 0 [.slice (some ⟨i,o,none⟩) n (c7 lo 0),.int .i64 at_,vv]) hp:=by
 subst u;have w:Nat.max lo n<=67108864:=bF5 p;have A:n<=Nat.max lo n:=bM1 lo n;generalize hM:Nat.max lo n=M at*;have s1:=H8 (hp:=hp) D.t22 D.ty (i:=i) (o:=o) (n:=n) (lo:=lo) (l:=at_) (h:=n) (by rw[hM];exact p) (by rw[hM];omega) (Nat.le_of_lt s) (by rw[hM];omega) z (some (.int .i64 at_)) none (.inl rfl) (.inr ⟨rfl,rfl⟩)
 simp only[Go.Proofs.Body2.n21,bJ3,fill];refine .seq2 (.region (.cons rfl rfl (fun _ _=>rfl) (.nil ?_)))
 refine .seq2 (.region (.mv rfl rfl rfl rfl (.mv rfl rfl rfl rfl (.cons (hp1:=hp) rfl rfl (fun _ _=>s1) (.nil ?_)))))
 refine .seq2 (.region (.mv rfl rfl rfl rfl (.cons (v:= .int .i64 ((1:Nat):Int)) (hp1:=hp) rfl rfl (fun _ _=>B6 D.t22 _ _ _) (.asg rfl rfl rfl rfl (.nil ?_)))))
 refine .seq2 (.seq (.region (.mv rfl rfl rfl rfl (.cons (v:= .bool false) (hp1:=hp) rfl rfl (fun _ _=>V2 (P:=P) (ρ.t 3) (a:=1) (b:=0) (by omega)) (.nil (.condF rfl (.skip ?_)))))))
 refine .seq2 (.region (.mv rfl rfl rfl rfl (.cons (v:= .int .i64 n) (hp1:=hp) rfl rfl (fun _ _=>B6 D.t22 _ _ _) (.asg rfl rfl rfl rfl (.nil ?_)))))
 refine .seq2 (.seq (.region (.mv rfl rfl rfl rfl (.mv rfl rfl rfl rfl (.cons (v:= .bool false) (hp1:=hp) rfl rfl (fun _ _=>V2 (P:=P) (ρ.t 3) (a:=at_) (b:=n) (by omega)) (.nil (.condF rfl (.skip ?_))))))))
 refine .seq1 (.seq1 (.region (.mv rfl rfl rfl rfl (.mv rfl rfl rfl rfl (.cons (v:= .int .i64 ((n+1:Nat):Int)) (hp1:=hp) rfl rfl rfl (fun _ _=>P8 (P:=P) (ρ.t 3) (a:=n) (b:=1) (by omega)) (.mv rfl rfl rfl rfl (.cons (v:= .complex .f64 M 0) (hp1:=hp) rfl rfl rfl (fun _ _=>by rw[<-hM];exact aB4 D.t22 _ B0) (.bad rfl rfl rfl (fun _ _=>bz4 (P:=P) (ρ.t 3) (m:=n+1) (M:=M) (by omega) d)))))))))
structure bi4 (hp:Hp)(i:Nat)(J:Nat->Prop)(e size n:Nat)(V:List Value)(v:Value)(hp':Hp):Prop where
 ex:∃b q lo ct k,v= .slice (some ⟨b,q,none⟩) n (c7 lo 0)/\lo<=67108864/\(b=i\/hp.nx<=b)/\b<hp'.nx/\hp'.m.get b=some (.cells ct k e size)/\q+n*size<=k/\j3 ct q (n*size)=some V
 nx:hp.nx<=hp'.nx
 old:∀x,x<hp.nx->x≠i-> ¬J x->hp'.m.get x=hp.m.get x
theorem aU6 {t : TypeId} (ht : P.underlying t = some (.slice e)) (hi : P.info? e = some ie) (hz : ie.zero = some zv) (  M : zv.cells.toList.length = ie.size) (  K : ie.bytes ≤ 1048576) {o:Nat}   (  D : Nat.ble lo 67108864 = true) (hn : n + 1 ≤ 67108864)
  (hx:m9 hp ie.size x=some (1,news)) (B:i<hp.nx) (H:hp.m.get i=some (.cells c k e ie.size)) (hk:o+n*ie.size<=k) (hl:j3 c o (n*ie.size)=some olds) (h:news.all Value.oneCell'=true) (J:news.length=ie.size):
  ∃v hp1,v9 P hp t t (.slice (some ⟨i,o,none⟩) n (c7 lo 0)) x=some (v,hp1)/\bi4 hp i (fun _=>False) e ie.size (n+1) (olds++news) v hp1:=by
 obtain⟨d,l⟩:∃d,d=n+1:=⟨_,rfl⟩;rw[<-l]at hn⊢;have w:Nat.ble d 67108864=true:=bF8 hn;have F:=(f9 hl).1;have L:d*ie.size=n*ie.size+ie.size:=by grind
 have h1:(Nat.beq zv.cells.toList.length ie.size&&Nat.ble ie.bytes 1048576)=true:=by simp_all
 have p:Nat.ble (o+n*ie.size) k=true:=bF8 hk;have u:(olds++news).length=d*ie.size:=by grind
 cases s:Nat.ble d lo with
 |true=>
  refine⟨.slice (some ⟨i,o,none⟩) d (c7 lo 0),{hp with m:=hp.m.set i (some (.cells (fill c (o+n*ie.size) news) (Nat.max k (o+d*ie.size)) e ie.size))},?_,⟨i,o,lo,fill c (o+n*ie.size) news,Nat.max k (o+d*ie.size),rfl,bF5 D,.inl rfl,B,by simp only[T.get_set,bH3],bM1 _ _,?_⟩,bH4 _,fun x _ hx _=>by simp only[T.get_set,bH1 hx]⟩
  ·unfold v9
   simp only[ht,hi,hz];rw[h1,bG8,hx];simp only[H];rw[<-l,w];simp only[h,Bool.and_self,bG8,m8 (Nat.one_ne_zero),bG9,bF8 (j4 lo 0),J8,N5,p,j9,s,E6];rw[show Nat.ble 1 0=false from rfl,Bool.false_and,bG9]
  ·rw[<-u]
   exact A4 (fun y hy=>by
    rw[i4]
    by_cases z:y<n*ie.size
    ·rw[bH1 (by omega),bG0 (by omega)]
     exact((f9 hl).2 y z).symm
    ·rw[bH3 (by omega),bF9 (by omega),F]
     congr 1;omega)
 |false=>
  have A:∀y,y<d*ie.size->(bif Nat.beq o 0 then fill c (n*ie.size) news else fill (fill .e 0 olds) (n*ie.size) news).get y=(olds++news)[y]? :=by
   intro y hy;cases E:Nat.beq o 0 with
   |true=>
    have E:=bF6 E;subst E;rw[bG8,i4]
    by_cases z:y<n*ie.size
    ·rw[bH1 (by omega),bG0 (by omega)]
     have:=(f9 hl).2 y z
     grind
    ·grind
   |false=>
    rw[bG9,i4]
    by_cases z:y<n*ie.size
    ·rw[bH1 (by omega),bG0 (by omega),y6 olds y (by omega)]
    ·grind
  refine⟨.slice (some ⟨hp.nx,0,none⟩) d (c7 d 0),⟨(hp.m.set i none).set hp.nx (some (.cells (bif Nat.beq o 0 then fill c (n*ie.size) news else fill (fill .e 0 olds) (n*ie.size) news) (d*ie.size) e ie.size)),hp.nx+1⟩,?_,
   ⟨hp.nx,0,d,_,d*ie.size,rfl,hn,.inr (bH4 _),bL2 _,by simp only[T.get_set,bH3];rfl,by omega,?_⟩,bM6 _,fun x hx G _=>by simp only[T.get_set,bH1 G,bH1 (show x≠hp.nx by omega)]⟩
  ·unfold v9
   simp only[ht,hi,hz];rw[h1,bG8,hx];simp only[H];rw[<-l,w];simp only[h,Bool.and_self,bG8,m8 (Nat.one_ne_zero),bG9,bF8 (j4 lo 0),J8,N5,p,j9,s,hl,T.force_eq];rw[show Nat.ble 1 0=false from rfl,Bool.false_and,bG9]
  ·rw[<-u]
   exact A4 (fun y hy=>by rw[bI3];exact A y (by omega))
theorem bi4.weak {J:Nat->Prop}{e size:Nat}{V:List Value}{v:Value}(h:bi4 hp i (fun _=>False) e size n V v hp'):bi4 hp i J e size n V v hp':=
 ⟨h.ex,h.nx,fun x h1 h2 _=>h.old x h1 h2 (fun h=>h)⟩
def aE5 (P:Program)(C:d8->Prop)(g:FuncId)(args:List Value)(hp:Hp)(v:Value)(hp':Hp):Prop:=∃m0,∀call,C call-> ∀m,m0<=m-> ∀runD,as6 (U2 P (l8 P) call runD m g) args hp=some (v,hp')
theorem aE5.of {v:Value}(h:∃d,∀call,C call-> ∀m,d<=m-> ∀runD,U2 P (l8 P) call runD m g args hp=some (v,hp')):aE5 P C g args hp v hp':=by
 obtain⟨d,h⟩:=h;exact⟨d,fun call hc m hm runD=>by unfold as6;rw[h call hc m hm runD]⟩
set_option maxRecDepth 2000 in
theorem bn6 (D : Z7 P g ρ e ie zv) {o:Nat} (  N : Nat.max lo n ≤ 67108864) (  O : n + 1 ≤ 67108864) ( ac : at_ ≤ n) (  F : j ≠ i) (hi : i < hp.nx) (hj : j < hp.nx)   ( X : hp.m.get i = some (.cells c k e ie.size)) (  M : hp.m.get j = some (.cells cj kj ej zj))
  (hk:o+n*ie.size<=k) (hl:j3 c o (n*ie.size)=some olds) (hn:m9 hp ie.size (.slice (some ⟨j,q,none⟩) 1 cm)=some (1,news)) (G:news.length=ie.size) (A:olds.all Value.oneCell'=true) (l:news.all Value.oneCell'=true):
  ∃v hp',aE5 P (COv ρ) g [.slice (some ⟨i,o,none⟩) n (c7 lo 0),.int .i64 at_,.slice (some ⟨j,q,none⟩) 1 cm] hp v hp'/\bi4 hp i (fun x=>x=j) e ie.size (n+1) (olds.take (at_*ie.size)++news++olds.drop (at_*ie.size)) v hp':=by
 obtain⟨fn,R,f2,U,f4⟩:=D.fn;obtain⟨cd,E⟩:∃cd,fn.body=some cd/\(Go.Proofs.Body2.n21 ρ).body.getD .skip=cd:=⟨_,f2.trans (by rfl),rfl⟩
 have J:=(f9 hl).1;have w:Nat.ble (Nat.max lo n) 67108864=true:=bF8 N;have z:Nat.ble (n+1) 67108864=true:=bF8 O;have aj:n<=Nat.max lo n:=bM1 lo n
 rcases Nat.lt_or_ge at_ n with hlt|hge
 ·by_cases B:n+1<=Nat.max lo n
  ·
   have h:=aI7 D w B hlt F X M hk hl hn G A l;rw[E.2]at h;obtain⟨v,hp',⟨tm1,rfl,q1,q2,q3,ct,k',q4,q5,q6⟩,u⟩:=U3 (args:=[.slice (some ⟨i,o,none⟩) n (c7 lo 0),.int .i64 at_,.slice (some ⟨j,q,none⟩) 1 cm]) R E.1 f4 (by rw[U];exact h)
   refine⟨_,_,.of u,⟨i,o,Nat.max lo n,ct,k',by rw[q1];rfl,N,.inl rfl,by omega,q4,q5,q6⟩,q2,fun x _ hx _=>q3 x hx⟩
  ·
   have H:Nat.max lo n<n+1:=Nat.lt_of_not_le B;have d:=bn8 (C:=COv ρ) D (at_:=at_) (vv:= .slice (some ⟨j,q,none⟩) 1 cm) rfl w H hlt (o:=o) X;rw[E.2]at d;obtain⟨m1,d⟩:=bc0 (C:=COv ρ) (args:=[.slice (some ⟨i,o,none⟩) n (c7 lo 0),.int .i64 at_,.slice (some ⟨j,q,none⟩) 1 cm]) R E.1 (by rw[U];exact d)
   have gi:((T.set .e i (some (.cells c k e ie.size))).set j (some (.cells cj kj ej zj)):T Blk).get i=some (.cells c k e ie.size):=by rw[T.get_set,bH1 (Ne.symm F),T.get_set,bH3 rfl]
   have gj:((T.set .e i (some (.cells c k e ie.size))).set j (some (.cells cj kj ej zj)):T Blk).get j=some (.cells cj kj ej zj):=by rw[T.get_set,bH3 rfl]
   generalize hS:(⟨(T.set .e i (some (.cells c k e ie.size))).set j (some (.cells cj kj ej zj)),hp.nx⟩:Hp)=S at*;have gi:S.m.get i=some (.cells c k e ie.size):=by grind
   have gj:S.m.get j=some (.cells cj kj ej zj):=by grind
   have L:S.nx=hp.nx:=by grind
   have Y:m9 S ie.size (.slice (some ⟨j,q,none⟩) 1 cm)=some (1,news):=by rw[X6 (gj.trans M.symm)];exact hn
   have K:Nat.max (n+1) n=n+1:=bP1 (bM6 n);have hA:=aI7 (hp:=S) D (lo:=n+1) (by rw[K];exact z) (by rw[K];exact bH4 _) hlt F gi gj hk hl Y G A l
   have hB:=bn7 (hp:=S) (C:=COv ρ) D z hlt (by rw[L];exact hi) (by rw[L];exact hj) gi hk hl Y G A l
   rw[E.2]at hA hB;obtain⟨vA,p,⟨al,rfl,a1,a2,a3,cA,kA,a4,a5,a6⟩,mA,Z⟩:=U3 (args:=[.slice (some ⟨i,o,none⟩) n (c7 (n+1) 0),.int .i64 at_,.slice (some ⟨j,q,none⟩) 1 cm]) R E.1 f4 (by rw[U];exact hA)
   obtain⟨vB,s,⟨ao,rfl,b1,b2,b3,cB,kB,b4,b5,b6⟩,mB,aa⟩:=U3 (args:=[.slice (some ⟨i,o,none⟩) n (c7 n (n+1)),.int .i64 at_,.slice (some ⟨j,q,none⟩) 1 cm]) R E.1 f4 (by rw[U];exact hB)
   rw[a1,bJ3]at Z;rw[b1,bJ3]at aa;generalize hV:olds.take (at_*ie.size)++news++olds.drop (at_*ie.size)=V at*;have ab:V.length=(n+1)*ie.size:=(f9 a6).1;refine⟨.slice (some ⟨Nat.max p.nx s.nx,0,none⟩) (n+1) (c7 (n+1) 0),⟨((hp.m.set i none).set j none).set (Nat.max p.nx s.nx) (some (.cells (fill .e 0 V) ((n+1)*ie.size) e ie.size)),Nat.max p.nx s.nx+1⟩,⟨max m1 (max mA mB),fun call hc m hm runD=>?_⟩,?_⟩
   ·unfold as6
    rw[d call hc m (by omega) runD]
    simp only;have e0:(Nat.ble unk (c7 lo 0)&&Nat.beq (z7 (c7 lo 0)) 0&& !(Nat.beq i j)&&Nat.ble (n+1) 67108864)=true:=by
     rw[bF8 (j4 lo 0),J8,j9 rfl,m8 (Ne.symm F),z];rfl
    have e1:(Nat.beq (n+1) (n+1)&&Nat.ble unk (c7 (n+1) 0)&&Nat.ble unk (c7 (n+1) 0))=true:=by
     rw[bF8 (j4 (n+1) 0),j9 rfl];rfl
    have e2:(Nat.ble (o+(n+1)*ie.size) kA&&Nat.ble (0+(n+1)*ie.size) kB&&Nat.beq e e&&Nat.beq ie.size ie.size)=true:=by simp_all
    unfold aN7;simp only;rw[e0,bG8,X,M];simp only;rw[hS,Z call hc m (by omega) runD,aa call hc m (by omega) runD,K]
    simp only;rw[e1,bG8,a4,b4];simp only;rw[e2,bG8,a6,b6];simp only;rw[bi6,Bool.or_true,bG8]
   ·have ad:p.nx<=Nat.max p.nx s.nx:=Nat.le_max_left _ _
    have ai:s.nx<=Nat.max p.nx s.nx:=bM1 _ _;have hx:hp.nx<=Nat.max p.nx s.nx:=by rw[<-L];exact bK9 a2 ad
    refine⟨⟨Nat.max p.nx s.nx,0,n+1,fill .e 0 V,(n+1)*ie.size,rfl,O,.inr hx,bL2 _,by simp only[T.get_set,bH3],Nat.le_of_eq (bI3 _),?_⟩,bK9 hx (bM6 _),fun x ak ae ah=>?_⟩
    ·rw[<-ab]
     exact A4 (fun y hy=>by rw[bI3];exact y6 V y hy)
    ·show(T.set _ _ _:T Blk).get x=_
     rw[T.get_set,bH1 (by omega),T.get_set,bH1 ah,T.get_set,bH1 ae]
 ·
  have W:at_=n:=Nat.le_antisymm ac hge;subst W;obtain⟨v0,h1,_,_⟩:=as9 (hp:=hp) D.t22 D.ty w (bH4 at_) X hk hl;obtain⟨r,hp1,h2,h3⟩:=aU6 D.t22 D.ty D.zero D.zl D.by_ (bF8 (bK9 (Nat.le_max_left lo at_) N)) O hn hi X hk hl l G;have h:=aV6 (C:=COv ρ) D (h1 hp.nx) h2;rw[E.2]at h;obtain⟨v,hp',⟨tm1,rfl,q1,rfl⟩,u⟩:=U3 (args:=[.slice (some ⟨i,o,none⟩) at_ (c7 lo 0),.int .i64 at_,.slice (some ⟨j,q,none⟩) 1 cm]) R E.1 f4 (by rw[U];exact h)
  rw[q1,bJ3]at u;refine⟨r,_,.of u,?_⟩;rw[bK0 (Nat.le_of_eq J),List.drop_eq_nil_of_le (Nat.le_of_eq J),bO1];exact h3.weak
theorem by2 (D : Z7 P g ρ e ie zv)   (hn : m9 hp ie.size (.slice (some ⟨j, q, none⟩) 1 cm) = some (1, news)) :
  ∃v hp',aE5 P C g [.slice none 0 0,.int .i64 ((0:Nat):Int),.slice (some ⟨j,q,none⟩) 1 cm] hp v hp'/\v= .slice (some ⟨hp.nx,0,none⟩) 1 (c7 1 0)/\hp'=hp.new news e ie.size:=by
 obtain⟨fn,w,z,A,B⟩:=D.fn;obtain⟨l,p⟩:∃l,fn.body=some l/\(Go.Proofs.Body2.n21 ρ).body.getD .skip=l:=⟨_,z.trans (by rfl),rfl⟩
 have h1:j6 P hp (ρ.t 22) (.slice none 0 0) (some (.int .i64 ((0:Nat):Int))) none none=some (.slice none 0 0,hp):=by
  have hb:n9 0 0 (some (.int .i64 ((0:Nat):Int))) none none=some (0,0,none):=by simp only[n9,D8 (bH4 0)]
  unfold j6;simp only[D.t22,D.ty];rw[j9 rfl,hb];rfl
 have h2:v9 P hp (ρ.t 22) (ρ.t 22) (.slice none 0 0) (.slice (some ⟨j,q,none⟩) 1 cm)=some (.slice (some ⟨hp.nx,0,none⟩) 1 (c7 1 0),hp.new news e ie.size):=by
  have s:(Nat.beq zv.cells.toList.length ie.size&&Nat.ble ie.bytes 1048576)=true:=by rw[D.zl,j9 rfl,bF8 D.by_];rfl
  have u:(Nat.beq 0 0&&Nat.beq 0 0&&Nat.ble 1 67108864)=true:=by rw[j9 rfl,bF8 (by omega)];rfl
  unfold v9;simp only[D.t22,D.ty,D.zero];rw[s,bG8,hn];simp only;rw[u,bG8,m8 Nat.one_ne_zero,bG9]
 have h:=aV6 (C:=C) D h1 h2;rw[p.2]at h;obtain⟨v,hp',⟨tm1,rfl,q1,rfl⟩,d⟩:=U3 (args:=[.slice none 0 0,.int .i64 ((0:Nat):Int),.slice (some ⟨j,q,none⟩) 1 cm]) w p.1 B (by rw[A];exact h)
 rw[q1,bJ3]at d;exact⟨_,_,.of d,rfl,rfl⟩
theorem bn4 (D : aO0 P g ρ e ie zv) {o a b:Nat} (  d : Nat.max lo n ≤ 67108864) (  u : a < b) (  w : b ≤ n) (hi : i < hp.nx)   ( G : hp.m.get i = some (.cells c k e ie.size)) (hk : o + n * ie.size ≤ k)
   (hl:j3 c o (n*ie.size)=some olds) (l:olds.all Value.oneCell'=true):
  ∃v hp',aE5 P C g [.slice (some ⟨i,o,none⟩) n (c7 lo 0),.int .i64 a,.int .i64 b] hp v hp'/\bi4 hp i (fun _=>False) e ie.size (a+(n-b)) (olds.take (a*ie.size)++olds.drop (b*ie.size)) v hp':=by
 obtain⟨fn,A,B,E,F⟩:=D.fn;obtain⟨s,z⟩:∃s,fn.body=some s/\(Go.Proofs.Body2.n23 ρ).body.getD .skip=s:=⟨_,B.trans (by rfl),rfl⟩
 have h:=bx6 (C:=C) D (bF8 d) u w G hk hl l;rw[z.2]at h;obtain⟨v,hp',⟨tm1,rfl,q1,q2,H,ct,J,K⟩,p⟩:=U3 (args:=[.slice (some ⟨i,o,none⟩) n (c7 lo 0),.int .i64 a,.int .i64 b]) A z.1 F (by rw[E];exact h)
 refine⟨_,_,.of p,⟨i,o,Nat.max lo n,ct,k,by rw[q1];rfl,d,.inl rfl,by omega,J,?_,K⟩,q2,fun x _ hx _=>H x hx⟩
 have:(a+(n-b))*ie.size<=n*ie.size:=bG4 _ (by omega)
 omega
end
end Go.Xe
end PartXm422
