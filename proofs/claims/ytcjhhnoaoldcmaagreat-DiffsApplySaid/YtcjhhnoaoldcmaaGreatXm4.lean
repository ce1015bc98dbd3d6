/- The executor: Delete and Insert, parts 22, 23.
  Conditions: none. -/
import Derived.Test.YtcjhhnoaoldcmaaGreatSm3
import Derived.Shelf.Bodies2
import Derived.KernelRfl
set_option linter.all false
noncomputable section PartXm422
namespace Go.Xe
open Go.RowKit
structure sP (P:Ax)(g:Az)(ρ:Go.Shelf.Ren)(e:Ay)(ie:Bb)(zv:Aw):Prop where
 fn:∃fn,P.funcs[g]? =some fn/\fn.body=(Go.Proofs.Body2.n23 ρ).body/\fn.ntmps=33/\fn.results= #[.tmp 6]
 t22:P.underlying (ρ.t 22)=some (.slice e)
 ty:P.info? e=some ie
 zero:ie.zero=some zv
 cst:cst zv=true
 zl:zv.cells.toList.length=ie.size
 one:zv.cells.toList.all Value.oneCell'=true
 by_:ie.bytes<=1048576
section
variable {P :Ax}{g:Az}{ρ:Go.Shelf.Ren}{e:Ay}{ie:Bb}{zv:Aw}{call:c7}{runD:Az->Af->Hp->Bc (Aw×Hp)}{hp:Hp}
def Q3 (lo:Nat):L6 (c8 lo 0)=lo:=G2 E6
def N7 (lo:Nat):D1 (c8 lo 0)=0:=G1 E6
theorem ble_f {a b:Nat}(h:b<a):Nat.ble a b=false:=by
 cases e:Nat.ble a b with
 |false=>rfl|true=>simp_all;omega
variable {m:Nat}
theorem F6 {v:Nat}(h:v<=m):M4 (.int .i64 v) m=some v:=by simp only[M4];grind
variable {e' i k lo n:Nat}
theorem jX {t:Ay}(ht:P.underlying t=some (.slice e))(hi:P.info? e=some ie){o up l h:Nat}(a:up<unk)(s:Nat.ble (Nat.max lo n) 67108864=true)(hh:h<=Nat.max lo n)(hl:l<=h)(hlt:l<Nat.max lo n){c:Ao}(z:hp.m.get i=some (.cells c k e' ie.size))(p d:Ag)(w:p=some (.int .i64 l)\/(p=none/\l=0))(u:d=some (.int .i64 h)\/(d=none/\h=n)):i9 P hp t (.slice (some ⟨i,o,none⟩) n (c8 lo up)) p d none=some (.slice (some ⟨i,o+l*ie.size,none⟩) (h-l) (c8 (Nat.max lo n-l) (up-l)),hp):=by
 have hb:p9 n (Nat.max lo n) p d none=some (l,h,none):=by rcases u with rfl| ⟨rfl,rfl⟩<;>rcases w with rfl| ⟨rfl,rfl⟩<;>simp only[p9,Option.getD_none,F6 hh,F6 hl]
 unfold i9;simp only[ht,hi,G2 a,G1 a,JS (j1 lo up),Kc];rw[s,Kc,hb];simp only;by_cases h0:l=0
 ·simp_all
 ·rw[s7 h0,Ke,s7 (by omega),Ke,z];simp_all
theorem O2 {t:Ay}(ht:P.underlying t=some (.slice e))(hi:P.info? e=some ie){o l h:Nat}(p:Nat.ble (Nat.max lo n) 67108864=true)(hh:h<=Nat.max lo n)(hl:l<=h)(hlt:l<Nat.max lo n){c:Ao}(w:hp.m.get i=some (.cells c k e' ie.size))(d a:Ag)(u:d=some (.int .i64 l)\/(d=none/\l=0))(s:a=some (.int .i64 h)\/(a=none/\h=n)):i9 P hp t (.slice (some ⟨i,o,none⟩) n (c8 lo 0)) d a none=some (.slice (some ⟨i,o+l*ie.size,none⟩) (h-l) (c8 (Nat.max lo n-l) 0),hp):=by have:=jX (hp:=hp) ht hi (o:=o) E6 p hh hl hlt w d a u s;grind
def XS (P:Ax)(C:c7->Prop)(nt:Nat)(c:Code)(tm:Ao)(hp:Hp)(r:XR):Prop:=∃m0,∀call,C call-> ∀m,m0<=m->f9 P (j3 P) call nt none m c tm hp []=some r
variable {C :c7->Prop}{nt:Nat}{tm tm1:Ao}{hp1:Hp}{r:XR}
def XS.ret :XS P C nt .ret tm hp (.mk .ret tm hp []):=⟨1,fun _ _ m hm=>by obtain⟨k,rfl⟩:∃k,m=k+1:=⟨m-1,by omega⟩;rfl⟩
def XS.skip :XS P C nt .skip tm hp (.mk .normal tm hp []):=⟨1,fun _ _ m hm=>by obtain⟨k,rfl⟩:∃k,m=k+1:=⟨m-1,by omega⟩;rfl⟩
variable {id:Nat}{ops:Am}
def XS.region (h:∀call,C call->oC P call nt ops.toList ops.toList tm hp=some (tm1,hp1)):XS P C nt (.region id ops false) tm hp (.mk .normal tm1 hp1 []):=
 ⟨1,fun call hc m hm=>by obtain⟨k,rfl⟩:∃k,m=k+1:=⟨m-1,by omega⟩;simp only[f9,Ke,h call hc]⟩
def XS.draw (h:∀call,C call->j3 P call nt ops.toList tm hp=some (tm1,hp1)):XS P C nt (.region id ops true) tm hp (.mk .normal tm1 hp1 []):=
 ⟨1,fun call hc m hm=>by obtain⟨k,rfl⟩:∃k,m=k+1:=⟨m-1,by omega⟩;simp only[f9,Kc,h call hc]⟩
variable {b:Code}
def XS.seq {a:Code}(h:XS P C nt a tm hp (.mk .normal tm1 hp1 []))(k:XS P C nt b tm1 hp1 r):XS P C nt (.seq a b) tm hp r:=by
 obtain⟨c,h⟩:=h;obtain⟨m2,k⟩:=k;refine⟨max c m2+1,fun call hc m hm=>?_⟩;obtain⟨j,rfl⟩:∃j,m=j+1:=⟨m-1,by omega⟩
 simp only[f9,h call hc j (by omega),k call hc j (by omega)]
def XS.seqR {a:Code}(h:XS P C nt a tm hp (.mk .ret tm1 hp1 [])):XS P C nt (.seq a b) tm hp (.mk .ret tm1 hp1 []):=by
 obtain⟨c,h⟩:=h;refine⟨c+1,fun call hc m hm=>?_⟩;obtain⟨j,rfl⟩:∃j,m=j+1:=⟨m-1,by omega⟩
 simp only[f9,h call hc j (by omega)]
def XS.condT {c:Ba}{a:Code}(hc:a9 tm c=some (.bool true))(h:XS P C nt a tm hp r):XS P C nt (.cond c a b) tm hp r:=by
 obtain⟨l,h⟩:=h;refine⟨l+1,fun call d m hm=>?_⟩;obtain⟨j,rfl⟩:∃j,m=j+1:=⟨m-1,by omega⟩
 simp only[f9,hc,h call d j (by omega)]
def XS.condF {c:Ba}{a:Code}(hc:a9 tm c=some (.bool false))(h:XS P C nt b tm hp r):XS P C nt (.cond c a b) tm hp r:=by
 obtain⟨l,h⟩:=h;refine⟨l+1,fun call d m hm=>?_⟩;obtain⟨j,rfl⟩:∃j,m=j+1:=⟨m-1,by omega⟩
 simp only[f9,hc,h call d j (by omega)]
def XN (P:Ax)(C:c7->Prop)(nt:Nat)(c:Code)(tm:Ao)(hp:Hp)(Q:Ao->Hp->Prop):Prop:=∃tm1 hp1,XS P C nt c tm hp (.mk .normal tm1 hp1 [])/\Q tm1 hp1
def XT (P:Ax)(C:c7->Prop)(nt:Nat)(c:Code)(tm:Ao)(hp:Hp)(Q:Ao->Hp->Prop):Prop:=∃tm1 hp1,XS P C nt c tm hp (.mk .ret tm1 hp1 [])/\Q tm1 hp1
def XO (P:Ax)(C:c7->Prop)(nt:Nat)(all l:An)(tm:Ao)(hp:Hp)(Q:Ao->Hp->Prop):Prop:=∃tm1 hp1,(∀call,C call->oC P call nt all l tm hp=some (tm1,hp1))/\Q tm1 hp1
variable {Q :Ao->Hp->Prop}
def XT.ret (h:Q tm hp):XT P C nt .ret tm hp Q:=⟨_,_,XS.ret,h⟩
def XN.skip (h:Q tm hp):XN P C nt .skip tm hp Q:=⟨_,_,XS.skip,h⟩
def XN.seq {a:Code}(h:XN P C nt a tm hp fun tm1 hp1=>XN P C nt b tm1 hp1 Q):XN P C nt (.seq a b) tm hp Q:=by obtain⟨t1,h1,k1,t2,h2,k2,k3⟩:=h;exact⟨t2,h2,k1.seq k2,k3⟩
def XT.seq {a:Code}(h:XN P C nt a tm hp fun tm1 hp1=>XT P C nt b tm1 hp1 Q):XT P C nt (.seq a b) tm hp Q:=by obtain⟨t1,h1,k1,t2,h2,k2,k3⟩:=h;exact⟨t2,h2,k1.seq k2,k3⟩
def XT.seqR {a:Code}(h:XT P C nt a tm hp Q):XT P C nt (.seq a b) tm hp Q:=by obtain⟨t1,h1,k1,k2⟩:=h;exact⟨t1,h1,k1.seqR,k2⟩
def XN.condF {c:Ba}{a:Code}(hc:a9 tm c=some (.bool false))(h:XN P C nt b tm hp Q):XN P C nt (.cond c a b) tm hp Q:=by obtain⟨t1,h1,k1,k2⟩:=h;exact⟨t1,h1,k1.condF hc,k2⟩
def XT.condT {c:Ba}{a:Code}(hc:a9 tm c=some (.bool true))(h:XT P C nt a tm hp Q):XT P C nt (.cond c a b) tm hp Q:=by obtain⟨t1,h1,k1,k2⟩:=h;exact⟨t1,h1,k1.condT hc,k2⟩
def XN.region (h:XO P C nt ops.toList ops.toList tm hp Q):XN P C nt (.region id ops false) tm hp Q:=by obtain⟨t1,h1,k1,k2⟩:=h;exact⟨t1,h1,.region k1,k2⟩
def XO.nil {all:An}(h:Q tm hp):XO P C nt all [] tm hp Q:=⟨_,_,fun _ _=>iS,h⟩
theorem XO.cons {all rest:An}{o:Oper}{v:Aw}(h1:j4 nt o.dst=true)(h2:o.guard=none)(h:∀call,C call->xop P call tm hp o.op=some (v,hp1))(k:XO P C nt all rest (j0 tm o.dst v) hp1 Q):XO P C nt all (o::rest) tm hp Q:=by obtain⟨t1,a,k1,k2⟩:=k;refine⟨t1,a,fun call hc=>?_,k2⟩;rw[L4,h1,Kc,h call hc];simp only[e9,h2,Kc];grind
variable {t:Tmp}
def XO.mv {all rest:An}{o:Oper}(h1:j4 nt o.dst=true)(h2:o.guard=none)(h:o.op= .move (.tmp t)){v:Aw}(a:tm.get t=some v)(k:XO P C nt all rest (j0 tm o.dst v) hp Q):XO P C nt all (o::rest) tm hp Q:=
 .cons h1 h2 (fun _ _=>by rw[h];simp only[b9,f7,a9,c9,a,KC]) k
def XO.asg {all rest:An}{o:Oper}(h1:j4 nt o.dst=true)(h2:o.guard=none)(h:o.op= .assign (.tmp t)){v:Aw}(a:tm.get t=some v)(k:XO P C nt all rest (j0 tm o.dst v) hp Q):XO P C nt all (o::rest) tm hp Q:=
 .cons h1 h2 (fun _ _=>by rw[h];simp only[b9,f7,a9,c9,a,KC]) k
def gI {t:Ay}(ht:P.underlying t=some (.slice e))(a:Ar)(n c:Nat):V3 hp P t (.slice a n c)=some (.int .i64 n):=by unfold V3 lu;simp only[ht]
def G5 {t:Ay}(ht:P.underlying t=some (.slice e))(a:Ar)(n c:Nat):c9 hp (V3 hp P t (.slice a n c))=some (.int .i64 n,hp):=by rw[gI ht];rfl
variable {x y:Aw}
def jI {t u:Ay}{r:Aw×Hp}(h:y9 P hp t u x y=some r):l8 P hp .append [t,u] [x,y]=some r:=by simp only[l8,h]
def XG (P:Ax)(C:c7->Prop)(nt:Nat)(all:An)(nx0:Nat)(l:List (Oper×Nat))(i:Nat)(tm:Ao)(S:Hp)(I:Nat)(es:List Ent)(Q:Out->Prop):Prop:=∃out,(∀call,C call->xgo P call nt all nx0 l i tm S I es=some out)/\Q out
variable {all :An}{nx0:Nat}{rest:List (Oper×Nat)}{o:Oper}{pre ix I:Nat}{S S2:Hp}{es:List Ent}{QO:Out->Prop}{v:Aw}
def XG.nil (h:QO ⟨tm,S,I,es⟩):XG P C nt all nx0 [] ix tm S I es QO:=⟨_,fun _ _=>rfl,h⟩
theorem XG.k0 (h1:j4 nt o.dst=true)(h2:o.guard=none)(h3:d5 o.op=0)(h:∀call,C call->xop P call tm S o.op=some (v,S))(k:XG P C nt all nx0 rest (ix+1) (j0 tm o.dst v) S I (⟨ix,o,pre,tm,S,S,I,true,v,none⟩::es) QO):XG P C nt all nx0 ((o,pre)::rest) ix tm S I es QO:=by obtain⟨a,k1,k2⟩:=k;refine⟨a,fun call hc=>?_,k2⟩;unfold xgo;rw[h1,Kc];simp only[e9,h2,Kc,h3,h call hc];grind
theorem XG.k1 (h1:j4 nt o.dst=true)(h2:o.guard=none)(h3:d5 o.op=1)(h:∀call,xop P call tm S o.op=some (v,S))(k:XG P C nt all nx0 rest (ix+1) (j0 tm o.dst v) S I (⟨ix,o,pre,tm,S,S,I,true,v,none⟩::es) QO):XG P C nt all nx0 ((o,pre)::rest) ix tm S I es QO:=by
 obtain⟨a,k1,k2⟩:=k;refine⟨a,fun call hc=>?_,k2⟩;unfold xgo;rw[h1,Kc];have:xrd P tm S o.op=some v:=by unfold xrd;simp_all
 simp only[e9,h2,Kc,h3,this];grind
def XG.k3 (h1:j4 nt o.dst=true)(h2:o.guard=none)(h3:d5 o.op=3)(ht:takes nx0 (ee pre I) es S=S)(h:∀call,C call->xop P call tm S o.op=some (v,S2))(k:XG P C nt all nx0 rest (ix+1) (j0 tm o.dst v) S2 (I|||pre) (⟨ix,o,pre,tm,S,S2,I,true,v,none⟩::es) QO):XG P C nt all nx0 ((o,pre)::rest) ix tm S I es QO:=by obtain⟨a,k1,k2⟩:=k;refine⟨a,fun call hc=>?_,k2⟩;unfold xgo;rw[h1,Kc];simp only[e9,h2,Kc,h3,ht,h call hc];exact k1 call hc
def XG.mv (h1:j4 nt o.dst=true)(h2:o.guard=none)(h3:o.op= .move (.tmp t))(a:tm.get t=some v)(k:XG P C nt all nx0 rest (ix+1) (j0 tm o.dst v) S I (⟨ix,o,pre,tm,S,S,I,true,v,none⟩::es) QO):XG P C nt all nx0 ((o,pre)::rest) ix tm S I es QO:=
 .k0 h1 h2 (by rw[h3];rfl) (fun _ _=>by rw[h3];simp only[b9,f7,a9,c9,a,KC]) k
def XG.asg (h1:j4 nt o.dst=true)(h2:o.guard=none)(h3:o.op= .assign (.tmp t))(a:tm.get t=some v)(k:XG P C nt all nx0 rest (ix+1) (j0 tm o.dst v) S I (⟨ix,o,pre,tm,S,S,I,true,v,none⟩::es) QO):XG P C nt all nx0 ((o,pre)::rest) ix tm S I es QO:=
 .k0 h1 h2 (by rw[h3];rfl) (fun _ _=>by rw[h3];simp only[b9,f7,a9,c9,a,KC]) k
theorem XN.drawG (c:stat ops.toList (C4 ops.toList [])=true)(h:XG P C nt ops.toList hp.nx (ops.toList.zip (C4 ops.toList [])) 0 tm ⟨hp.m,hp.nx+ops.toList.length⟩ 0 [] fun a=>dyn P ⟨hp.m,hp.nx+ops.toList.length⟩ a.es=true/\takes hp.nx (ea a.I) a.es a.S=a.S/\Q a.tm a.S):XN P C nt (.region id ops true) tm hp Q:=by
 obtain⟨a,h1,h2,h3,h4⟩:=h;refine⟨a.tm,a.S,.draw fun call hc=>?_,h4⟩;have:N3 P call nt ops.toList tm hp=some (a.tm,a.S):=by unfold N3;grind
 unfold j3;grind
variable {f:Az}
def T6 {fn:Func}{c:Code}{args:Af}{r:Tmp}(h1:P.funcs[f]? =some fn)(h2:fn.body=some c)(h3:fn.results= #[.tmp r])(h:XT P C (args.length+(fn.ntmps-args.length)) c (fill .e 0 args) hp Q):∃v hp',(∃tm1,tm1.get r=v/\Q tm1 hp')/\ ∃m0,∀call,C call-> ∀m,m0<=m-> ∀runD,V2 P (j3 P) call runD m f args hp=some (v.getD undef,hp'):=by obtain⟨tm1,hp1,⟨m0,k1⟩,k2⟩:=h;refine⟨_,hp1,⟨tm1,rfl,k2⟩,m0,fun call hc m hm runD=>?_⟩;unfold V2;simp only[h1,h2,k1 call hc m hm,jO,I3,h3,C8,P6,bI]
variable {vs:Af}
theorem eJ {c:Ao}{o:Nat}(h:d6 c o n=some vs){a:Nat}(hm:a+m<=n):d6 c (o+a) m=some ((vs.drop a).take m):=by
 obtain⟨h1,h2⟩:=g9 h;have d:((vs.drop a).take m).length=m:=by grind
 have:=i8 (c:=c) (vs:=(vs.drop a).take m) (o:=o+a) (fun j hj=>by rw[d]at hj;rw[Kt,Ki hj,Kz,h2 (a+j) (by omega),KU]);grind
theorem xZ {t:Ay}(ht:P.underlying t=some (.slice e))(hi:P.info? e=some ie){o a b:Nat}(h:Nat.ble (Nat.max lo n) 67108864=true)(c:a<=b)(d:b<=n):∃v,i9 P hp t (.slice (some ⟨i,o,none⟩) n (c8 lo 0)) (some (.int .i64 a)) (some (.int .i64 b)) (some (.int .i64 n))=some (v,hp):=by
 have hb:p9 n (Nat.max lo n) (some (.int .i64 a)) (some (.int .i64 b)) (some (.int .i64 n))=some (a,b,some n):=by simp only[p9,F6 (Lg lo n),KG,KC,F6 d,F6 c]
 unfold i9;simp only[ht,hi,Q3,N7,JS (j1 lo 0),Kc];rw[h,Kc,hb];cases hc:Nat.beq n a with
 |true=>simp_all|false=>simp_all
def vY {t:Ay}(ht:P.underlying t=some (.slice e))(hi:P.info? e=some ie){o b:Nat}(c:Nat.ble (Nat.max lo n) 67108864=true)(hb:b=0):i9 P hp t (.slice (some ⟨i,o,none⟩) n (c8 lo 0)) (some (.int .i64 b)) none none=some (.slice (some ⟨i,o,none⟩) n (c8 (Nat.max lo n) 0),hp):=by
 have a:p9 n (Nat.max lo n) (some (.int .i64 b)) none none=some (b,n,none):=by simp only[p9,F6 (show b<=n by omega)]
 unfold i9;simp only[ht,hi,Q3,N7,JS (j1 lo 0),Kc];rw[c,Kc,a];simp only;rw[l6 hb,Kc]
def ya {t:Ay}(ht:P.underlying t=some (.slice e))(hi:P.info? e=some ie){o b:Nat}(c:Nat.ble (Nat.max lo b) 67108864=true)(hb:b≠0)(d:Nat.max lo b=b):i9 P hp t (.slice (some ⟨i,o,none⟩) b (c8 lo 0)) (some (.int .i64 b)) none none=some (.slice (some ⟨0,0,some 0⟩) 0 unk,hp):=by
 have a:p9 b (Nat.max lo b) (some (.int .i64 b)) none none=some (b,b,none):=by simp only[p9,F6 (Kj b)]
 unfold i9;simp only[ht,hi,Q3,N7,JS (j1 lo 0),Kc];rw[c,Kc,a];simp only;rw[s7 hb,Ke,l6 d.symm,Kc]
variable {olds:Af}
theorem kZ {t:Ay}(ht:P.underlying t=some (.slice e))(hi:P.info? e=some ie){o b:Nat}(p:Nat.ble (Nat.max lo n) 67108864=true)(s:b<=n){c:Ao}(u:hp.m.get i=some (.cells c k e' ie.size))(hk:o+n*ie.size<=k)(hl:d6 c o (n*ie.size)=some olds):∃x,(∀nx,i9 P ⟨hp.m,nx⟩ t (.slice (some ⟨i,o,none⟩) n (c8 lo 0)) (some (.int .i64 b)) none none=some (x,⟨hp.m,nx⟩))/\(∀nx,j2 ⟨hp.m,nx⟩ ie.size x=some (n-b,olds.drop (b*ie.size)))/\(b<n-> ∃q c',x= .slice (some ⟨i,q,none⟩) (n-b) c'):=by
 have z:n*ie.size=b*ie.size+(n-b)*ie.size:=by rw[<-Kw];congr 1;omega
 have w:=(g9 hl).1;have l:n<=Nat.max lo n:=Lg lo n;by_cases hlt:b<Nat.max lo n
 ·refine⟨_,fun nx=>O2 (hp:=⟨hp.m,nx⟩) ht hi p (Lg lo n) s hlt u _ _ (.inl rfl) (.inr ⟨rfl,rfl⟩),fun nx=>?_,fun _=>⟨_,_,rfl⟩⟩;have h1:=eJ hl (a:=b*ie.size) (m:=(n-b)*ie.size) (by omega);rw[KK (by rw[KN];omega)]at h1;have d:Nat.ble (o+b*ie.size+(n-b)*ie.size) k=true:=JS (by omega);simp only[j2,u,rdC,d,Kc,h1]
 ·have hb:b=n:=Nat.le_antisymm s (KS l (Lp hlt));subst hb;have l:Nat.max lo b=b:=Nat.le_antisymm (Lp hlt) l;rcases Nat.eq_zero_or_pos b with h0|hpos
  ·refine⟨_,fun nx=>vY ht hi p h0,fun nx=>?_,fun h=>absurd h (Nat.lt_irrefl _)⟩;have d:Nat.ble (o+b*ie.size) k=true:=JS (by omega);simp only[j2,u,rdC];rw[d,Kc,hl];simp_all
  ·refine⟨_,fun nx=>ya ht hi p (Nat.pos_iff_ne_zero.1 hpos) l,fun nx=>?_,fun h=>absurd h (Nat.lt_irrefl _)⟩;simp only[j2,Nat.sub_self];grind
variable {news:Af}
theorem sr {t:Ay}(ht:P.underlying t=some (.slice e))(hi:P.info? e=some ie)(hz:ie.zero=some zv)(B:zv.cells.toList.length=ie.size)(A:ie.bytes<=1048576){o sl L:Nat}(hx:j2 hp ie.size x=some (m,news)){c:Ao}(u:hp.m.get i=some (.cells c k e ie.size))(hk:o+(sl+m)*ie.size<=k)(z:sl+m<=L)(h:Nat.ble L 67108864=true)(a:news.all Value.oneCell'=true)(p:news.length=m*ie.size):∃hp1 ct,y9 P hp t t (.slice (some ⟨i,o,none⟩) sl (c8 L 0)) x=some (.slice (some ⟨i,o,none⟩) (sl+m) (c8 L 0),hp1)/\hp1.nx=hp.nx/\(∀j,j≠i->hp1.m.get j=hp.m.get j)/\hp1.m.get i=some (.cells ct k e ie.size)/\ ∀y,ct.get y=(fill c (o+sl*ie.size) news).get y:=by
 have d:Nat.ble (sl+m) 67108864=true:=JS (KS z (JP h));have h1:(Nat.beq zv.cells.toList.length ie.size&&Nat.ble ie.bytes 1048576)=true:=by simp_all
 by_cases hm:m=0
 ·subst hm;have hn:news=[]:=JR (by rw[p,Ly]);subst hn;refine⟨hp,c,?_,rfl,fun _ _=>rfl,u,fun _=>rfl⟩;have l:Nat.ble sl (c8 L 0)=true:=JS (by have:=j1 L 0;have:=JP h;unfold unk at*;omega);unfold y9;simp only[ht,hi,hz];rw[h1,Kc,hx];simp only[u];rw[d];simp only[a,Bool.and_self,Kc,l6,l,Lb]
 ·have s:Nat.max k (o+(sl+m)*ie.size)=k:=LI hk;refine⟨{hp with m:=hp.m.set i (some (.cells (fill c (o+sl*ie.size) news) k e ie.size))},fill c (o+sl*ie.size) news,?_,rfl,fun j hj=>?_,by simp only[Mw,Ki],fun _=>rfl⟩
  ·unfold y9;simp only[ht,hi,hz];rw[h1,Kc,hx];simp only[u];rw[d];have w:Nat.ble (o+sl*ie.size) k=true:=JS (by rw[Kw]at hk;omega);simp only[a,Bool.and_self,Kc,s7 hm,Ke,JS (j1 L 0),N7,Q3,w,l6,JS z,s,E7];rw[show Nat.ble 1 0=false from rfl,Bool.false_and,Ke]
  ·simp only[Mw,Kg hj]
def vJ {t:Ay}(ht:P.underlying t=some (.slice e))(hi:P.info? e=some ie)(hz:ie.zero=some zv)(p:cst zv=true)(l:zv.cells.toList.length=ie.size)(h:zv.cells.toList.all Value.oneCell'=true){o cc:Nat}{c:Ao}{u:Nat}(w:hp.m.get i=some (.cells c k e' u))(hk:o+m*ie.size<=k):∃hp1 ct vs,jJ P hp t (.slice (some ⟨i,o,none⟩) m cc)=some (.tuple #[],hp1)/\hp1.nx=hp.nx/\(∀j,j≠i->hp1.m.get j=hp.m.get j)/\hp1.m.get i=some (.cells ct k e' u)/\(∀y,ct.get y=(fill c o vs).get y)/\vs.length=m*ie.size:=by
 cases m with
 |zero=>exact⟨hp,c,[],by simp only[jJ,ht],rfl,fun _ _=>rfl,w,fun _=>rfl,by simp⟩|succ m=>
  have s:D6 P e=some zv:=by unfold D6;simp only[hi,hz,p,Kc]
  have hl:(xrep (m+1) zv.cells.toList).length=(m+1)*ie.size:=by rw[xrep_length,l]
  have a:(xrep (m+1) zv.cells.toList).all Value.oneCell'=true:=by rw[Kq];intro v z;obtain⟨j,hj,rfl⟩:=List.getElem_of_mem z;have h2:=eE zv.cells.toList (m+1) j (by rw[l,<-hl];exact hj);rw[JX hj]at h2;exact(Kq.1 h) _ (JV h2.symm)
  have d:Nat.ble (o+(xrep (m+1) zv.cells.toList).length) k=true:=JS (by rw[hl];exact hk);refine⟨{hp with m:=hp.m.set i (some (.cells (fill c o (xrep (m+1) zv.cells.toList)) k e' u))},fill c o (xrep (m+1) zv.cells.toList),xrep (m+1) zv.cells.toList,?_,rfl,fun j hj=>?_,by simp only[Mw,Ki],fun _=>rfl,hl⟩
  ·simp only[jJ,ht,s,w,d,a,Bool.and_self,Kc,E7]
  ·simp only[Mw,Kg hj]
theorem FM (D:sP P g ρ e ie zv){o a b:Nat}(p:Nat.ble (Nat.max lo n) 67108864=true)(w:a<b)(u:b<=n){c:Ao}(A:hp.m.get i=some (.cells c k e ie.size))(hk:o+n*ie.size<=k)(hl:d6 c o (n*ie.size)=some olds)(R:olds.all Value.oneCell'=true):XT P C 33 ((Go.Proofs.Body2.n23 ρ).body.getD .skip) (fill .e 0 [.slice (some ⟨i,o,none⟩) n (c8 lo 0),.int .i64 a,.int .i64 b]) hp fun tm' hp'=>tm'.get 6=some (.slice (some ⟨i,o,none⟩) (a+(n-b)) (c8 (Nat.max lo n) 0))/\hp.nx<=hp'.nx/\(∀j,j≠i->hp'.m.get j=hp.m.get j)/\ ∃ct,hp'.m.get i=some (.cells ct k e ie.size)/\d6 ct o ((a+(n-b))*ie.size)=some (olds.take (a*ie.size)++olds.drop (b*ie.size)):=by
 have O:=(g9 hl).1;have F:n*ie.size=b*ie.size+(n-b)*ie.size:=by rw[<-Kw];congr 1;omega
 have E:b*ie.size=a*ie.size+(b-a)*ie.size:=by rw[<-Kw];congr 1;omega
 have U:(a+(n-b))*ie.size=a*ie.size+(n-b)*ie.size:=Kw _ _ _;have G:n<=Nat.max lo n:=Lg lo n;obtain⟨V,h3⟩:=xZ (hp:=hp) D.t22 D.ty (i:=i) (o:=o) (a:=a) (b:=b) p (Nat.le_of_lt w) u;obtain⟨x,K,M,_⟩:=kZ (hp:=hp) D.t22 D.ty p u A hk hl;have hs1:=O2 (hp:=⟨hp.m,hp.nx+8⟩) D.t22 D.ty (i:=i) (o:=o) (n:=n) (lo:=lo) (l:=0) (h:=a) p (by omega) (LF _) (by omega) A none (some (.int .i64 a)) (.inr ⟨rfl,rfl⟩) (.inl rfl);rw[Ly,Lb,Ls,Ls]at hs1;have z:(olds.drop (b*ie.size)).length=(n-b)*ie.size:=by grind
 have s:(olds.drop (b*ie.size)).all Value.oneCell'=true:=by grind
 obtain⟨hp2,X,a1,a2,a3,a4,a5⟩:=sr (hp:=⟨hp.m,hp.nx+8⟩) D.t22 D.ty D.zero D.zl D.by_ (i:=i) (o:=o) (sl:=a) (L:=Nat.max lo n) (M _) A (by omega) (by omega) p s z;have J:=O2 (hp:=hp2) D.t22 D.ty (i:=i) (o:=o) (n:=a+(n-b)) (lo:=Nat.max lo n) (l:=a+(n-b)) (h:=n) (by rw[show Nat.max (Nat.max lo n) (a+(n-b))=Nat.max lo n from LI (by omega)];exact p)
  (KS G (Nat.le_max_left _ _)) (by omega) (KO (by omega) (Nat.le_max_left _ _)) a4 (some (.int .i64 ((a+(n-b):Nat):Int))) (some (.int .i64 n)) (.inl rfl) (.inl rfl)
 obtain⟨H,N,vs,b1,b2,b3,b4,b5,W⟩:=vJ (hp:=hp2) D.t22 D.ty D.zero D.cst D.zl D.one (i:=i) (o:=o+(a+(n-b))*ie.size) (m:=n-(a+(n-b))) (cc:=c8 (Nat.max (Nat.max lo n) (a+(n-b))-(a+(n-b))) 0) a4
  (by have : (n - (a + (n - b))) * ie.size = (b - a) * ie.size := by congr 1; omega
      omega)
 simp only[Go.Proofs.Body2.n23,KC,fill];refine .seq (.region (.cons rfl rfl (fun _ _=>rfl) (.nil ?_)));refine .seq (.region ?_);refine .mv rfl rfl rfl rfl (.mv rfl rfl rfl rfl (.mv rfl rfl rfl rfl (.mv rfl rfl rfl rfl (.cons (v:= .int .i64 n) (hp1:=hp) rfl rfl (fun _ _=>G5 D.t22 _ _ _) (.cons (v:=V) (hp1:=hp) rfl rfl (fun _ _=>h3) (.nil ?_))))));refine .seq (.seq (.region (.mv rfl rfl rfl rfl (.mv rfl rfl rfl rfl (.cons (v:= .bool false) (hp1:=hp) rfl rfl ?_ (.nil (.condF rfl (.skip ?_))))))))
 ·intro _ _;show c9 hp (v6 P .eql (ρ.t 3) (.int .i64 a) (.int .i64 b))=_;simp only[v6,J3,KR,Kc,o7,W2,c9];simp_all;omega
 refine .seq (.region (.mv rfl rfl rfl rfl (.cons (v:= .int .i64 n) (hp1:=hp) rfl rfl (fun _ _=>G5 D.t22 _ _ _) (.asg rfl rfl rfl rfl (.nil ?_)))));refine .seq (.drawG (by kernel_rfl) ?_);refine .mv rfl rfl rfl rfl (.mv rfl rfl rfl rfl (.k1 (v:= .slice (some ⟨i,o,none⟩) a (c8 (Nat.max lo n) 0)) rfl rfl rfl (fun _=>hs1) ?_));refine .mv rfl rfl rfl rfl (.mv rfl rfl rfl rfl (.k1 (v:=x) rfl rfl rfl (fun _=>K _) ?_));refine .k3 (v:= .slice (some ⟨i,o,none⟩) (a+(n-b)) (c8 (Nat.max lo n) 0)) (S2:=hp2) rfl rfl rfl (by kernel_rfl) (fun _ _=>jI a1) ?_;refine .asg rfl rfl rfl rfl (.nil ⟨by kernel_rfl,by kernel_rfl,?_⟩);refine .seq (.region (.mv rfl rfl rfl rfl (.mv rfl rfl rfl rfl (.cons (v:= .int .i64 ((a+(n-b):Nat):Int)) (hp1:=hp2) rfl rfl (fun _ _=>G5 D.t22 _ _ _) (.mv rfl rfl rfl rfl (.cons (hp1:=hp2) rfl rfl (fun _ _=>J) (.cons (hp1:=H) rfl rfl (fun _ _=>b1) (.nil ?_))))))));refine .seq (.region (.mv rfl rfl rfl rfl (.asg rfl rfl rfl rfl (.nil ?_))));refine .ret ⟨rfl,?_,fun j hj=>by rw[b3 j hj,a3 j hj],N,b4,?_⟩
 ·grind
 ·have B:(olds.take (a*ie.size)).length=a*ie.size:=by rw[Kv];omega
  have d:(olds.take (a*ie.size)++olds.drop (b*ie.size)).length=(a+(n-b))*ie.size:=by grind
  have:=i8 (c:=N) (vs:=olds.take (a*ie.size)++olds.drop (b*ie.size)) (o:=o) (fun j hj=>by
   rw[d]at hj;rw[b5,f6,Kg (by omega),a5,f6];by_cases h1:j<a*ie.size
   ·rw[Kg (by omega),JU (by omega),Kt,Ki h1];exact((g9 hl).2 j (by omega)).symm
   ·rw[Ki (by omega),JT (by omega),B];congr 1;omega)
  rw[d]at this;exact this
structure fE (P:Ax)(g:Az)(ρ:Go.Shelf.Ren)(e:Ay)(ie:Bb)(zv:Aw):Prop where
 fn:∃fn,P.funcs[g]? =some fn/\fn.body=(Go.Proofs.Body2.n21 ρ).body/\fn.ntmps=95/\fn.results= #[.tmp 6]
 t22:P.underlying (ρ.t 22)=some (.slice e)
 t3:P.underlying (ρ.t 3)=some (.int .i64)
 ty:P.info? e=some ie
 zero:ie.zero=some zv
 cst:cst zv=true
 zl:zv.cells.toList.length=ie.size
 sz:1<=ie.size
 by_:ie.bytes<=1048576
 fo:∃fo,P.funcs[ρ.f 27]? =some fo/\cC fo=false
 nT:Nat.beq (ρ.t 22) fQ=false
def COv (ρ:Go.Shelf.Ren)(call:c7):Prop:=call.ov (ρ.f 27)=some (ρ.t 22)
variable {hp':Hp}{j q:Nat}
def cV {size c:Nat}(h:hp'.m.get j=hp.m.get j):j2 hp' size (.slice (some ⟨j,q,none⟩) m c)=j2 hp size (.slice (some ⟨j,q,none⟩) m c):=by simp only[j2,h]
def Z0 (t:Ay){a b:Nat}(h:a+b<4611686018427387904):c9 hp (v6 P .add t (.int .i64 a) (.int .i64 b))=some (.int .i64 ((a+b:Nat):Int),hp):=by
 have:IntKind.i64.wrap ((a:Int)+(b:Int))=((a+b:Nat):Int):=by rw[IntKind.wrap_i64];omega
 simp only[v6,J3,KR,Kc,o7,c9,this]
def HC (t:Ay){a b:Nat}(h:a<4611686018427387904)(hb:b<=a):c9 hp (v6 P .sub t (.int .i64 a) (.int .i64 b))=some (.int .i64 ((a-b:Nat):Int),hp):=by
 have:IntKind.i64.wrap ((a:Int)-(b:Int))=((a-b:Nat):Int):=by rw[IntKind.wrap_i64];omega
 simp only[v6,J3,KR,Kc,o7,c9,this]
def bP (t:Ay){a b:Nat}(h:a≠b):c9 hp (v6 P .eql t (.int .i64 a) (.int .i64 b))=some (.bool false,hp):=by simp only[v6,J3,KR,Kc,o7,W2,c9];rw[Ll (by omega)]
def Do (t:Ay)(a:Nat):c9 hp (v6 P .eql t (.int .i64 a) (.int .i64 a))=some (.bool true,hp):=by simp only[v6,J3,KR,Kc,o7,W2,c9]
def yU (t:Ay){M up:Nat}{b:Bool}(p:M<18446744073709551616)(h:(b=false/\up=0/\m<=M)\/(b=true/\up=m/\m≠0)):c9 hp (v6 P .gtr t (.int .i64 m) (.complex .f64 M up))=some (.bool b,hp):=by
 have a:O5 (.int .i64 (m:Nat))=some (.i64,m,m+1):=rfl;have c:O5 (.complex .f64 M up)=some (.i64,M,up):=by simp only[O5,X4,tJ];rw[show bY M=M by unfold bY;exact Nat.mod_eq_of_lt p]
 have d:J3 P .gtr t (.int .i64 m) (.complex .f64 M up)=none:=rfl;have l:Z2 (M,up) (m,m+1)=some b:=by
  unfold Z2;rcases h with⟨rfl,rfl,h⟩| ⟨rfl,rfl,h⟩
  ·rw[l6 rfl,Bool.not_true,Bool.false_and,Ke,s7 (Nat.succ_ne_zero m),JS (show m+1<=M+1 by omega)];rfl
  ·rw[s7 h,JS (Kj _)];rfl
 simp only[v6,d,vF,a,c,KR,Kc,DE,l,KG,c9]
def og {t:Ay}(ht:P.underlying t=some (.slice e))(a:Addr){up:Nat}(c:up<unk):c9 hp (xQ P t (.slice (some a) n (c8 lo up)))=some (.complex .f64 (Nat.max lo n) up,hp):=by simp only[xQ,ht,JS (j1 lo up),Kc,G2 c,G1 c,c9]
theorem cR {t:Ay}(ht:P.underlying t=some (.slice e))(hi:P.info? e=some ie){o dl dc cx:Nat}{c:Ao}{d:Nat}(h:hp.m.get i=some (.cells c k e' d))(hx:j2 hp ie.size (.slice (some ⟨j,q,none⟩) (Nat.min n dl) cx)=some (m,vs))(hk:o+m*ie.size<=k\/(unk<=dc/\d=ie.size/\o<=k))(hm:m<=dl)(a:vs.all Value.oneCell'=true):qp P hp t (.slice (some ⟨i,o,none⟩) dl dc) (.slice (some ⟨j,q,none⟩) n cx)=some (.int .i64 m,{hp with m:=hp.m.set i (some (.cells (fill c o vs) (Nat.max k (o+m*ie.size)) e' d))}):=by
 have hb:((Nat.ble (o+m*ie.size) k|| (Nat.ble unk dc&&Nat.beq d ie.size&&Nat.ble o k))&&Nat.ble m dl&&vs.all Value.oneCell')=true:=by rw[a,JS hm,Lx,Lx,Lm];simp_all;omega
 simp only[qp,ht,hi,h,hx];rw[hb,Kc,E7]
def cQ {t u:Ay}{r:Aw×Hp}(h:qp P hp t x y=some r):l8 P hp .copy [t,u] [x,y]=some r:=by simp only[l8,h]
def xN {t u:Ay}{r:Aw×Hp}(h1:y9 P hp t u x y=none)(h:Y6 P hp t u x y=some r):l8 P hp .append [t,u] [x,y]=some r:=by simp only[l8,h1,h]
variable {cj:Ao}{ej kj zj:Nat}
def xW (D:fE P g ρ e ie zv){call:c7}(hc:COv ρ call){w s c z u d:Nat}{h:Ao}{p l A:Nat}(a:i≠j)(hi:hp.m.get i=some (.cells h p l A))(hj:hp.m.get j=some (.cells cj kj ej zj))(hk:1<=kj):eu P call hp (.func (.func (ρ.f 27)) #[] #[]) [.slice (some ⟨i,w,none⟩) s c,.slice (some ⟨j,z,none⟩) u d]=some (.bool false,hp):=by obtain⟨fo,h1,h2⟩:=D.fo;have hc:call.ov (ρ.f 27)=some (ρ.t 22):=hc;simp only[eu,h1,h2,Ke,hc,D.nT];show vU P hp (ρ.t 22) [_,_]=_;simp only[vU,D.t22,D.ty,s7 a,Ke,hi,hj,JS hk,Kc]
variable {cm:Nat}
def vO (D:fE P g ρ e ie zv){a:Ar}{c:Nat}{r d:Aw}{hp1:Hp}(hs:i9 P hp (ρ.t 22) (.slice a n c) (some (.int .i64 n)) none none=some (d,hp))(ha:y9 P hp (ρ.t 22) (ρ.t 22) (.slice a n c) (.slice (some ⟨j,q,none⟩) 1 cm)=some (r,hp1)):XT P C 95 ((Go.Proofs.Body2.n21 ρ).body.getD .skip) (fill .e 0 [.slice a n c,.int .i64 n,.slice (some ⟨j,q,none⟩) 1 cm]) hp fun tm' hp'=>tm'.get 6=some r/\hp'=hp1:=by simp only[Go.Proofs.Body2.n21,KC,fill];refine .seq (.region (.cons rfl rfl (fun _ _=>rfl) (.nil ?_)));refine .seq (.region (.mv rfl rfl rfl rfl (.mv rfl rfl rfl rfl (.cons (v:=d) (hp1:=hp) rfl rfl (fun _ _=>hs) (.nil ?_)))));refine .seq (.region (.mv rfl rfl rfl rfl (.cons (v:= .int .i64 ((1:Nat):Int)) (hp1:=hp) rfl rfl (fun _ _=>G5 D.t22 _ _ _) (.asg rfl rfl rfl rfl (.nil ?_)))));refine .seq (.seq (.region (.mv rfl rfl rfl rfl (.cons (v:= .bool false) (hp1:=hp) rfl rfl (fun _ _=>bP (P:=P) (ρ.t 3) (a:=1) (b:=0) (by omega)) (.nil (.condF rfl (.skip ?_)))))));refine .seq (.region (.mv rfl rfl rfl rfl (.cons (v:= .int .i64 n) (hp1:=hp) rfl rfl (fun _ _=>G5 D.t22 _ _ _) (.asg rfl rfl rfl rfl (.nil ?_)))));refine .seqR (.seq (.region (.mv rfl rfl rfl rfl (.mv rfl rfl rfl rfl (.cons (v:= .bool true) (hp1:=hp) rfl rfl (fun _ _=>Do (P:=P) (ρ.t 3) n) (.nil ?_))))));refine .condT rfl (.seq (.region (.mv rfl rfl rfl rfl (.mv rfl rfl rfl rfl (.cons (v:=r) (hp1:=hp1) rfl rfl (fun _ _=>jI ha) (.asg rfl rfl rfl rfl (.nil (.ret ⟨rfl,rfl⟩))))))))
theorem pC {ct:Ao}{o s at_:Nat}(a:at_<=n)(h:olds.length=n*s)(d:news.length=s)(h1:∀j,j<at_*s->ct.get (o+j)=olds[j]?)(h2:∀j,j<s->ct.get (o+at_*s+j)=news[j]?)(h3:∀j,j<(n-at_)*s->ct.get (o+(at_+1)*s+j)=olds[at_*s+j]?):d6 ct o ((n+1)*s)=some (olds.take (at_*s)++news++olds.drop (at_*s)):=by
 have hm:n*s=at_*s+(n-at_)*s:=by rw[<-Kw];congr 1;omega
 have l:(at_+1)*s=at_*s+s:=Lc _ _;have p:(n+1)*s=n*s+s:=Lc _ _;have B:(olds.take (at_*s)).length=at_*s:=by grind
 have u:(olds.take (at_*s)++news).length=at_*s+s:=by grind
 have w:(olds.take (at_*s)++news++olds.drop (at_*s)).length=(n+1)*s:=by grind
 have:=i8 (c:=ct) (vs:=olds.take (at_*s)++news++olds.drop (at_*s)) (o:=o) (fun j hj=>by
  rw[w]at hj;by_cases z:j<at_*s
  ·grind
  ·by_cases A:j<at_*s+s
   ·grind
   ·rw[JT (by omega),u,Kz];have:=h3 (j-(at_*s+s)) (by omega);rw[show o+(at_+1)*s+(j-(at_*s+s))=o+j by omega]at this;rw[this])
 grind
def qr (D:fE P g ρ e ie zv){o at_:Nat}(w:Nat.ble (Nat.max lo n) 67108864=true)(p:n+1<=Nat.max lo n)(J:at_<n)(R:j≠i){c:Ao}(A:hp.m.get i=some (.cells c k e ie.size))(aa:hp.m.get j=some (.cells cj kj ej zj))(hk:o+n*ie.size<=k)(hl:d6 c o (n*ie.size)=some olds)(hn:j2 hp ie.size (.slice (some ⟨j,q,none⟩) 1 cm)=some (1,news))(ae:news.length=ie.size)(F:olds.all Value.oneCell'=true)(L:news.all Value.oneCell'=true):XT P (COv ρ) 95 ((Go.Proofs.Body2.n21 ρ).body.getD .skip) (fill .e 0 [.slice (some ⟨i,o,none⟩) n (c8 lo 0),.int .i64 at_,.slice (some ⟨j,q,none⟩) 1 cm]) hp fun tm' hp'=>tm'.get 6=some (.slice (some ⟨i,o,none⟩) (n+1) (c8 (Nat.max lo n) 0))/\hp.nx<=hp'.nx/\(∀x,x≠i->hp'.m.get x=hp.m.get x)/\ ∃ct k',hp'.m.get i=some (.cells ct k' e ie.size)/\o+(n+1)*ie.size<=k'/\d6 ct o ((n+1)*ie.size)=some (olds.take (at_*ie.size)++news++olds.drop (at_*ie.size)):=by
 have ah:Nat.max lo n<=67108864:=JP w;generalize z:Nat.max lo n=M at*;have V:=(g9 hl).1;have s:Nat.max M (n+1)=M:=LI p;have W:Nat.ble (Nat.max M (n+1)) 67108864=true:=by rw[s];exact w
 have hs:=D.sz;have m1:n*ie.size=at_*ie.size+(n-at_)*ie.size:=by rw[<-Kw];congr 1;omega
 have m2:(at_+1)*ie.size=at_*ie.size+ie.size:=Lc _ _;have m3:(n+1)*ie.size=n*ie.size+ie.size:=Lc _ _;have m4:(at_+1)*ie.size<=n*ie.size:=JY _ J;have s1:=O2 (hp:=hp) D.t22 D.ty (i:=i) (o:=o) (n:=n) (lo:=lo) (l:=at_) (h:=n) (by rw[z];exact w) (by rw[z];omega) (Nat.le_of_lt J) (by rw[z];omega) A (some (.int .i64 at_)) none (.inl rfl) (.inr ⟨rfl,rfl⟩);have s2:=O2 (hp:=hp) D.t22 D.ty (i:=i) (o:=o) (n:=n) (lo:=lo) (l:=0) (h:=n+1) (by rw[z];exact w) (by rw[z];omega) (LF _) (by rw[z];omega) A none (some (.int .i64 ((n+1:Nat):Int))) (.inr ⟨rfl,rfl⟩) (.inl rfl);rw[z]at s2;simp only[Ly,Lb,Ls]at s2;have s3:∀(d:Hp) {ct:Ao} {kx:Nat},d.m.get i=some (.cells ct kx e ie.size)-> ∀l,l<n+1->i9 P d (ρ.t 22) (.slice (some ⟨i,o,none⟩) (n+1) (c8 M 0)) (some (.int .i64 l)) none none=some (.slice (some ⟨i,o+l*ie.size,none⟩) (n+1-l) (c8 (M-l) 0),d):=by intro d ct kx ab l hlt;have:=O2 (hp:=d) D.t22 D.ty (i:=i) (o:=o) (n:=n+1) (lo:=M) (l:=l) (h:=n+1) W (by rw[s];omega) (Nat.le_of_lt hlt) (by rw[s];omega) ab (some (.int .i64 l)) none (.inl rfl) (.inr ⟨rfl,rfl⟩);rwa[s]at this
 have Y:=eJ hl (a:=at_*ie.size) (m:=(n-at_)*ie.size) (by omega);rw[KK (by rw[KN];omega)]at Y;have K:(olds.drop (at_*ie.size)).all Value.oneCell'=true:=by rw[Kq]at F⊢;exact fun v hv=>F v (Lw hv)
 have x1:j2 ⟨hp.m,hp.nx+9⟩ ie.size (.slice (some ⟨i,o+at_*ie.size,none⟩) (Nat.min (n+1-at_) (n+1-(at_+1))) (c8 (M-at_) 0))=some (n-at_,olds.drop (at_*ie.size)):=by
  have X:Nat.min (n+1-at_) (n+1-(at_+1))=n-at_:=by rw[show n+1-(at_+1)=n-at_ by omega];exact Nat.min_eq_right (by omega)
  have N:Nat.ble (o+at_*ie.size+(n-at_)*ie.size) k=true:=JS (by omega);simp only[j2,A,rdC,X,N,Kc,Y]
 have Z:=cR (hp:=⟨hp.m,hp.nx+9⟩) D.t22 D.ty (i:=i) (o:=o+(at_+1)*ie.size) (dl:=n+1-(at_+1)) (dc:=c8 (M-(at_+1)) 0) A x1 (.inr ⟨j1 _ _,rfl,by omega⟩) (by omega) K;generalize ac:Nat.max k (o+(at_+1)*ie.size+(n-at_)*ie.size)=k1 at Z;have U:o+(n+1)*ie.size<=k1:=by rw[<-ac];exact KS (by omega) (Lg _ _)
 generalize O:fill c (o+(at_+1)*ie.size) (olds.drop (at_*ie.size))=G at Z;generalize H:({(⟨hp.m,hp.nx+9⟩:Hp)with m:=(⟨hp.m,hp.nx+9⟩:Hp).m.set i (some (.cells G k1 e ie.size))}:Hp)=H1 at Z;have B:H1.m.get i=some (.cells G k1 e ie.size):=by rw[<-H];simp only[Mw,Ki]
 have E:∀x,x≠i->H1.m.get x=hp.m.get x:=fun x hx=>by rw[<-H];simp only[Mw,Kg hx]
 have x2:j2 H1 ie.size (.slice (some ⟨j,q,none⟩) (Nat.min 1 (n+1-at_)) cm)=some (1,news):=by rw[show Nat.min 1 (n+1-at_)=1 from Nat.min_eq_left (by omega),cV (E j R)];exact hn
 have c2:=cR (hp:=H1) D.t22 D.ty (i:=i) (o:=o+at_*ie.size) (dl:=n+1-at_) (dc:=c8 (M-at_) 0) B x2 (.inl (by omega)) (by omega) L;have ad:Nat.max k1 (o+at_*ie.size+1*ie.size)=k1:=LI (by omega);rw[ad]at c2;simp only[Go.Proofs.Body2.n21,KC,fill];refine .seq (.region (.cons rfl rfl (fun _ _=>rfl) (.nil ?_)));refine .seq (.region (.mv rfl rfl rfl rfl (.mv rfl rfl rfl rfl (.cons (hp1:=hp) rfl rfl (fun _ _=>s1) (.nil ?_)))));refine .seq (.region (.mv rfl rfl rfl rfl (.cons (v:= .int .i64 ((1:Nat):Int)) (hp1:=hp) rfl rfl (fun _ _=>G5 D.t22 _ _ _) (.asg rfl rfl rfl rfl (.nil ?_)))));refine .seq (.seq (.region (.mv rfl rfl rfl rfl (.cons (v:= .bool false) (hp1:=hp) rfl rfl (fun _ _=>bP (P:=P) (ρ.t 3) (a:=1) (b:=0) (by omega)) (.nil (.condF rfl (.skip ?_)))))));refine .seq (.region (.mv rfl rfl rfl rfl (.cons (v:= .int .i64 n) (hp1:=hp) rfl rfl (fun _ _=>G5 D.t22 _ _ _) (.asg rfl rfl rfl rfl (.nil ?_)))));refine .seq (.seq (.region (.mv rfl rfl rfl rfl (.mv rfl rfl rfl rfl (.cons (v:= .bool false) (hp1:=hp) rfl rfl (fun _ _=>bP (P:=P) (ρ.t 3) (a:=at_) (b:=n) (by omega)) (.nil (.condF rfl (.skip ?_))))))));refine .seq (.seq (.region (.mv rfl rfl rfl rfl (.mv rfl rfl rfl rfl (.cons (v:= .int .i64 ((n+1:Nat):Int)) (hp1:=hp) rfl rfl (fun _ _=>Z0 (P:=P) (ρ.t 3) (a:=n) (b:=1) (by omega)) (.mv rfl rfl rfl rfl (.cons (v:= .complex .f64 M 0) (hp1:=hp) rfl rfl (fun _ _=>by rw[<-z];exact og D.t22 _ E6) (.cons (v:= .bool false) (hp1:=hp) rfl rfl (fun _ _=>yU (P:=P) (ρ.t 3) (m:=n+1) (M:=M) (up:=0) (by omega) (.inl ⟨rfl,rfl,p⟩)) (.nil (.condF rfl (.skip ?_)))))))))));refine .seq (.region (.mv rfl rfl rfl rfl (.mv rfl rfl rfl rfl (.mv rfl rfl rfl rfl (.cons (v:= .int .i64 ((n+1:Nat):Int)) (hp1:=hp) rfl rfl (fun _ _=>Z0 (P:=P) (ρ.t 3) (a:=n) (b:=1) (by omega)) (.cons (hp1:=hp) rfl rfl (fun _ _=>s2) (.asg rfl rfl rfl rfl (.nil ?_))))))));refine .seqR (.seq (.region (.mv rfl rfl rfl rfl (.mv rfl rfl rfl rfl (.mv rfl rfl rfl rfl (.mv rfl rfl rfl rfl (.cons (v:= .int .i64 ((at_+1:Nat):Int)) (hp1:=hp) rfl rfl (fun _ _=>Z0 (P:=P) (ρ.t 3) (a:=at_) (b:=1) (by omega)) (.cons (hp1:=hp) rfl rfl (fun _ _=>s3 hp A (at_+1) (by omega)) (.cons (v:= .bool false) (hp1:=hp) rfl rfl (fun _ hc=>xW D hc R aa A (by omega)) (.cons (v:= .bool true) (hp1:=hp) rfl rfl (fun _ _=>rfl) (.nil ?_)))))))))));refine .condT rfl ?_;refine .seq (.drawG (by kernel_rfl) ?_);refine .mv rfl rfl rfl rfl (.mv rfl rfl rfl rfl (.mv rfl rfl rfl rfl (.k0 (v:= .int .i64 ((at_+1:Nat):Int)) rfl rfl rfl (fun _ _=>Z0 (P:=P) (ρ.t 3) (a:=at_) (b:=1) (by omega)) (.k1 rfl rfl rfl (fun _=>s3 ⟨hp.m,hp.nx+9⟩ A (at_+1) (by omega)) ?_))));refine .mv rfl rfl rfl rfl (.mv rfl rfl rfl rfl (.k1 rfl rfl rfl (fun _=>s3 ⟨hp.m,hp.nx+9⟩ A at_ (by omega)) ?_));refine .k3 (v:= .int .i64 ((n-at_:Nat):Int)) (S2:=H1) rfl rfl rfl (by kernel_rfl) (fun _ _=>cQ (u:=ρ.t 22) Z) ?_;refine .nil ⟨by kernel_rfl,by kernel_rfl,?_⟩;refine .seq (.region (.mv rfl rfl rfl rfl (.mv rfl rfl rfl rfl (.cons (hp1:=H1) rfl rfl (fun _ _=>s3 H1 B at_ (by omega)) (.mv rfl rfl rfl rfl (.cons rfl rfl (fun _ _=>cQ (u:=ρ.t 22) c2) (.nil ?_)))))));refine .seq (.region (.mv rfl rfl rfl rfl (.asg rfl rfl rfl rfl (.nil ?_))));refine .ret ⟨rfl,?_,fun x hx=>?_,fill G (o+at_*ie.size) news,k1,?_,U,?_⟩
 ·show hp.nx<=H1.nx;rw[<-H];exact Nat.le_add_right _ _
 ·show(H1.m.set i _).get x=_;rw[Mw,Kg hx,E x hx]
 ·show(H1.m.set i _).get i=_;rw[Mw,Ki rfl]
 ·refine pC (Nat.le_of_lt J) V ae (fun y hy=>?_) (fun y hy=>?_) (fun y hy=>?_)
  ·rw[f6,Kg (by omega),<-O,f6,Kg (by omega)];exact((g9 hl).2 y (by omega)).symm
  ·rw[f6,Ki (by omega)];congr 1;omega
  ·rw[f6,Kg (by omega),<-O,f6,Ki (by rw[KN];omega),Kz];congr 1;omega
def Cf (D:fE P g ρ e ie zv){o at_:Nat}(R:Nat.ble (n+1) 67108864=true)(z:at_<n)(hi:i<hp.nx)(hj:j<hp.nx){c:Ao}(hg:hp.m.get i=some (.cells c k e ie.size))(hk:o+n*ie.size<=k)(hl:d6 c o (n*ie.size)=some olds)(hn:j2 hp ie.size (.slice (some ⟨j,q,none⟩) 1 cm)=some (1,news))(ao:news.length=ie.size)(H:olds.all Value.oneCell'=true)(U:news.all Value.oneCell'=true):XT P C 95 ((Go.Proofs.Body2.n21 ρ).body.getD .skip) (fill .e 0 [.slice (some ⟨i,o,none⟩) n (c8 n (n+1)),.int .i64 at_,.slice (some ⟨j,q,none⟩) 1 cm]) hp fun tm' hp'=>tm'.get 6=some (.slice (some ⟨hp.nx,0,none⟩) (n+1) (c8 (n+1) 0))/\hp.nx<hp'.nx/\(∀x,x≠hp.nx->hp'.m.get x=hp.m.get x)/\ ∃ct k',hp'.m.get hp.nx=some (.cells ct k' e ie.size)/\0+(n+1)*ie.size<=k'/\d6 ct 0 ((n+1)*ie.size)=some (olds.take (at_*ie.size)++news++olds.drop (at_*ie.size)):=by
 have ap:n+1<=67108864:=JP R;have ab:=(g9 hl).1;have p:Nat.max n n=n:=Nat.max_self n;have A:n+1<unk:=by unfold unk;omega
 have F:Nat.ble (Nat.max n n) 67108864=true:=by rw[p];exact JS (by omega)
 have w:Nat.max (n+1) (n+1)=n+1:=Nat.max_self _;have ac:Nat.ble (Nat.max (n+1) (n+1)) 67108864=true:=by rw[w];exact R
 have hs:=D.sz;have m1:n*ie.size=at_*ie.size+(n-at_)*ie.size:=by rw[<-Kw];congr 1;omega
 have m2:(at_+1)*ie.size=at_*ie.size+ie.size:=Lc _ _;have m3:(n+1)*ie.size=n*ie.size+ie.size:=Lc _ _;have m4:(at_+1)*ie.size<=n*ie.size:=JY _ z;have s1:∀(d:Hp),d.m.get i=some (.cells c k e ie.size)->i9 P d (ρ.t 22) (.slice (some ⟨i,o,none⟩) n (c8 n (n+1))) (some (.int .i64 at_)) none none=some (.slice (some ⟨i,o+at_*ie.size,none⟩) (n-at_) (c8 (n-at_) (n+1-at_)),d):=by intro d O;have:=jX (hp:=d) D.t22 D.ty (i:=i) (o:=o) (n:=n) (lo:=n) (l:=at_) (h:=n) A F (by rw[p];exact Kj _) (Nat.le_of_lt z) (by rw[p];exact z) O (some (.int .i64 at_)) none (.inl rfl) (.inr ⟨rfl,rfl⟩);rwa[p]at this
 have s2:=jX (hp:=hp) D.t22 D.ty (i:=i) (o:=o) (n:=n) (lo:=n) (l:=0) (h:=at_) A F (by rw[p];omega) (LF _) (by rw[p];omega) hg none (some (.int .i64 at_)) (.inr ⟨rfl,rfl⟩) (.inl rfl);rw[p]at s2;simp only[Ly,Lb,Ls]at s2;have aa:=eJ hl (a:=0) (m:=at_*ie.size) (by omega);rw[Lb,List.drop_zero]at aa;generalize hV:olds.take (at_*ie.size)++xrep (n+1-at_) zv.cells.toList=V at*;have ai:V.length=(n+1)*ie.size:=by rw[<-hV,Kn,Kv,xrep_length,D.zl,show min (at_*ie.size) olds.length=at_*ie.size by omega,<-Kw];congr 1;omega
 have X:y9 P hp (ρ.t 22) (ρ.t 3) (.slice (some ⟨i,o,none⟩) at_ (c8 n (n+1))) (.int .i64 ((n+1-at_:Nat):Int))=none:=by unfold y9;simp only[D.t22,D.t3]
 have W:Y6 P hp (ρ.t 22) (ρ.t 3) (.slice (some ⟨i,o,none⟩) at_ (c8 n (n+1))) (.int .i64 ((n+1-at_:Nat):Int))=some (.slice (some ⟨hp.nx,0,none⟩) (n+1) (c8 (n+1) 0),hp.new V e ie.size):=by
  have e1:(cst zv&&Nat.beq zv.cells.toList.length ie.size&&Nat.ble ie.bytes 1048576&&Nat.ble 1 ie.size&&Nat.ble 1 (n+1-at_)&&Nat.ble (at_+(n+1-at_)) 67108864&&(Nat.ble unk (c8 n (n+1))&&Nat.ble 1 (D1 (c8 n (n+1)))&&Nat.ble (D1 (c8 n (n+1))) (at_+(n+1-at_))))=true:=by rw[D.cst,D.zl,l6 rfl,JS D.by_,JS D.sz,JS (show 1<=n+1-at_ by omega),show at_+(n+1-at_)=n+1 by omega,R,JS (j1 n (n+1)),G1 A,JS (show 1<=n+1 by omega),JS (Kj _)];rfl
  have e2:Nat.ble (o+at_*ie.size) k=true:=JS (by omega);have e3:at_+(n+1-at_)=n+1:=by omega
  unfold Y6;simp only[D.t22,D.t3,D.ty,D.zero];show(bif _ then _ else _)=_;rw[e1,Kc];simp only[hg,e2,Kc,aa,e3,hV]
 generalize K:hp.new V e ie.size=H0 at W;have B:H0.m.get hp.nx=some (.cells (fill .e 0 V) ((n+1)*ie.size) e ie.size):=by rw[<-K];show(hp.m.set hp.nx _).get hp.nx=_;rw[Mw,Ki rfl,ai]
 have G:∀x,x≠hp.nx->H0.m.get x=hp.m.get x:=fun x hx=>by rw[<-K];show(hp.m.set hp.nx _).get x=_;rw[Mw,Kg hx]
 have s3:∀(d:Hp) {ct:Ao} {kx:Nat},d.m.get hp.nx=some (.cells ct kx e ie.size)-> ∀l,l<n+1->i9 P d (ρ.t 22) (.slice (some ⟨hp.nx,0,none⟩) (n+1) (c8 (n+1) 0)) (some (.int .i64 l)) none none=some (.slice (some ⟨hp.nx,0+l*ie.size,none⟩) (n+1-l) (c8 (n+1-l) 0),d):=by intro d ct kx O l hlt;have:=O2 (hp:=d) D.t22 D.ty (i:=hp.nx) (o:=0) (n:=n+1) (lo:=n+1) (l:=l) (h:=n+1) ac (by rw[w];omega) (Nat.le_of_lt hlt) (by rw[w];omega) O (some (.int .i64 l)) none (.inl rfl) (.inr ⟨rfl,rfl⟩);rwa[w]at this
 have x1:j2 H0 ie.size (.slice (some ⟨j,q,none⟩) (Nat.min 1 (n+1-at_)) cm)=some (1,news):=by rw[show Nat.min 1 (n+1-at_)=1 from Nat.min_eq_left (by omega),cV (G j (by omega))];exact hn
 have c1:=cR (hp:=H0) D.t22 D.ty (i:=hp.nx) (o:=0+at_*ie.size) (dl:=n+1-at_) (dc:=c8 (n+1-at_) 0) B x1 (.inl (by omega)) (by omega) U;have ak:Nat.max ((n+1)*ie.size) (0+at_*ie.size+1*ie.size)=(n+1)*ie.size:=LI (by omega);rw[ak]at c1;generalize Z:fill (fill .e 0 V) (0+at_*ie.size) news=J at c1;generalize L:({H0 with m:=H0.m.set hp.nx (some (.cells J ((n+1)*ie.size) e ie.size))}:Hp)=H1 at c1;have E:H1.m.get hp.nx=some (.cells J ((n+1)*ie.size) e ie.size):=by rw[<-L];simp only[Mw,Ki]
 have s:∀x,x≠hp.nx->H1.m.get x=hp.m.get x:=fun x hx=>by rw[<-L];simp only[Mw,Kg hx];exact G x hx
 have ae:=eJ hl (a:=at_*ie.size) (m:=(n-at_)*ie.size) (by omega);rw[KK (by rw[KN];omega)]at ae;have N:(olds.drop (at_*ie.size)).all Value.oneCell'=true:=by rw[Kq]at H⊢;exact fun v hv=>H v (Lw hv)
 have x2:j2 ⟨H1.m,H1.nx+9⟩ ie.size (.slice (some ⟨i,o+at_*ie.size,none⟩) (Nat.min (n-at_) (n+1-(at_+1))) (c8 (n-at_) (n+1-at_)))=some (n-at_,olds.drop (at_*ie.size)):=by
  have ad:Nat.min (n-at_) (n+1-(at_+1))=n-at_:=by rw[show n+1-(at_+1)=n-at_ by omega];exact Nat.min_self _
  have Y:Nat.ble (o+at_*ie.size+(n-at_)*ie.size) k=true:=JS (by omega);have aj:H1.m.get i=some (.cells c k e ie.size):=by rw[s i (by omega)];exact hg
  simp only[j2,aj,rdC,ad,Y,Kc,ae]
 have c2:=cR (hp:=⟨H1.m,H1.nx+9⟩) D.t22 D.ty (i:=hp.nx) (o:=0+(at_+1)*ie.size) (dl:=n+1-(at_+1)) (dc:=c8 (n+1-(at_+1)) 0) E x2 (.inl (by omega)) (by omega) N;have al:Nat.max ((n+1)*ie.size) (0+(at_+1)*ie.size+(n-at_)*ie.size)=(n+1)*ie.size:=LI (by omega);rw[al]at c2;simp only[Go.Proofs.Body2.n21,KC,fill];refine .seq (.region (.cons rfl rfl (fun _ _=>rfl) (.nil ?_)));refine .seq (.region (.mv rfl rfl rfl rfl (.mv rfl rfl rfl rfl (.cons (hp1:=hp) rfl rfl (fun _ _=>s1 hp hg) (.nil ?_)))));refine .seq (.region (.mv rfl rfl rfl rfl (.cons (v:= .int .i64 ((1:Nat):Int)) (hp1:=hp) rfl rfl (fun _ _=>G5 D.t22 _ _ _) (.asg rfl rfl rfl rfl (.nil ?_)))));refine .seq (.seq (.region (.mv rfl rfl rfl rfl (.cons (v:= .bool false) (hp1:=hp) rfl rfl (fun _ _=>bP (P:=P) (ρ.t 3) (a:=1) (b:=0) (by omega)) (.nil (.condF rfl (.skip ?_)))))));refine .seq (.region (.mv rfl rfl rfl rfl (.cons (v:= .int .i64 n) (hp1:=hp) rfl rfl (fun _ _=>G5 D.t22 _ _ _) (.asg rfl rfl rfl rfl (.nil ?_)))));refine .seq (.seq (.region (.mv rfl rfl rfl rfl (.mv rfl rfl rfl rfl (.cons (v:= .bool false) (hp1:=hp) rfl rfl (fun _ _=>bP (P:=P) (ρ.t 3) (a:=at_) (b:=n) (by omega)) (.nil (.condF rfl (.skip ?_))))))));refine .seqR (.seq (.region (.mv rfl rfl rfl rfl (.mv rfl rfl rfl rfl (.cons (v:= .int .i64 ((n+1:Nat):Int)) (hp1:=hp) rfl rfl (fun _ _=>Z0 (P:=P) (ρ.t 3) (a:=n) (b:=1) (by omega)) (.mv rfl rfl rfl rfl (.cons (v:= .complex .f64 n (n+1)) (hp1:=hp) rfl rfl (fun _ _=>(og D.t22 _ A).trans (by rw[p])) (.cons (v:= .bool true) (hp1:=hp) rfl rfl (fun _ _=>yU (P:=P) (ρ.t 3) (m:=n+1) (M:=n) (up:=n+1) (by omega) (.inr ⟨rfl,rfl,by omega⟩)) (.nil ?_)))))))));refine .condT rfl ?_;refine .seq (.region (.mv rfl rfl rfl rfl (.mv rfl rfl rfl rfl (.cons (hp1:=hp) rfl rfl (fun _ _=>s2) (.mv rfl rfl rfl rfl (.mv rfl rfl rfl rfl (.cons (v:= .int .i64 ((n+1:Nat):Int)) (hp1:=hp) rfl rfl (fun _ _=>Z0 (P:=P) (ρ.t 3) (a:=n) (b:=1) (by omega)) (.mv rfl rfl rfl rfl (.cons (v:= .int .i64 ((n+1-at_:Nat):Int)) (hp1:=hp) rfl rfl (fun _ _=>HC (P:=P) (ρ.t 3) (a:=n+1) (b:=at_) (by omega) (by omega)) (.cons (hp1:=H0) rfl rfl (fun _ _=>xN X W) (.asg rfl rfl rfl rfl (.nil ?_))))))))))));refine .seq (.region (.mv rfl rfl rfl rfl (.mv rfl rfl rfl rfl (.cons (hp1:=H0) rfl rfl (fun _ _=>s3 H0 B at_ (by omega)) (.mv rfl rfl rfl rfl (.cons (hp1:=H1) rfl rfl (fun _ _=>cQ (u:=ρ.t 22) c1) (.nil ?_)))))));refine .seq (.drawG (by kernel_rfl) ?_);refine .mv rfl rfl rfl rfl (.mv rfl rfl rfl rfl (.mv rfl rfl rfl rfl (.k0 (v:= .int .i64 ((at_+1:Nat):Int)) rfl rfl rfl (fun _ _=>Z0 (P:=P) (ρ.t 3) (a:=at_) (b:=1) (by omega)) (.k1 rfl rfl rfl (fun _=>s3 ⟨H1.m,H1.nx+9⟩ E (at_+1) (by omega)) ?_))));refine .mv rfl rfl rfl rfl (.mv rfl rfl rfl rfl (.k1 rfl rfl rfl (fun _=>s1 ⟨H1.m,H1.nx+9⟩ (by rw[<-hg];exact s i (by omega))) ?_));refine .k3 (v:= .int .i64 ((n-at_:Nat):Int)) rfl rfl rfl (by kernel_rfl) (fun _ _=>cQ (u:=ρ.t 22) c2) ?_;refine .nil ⟨by kernel_rfl,by kernel_rfl,?_⟩;refine .seq (.region (.mv rfl rfl rfl rfl (.asg rfl rfl rfl rfl (.nil ?_))));refine .ret ⟨rfl,?_,fun x hx=>?_,fill J (0+(at_+1)*ie.size) (olds.drop (at_*ie.size)),(n+1)*ie.size,?_,by omega,?_⟩
 ·show hp.nx<H1.nx+9;rw[<-L,<-K];show hp.nx<hp.nx+1+9;omega
 ·show(H1.m.set hp.nx _).get x=_;rw[Mw,Kg hx,s x hx]
 ·show(H1.m.set hp.nx _).get hp.nx=_;rw[Mw,Ki rfl]
 ·have ah:∀y,y<at_*ie.size->V[y]? =olds[y]? :=fun y hy=>by rw[<-hV,JU (by rw[Kv];omega),Kt,Ki hy]
  refine pC (Nat.le_of_lt z) ab ao (fun y hy=>?_) (fun y hy=>?_) (fun y hy=>?_)
  ·rw[f6,Kg (by omega),<-Z,f6,Kg (by omega),Ks,v8 V y (by omega)];exact ah y hy
  ·rw[f6,Kg (by omega),<-Z,f6,Ki (by omega)];congr 1;omega
  ·rw[f6,Ki (by rw[KN];omega),Kz];congr 1;omega
def XF (P:Ax)(C:c7->Prop)(nt:Nat)(c:Code)(tm:Ao)(hp:Hp):Prop:=∃m0,∀call,C call-> ∀m,m0<=m->f9 P (j3 P) call nt none m c tm hp []=none
def XF.seq1 {a:Code}(h:XF P C nt a tm hp):XF P C nt (.seq a b) tm hp:=by
 obtain⟨m0,h⟩:=h;refine⟨m0+1,fun call hc m hm=>?_⟩;obtain⟨j,rfl⟩:∃j,m=j+1:=⟨m-1,by omega⟩
 simp only[f9,h call hc j (by omega)]
def XF.seq2 {a:Code}(h:XN P C nt a tm hp fun tm1 hp1=>XF P C nt b tm1 hp1):XF P C nt (.seq a b) tm hp:=by
 obtain⟨tm1,hp1,⟨c,k1⟩,m2,k2⟩:=h;refine⟨max c m2+1,fun call hc m hm=>?_⟩;obtain⟨j,rfl⟩:∃j,m=j+1:=⟨m-1,by omega⟩
 simp only[f9,k1 call hc j (by omega),k2 call hc j (by omega)]
def XOF (P:Ax)(C:c7->Prop)(nt:Nat)(all l:An)(tm:Ao)(hp:Hp):Prop:=∀call,C call->oC P call nt all l tm hp=none/\qw P call nt all l tm hp []=none
def XOF.cons {all rest:An}{o:Oper}{v:Aw}(h1:j4 nt o.dst=true)(h2:o.guard=none)(h3:wz o.op=none)(h:∀call,C call->xop P call tm hp o.op=some (v,hp1))(k:XOF P C nt all rest (j0 tm o.dst v) hp1):XOF P C nt all (o::rest) tm hp:=by
 intro call hc;constructor
 ·rw[L4,h1,Kc,h call hc];simp only[e9,h2,Kc];exact(k call hc).1
 ·simp only[qw,h1,Kc,e9,h2,h3,h call hc];exact(k call hc).2
def XOF.mv {all rest:An}{o:Oper}(h1:j4 nt o.dst=true)(h2:o.guard=none)(h:o.op= .move (.tmp t)){v:Aw}(a:tm.get t=some v)(k:XOF P C nt all rest (j0 tm o.dst v) hp):XOF P C nt all (o::rest) tm hp:=
 .cons h1 h2 (by rw[h];rfl) (fun _ _=>by rw[h];simp only[b9,f7,a9,c9,a,KC]) k
def XOF.bad {all rest:An}{o:Oper}(h1:j4 nt o.dst=true)(h2:o.guard=none)(h3:wz o.op=none)(h:∀call,C call->xop P call tm hp o.op=none):XOF P C nt all (o::rest) tm hp:=by
 intro call hc;constructor
 ·rw[L4,h1,Kc,h call hc];simp only[e9,h2,Kc]
 ·simp only[qw,h1,Kc,e9,h2,h3,h call hc]
def XF.region (h:XOF P C nt ops.toList ops.toList tm hp):XF P C nt (.region id ops false) tm hp:=
 ⟨1,fun call hc m hm=>by obtain⟨k,rfl⟩:∃k,m=k+1:=⟨m-1,by omega⟩;simp only[f9,Ke,(h call hc).1,AB,(h call hc).2]⟩
theorem xO {fn:Func}{c:Code}{args:Af}(h1:P.funcs[f]? =some fn)(h2:fn.body=some c)(h:XF P C (args.length+(fn.ntmps-args.length)) c (fill .e 0 args) hp):∃m0,∀call,C call-> ∀m,m0<=m-> ∀runD,V2 P (j3 P) call runD m f args hp=none:=by obtain⟨m0,k1⟩:=h;refine⟨m0,fun call hc m hm runD=>?_⟩;unfold V2;grind
def GQ (t:Ay){M:Nat}(s:M<18446744073709551616)(h:M<m):c9 hp (v6 P .gtr t (.int .i64 m) (.complex .f64 M 0))=none:=by
 have a:O5 (.int .i64 (m:Nat))=some (.i64,m,m+1):=rfl;have c:O5 (.complex .f64 M 0)=some (.i64,M,0):=by simp only[O5,X4,tJ];rw[show bY M=M by unfold bY;exact Nat.mod_eq_of_lt s]
 have d:J3 P .gtr t (.int .i64 m) (.complex .f64 M 0)=none:=rfl;have l:Z2 (M,0) (m,m+1)=none:=by unfold Z2;rw[l6 rfl,Bool.not_true,Bool.false_and,Ke,s7 (Nat.succ_ne_zero m),ble_f (show M+1<m+1 by omega)];rfl
 have p:irem .gtr (.int .i64 m) (.complex .f64 M 0)=none:=rfl;simp only[v6,d,vF,a,c,KR,Kc,DE,l,Option.map_none,p,c9]
def Cg (D:fE P g ρ e ie zv){o at_:Nat}{vv:Aw}(w:vv= .slice (some ⟨j,q,none⟩) 1 cm)(p:Nat.ble (Nat.max lo n) 67108864=true)(d:Nat.max lo n<n+1)(u:at_<n){c:Ao}(A:hp.m.get i=some (.cells c k e ie.size)):XF P C 95 ((Go.Proofs.Body2.n21 ρ).body.getD .skip) (fill .e 0 [.slice (some ⟨i,o,none⟩) n (c8 lo 0),.int .i64 at_,vv]) hp:=by subst w;have z:Nat.max lo n<=67108864:=JP p;have B:n<=Nat.max lo n:=Lg lo n;generalize s:Nat.max lo n=M at*;have s1:=O2 (hp:=hp) D.t22 D.ty (i:=i) (o:=o) (n:=n) (lo:=lo) (l:=at_) (h:=n) (by rw[s];exact p) (by rw[s];omega) (Nat.le_of_lt u) (by rw[s];omega) A (some (.int .i64 at_)) none (.inl rfl) (.inr ⟨rfl,rfl⟩);simp only[Go.Proofs.Body2.n21,KC,fill];refine .seq2 (.region (.cons rfl rfl (fun _ _=>rfl) (.nil ?_)));refine .seq2 (.region (.mv rfl rfl rfl rfl (.mv rfl rfl rfl rfl (.cons (hp1:=hp) rfl rfl (fun _ _=>s1) (.nil ?_)))));refine .seq2 (.region (.mv rfl rfl rfl rfl (.cons (v:= .int .i64 ((1:Nat):Int)) (hp1:=hp) rfl rfl (fun _ _=>G5 D.t22 _ _ _) (.asg rfl rfl rfl rfl (.nil ?_)))));refine .seq2 (.seq (.region (.mv rfl rfl rfl rfl (.cons (v:= .bool false) (hp1:=hp) rfl rfl (fun _ _=>bP (P:=P) (ρ.t 3) (a:=1) (b:=0) (by omega)) (.nil (.condF rfl (.skip ?_)))))));refine .seq2 (.region (.mv rfl rfl rfl rfl (.cons (v:= .int .i64 n) (hp1:=hp) rfl rfl (fun _ _=>G5 D.t22 _ _ _) (.asg rfl rfl rfl rfl (.nil ?_)))));refine .seq2 (.seq (.region (.mv rfl rfl rfl rfl (.mv rfl rfl rfl rfl (.cons (v:= .bool false) (hp1:=hp) rfl rfl (fun _ _=>bP (P:=P) (ρ.t 3) (a:=at_) (b:=n) (by omega)) (.nil (.condF rfl (.skip ?_))))))));refine .seq1 (.seq1 (.region (.mv rfl rfl rfl rfl (.mv rfl rfl rfl rfl (.cons (v:= .int .i64 ((n+1:Nat):Int)) (hp1:=hp) rfl rfl rfl (fun _ _=>Z0 (P:=P) (ρ.t 3) (a:=n) (b:=1) (by omega)) (.mv rfl rfl rfl rfl (.cons (v:= .complex .f64 M 0) (hp1:=hp) rfl rfl rfl (fun _ _=>by rw[<-s];exact og D.t22 _ E6) (.bad rfl rfl rfl (fun _ _=>GQ (P:=P) (ρ.t 3) (m:=n+1) (M:=M) (by omega) d)))))))))
structure wh (hp:Hp)(i:Nat)(J:Nat->Prop)(e size n:Nat)(V:Af)(v:Aw)(hp':Hp):Prop where
 ex:∃b q lo ct k,v= .slice (some ⟨b,q,none⟩) n (c8 lo 0)/\lo<=67108864/\(b=i\/hp.nx<=b)/\b<hp'.nx/\hp'.m.get b=some (.cells ct k e size)/\q+n*size<=k/\d6 ct q (n*size)=some V
 nx:hp.nx<=hp'.nx
 old:∀x,x<hp.nx->x≠i-> ¬J x->hp'.m.get x=hp.m.get x
theorem vD {t:Ay}(ht:P.underlying t=some (.slice e))(hi:P.info? e=some ie)(hz:ie.zero=some zv)(L:zv.cells.toList.length=ie.size)(J:ie.bytes<=1048576){o:Nat}(B:Nat.ble lo 67108864=true)(hn:n+1<=67108864)(hx:j2 hp ie.size x=some (1,news))(A:i<hp.nx){c:Ao}(G:hp.m.get i=some (.cells c k e ie.size))(hk:o+n*ie.size<=k)(hl:d6 c o (n*ie.size)=some olds)(d:news.all Value.oneCell'=true)(H:news.length=ie.size):∃v hp1,y9 P hp t t (.slice (some ⟨i,o,none⟩) n (c8 lo 0)) x=some (v,hp1)/\wh hp i (fun _=>False) e ie.size (n+1) (olds++news) v hp1:=by
 obtain⟨a,h⟩:∃a,a=n+1:=⟨_,rfl⟩;rw[<-h]at hn⊢;have u:Nat.ble a 67108864=true:=JS hn;have E:=(g9 hl).1;have K:a*ie.size=n*ie.size+ie.size:=by grind
 have h1:(Nat.beq zv.cells.toList.length ie.size&&Nat.ble ie.bytes 1048576)=true:=by simp_all
 have l:Nat.ble (o+n*ie.size) k=true:=JS hk;have s:(olds++news).length=a*ie.size:=by grind
 cases p:Nat.ble a lo with
 |true=>
  refine⟨.slice (some ⟨i,o,none⟩) a (c8 lo 0),{hp with m:=hp.m.set i (some (.cells (fill c (o+n*ie.size) news) (Nat.max k (o+a*ie.size)) e ie.size))},?_,⟨i,o,lo,fill c (o+n*ie.size) news,Nat.max k (o+a*ie.size),rfl,JP B,.inl rfl,A,by simp only[Mw,Ki],Lg _ _,?_⟩,Kj _,fun x _ hx _=>by simp only[Mw,Kg hx]⟩
  ·unfold y9;simp only[ht,hi,hz];rw[h1,Kc,hx];simp only[G];rw[<-h,u];simp only[d,Bool.and_self,Kc,s7 (Nat.one_ne_zero),Ke,JS (j1 lo 0),N7,Q3,l,l6,p,E7];rw[show Nat.ble 1 0=false from rfl,Bool.false_and,Ke]
  ·rw[<-s];exact i8 (fun y hy=>by
    rw[f6];by_cases w:y<n*ie.size
    ·rw[Kg (by omega),JU (by omega)];exact((g9 hl).2 y w).symm
    ·rw[Ki (by omega),JT (by omega),E];congr 1;omega)
 |false=>
  have z:∀y,y<a*ie.size->(bif Nat.beq o 0 then fill c (n*ie.size) news else fill (fill .e 0 olds) (n*ie.size) news).get y=(olds++news)[y]? :=by
   intro y hy;cases D:Nat.beq o 0 with
   |true=>
    have D:=JQ D;subst D;rw[Kc,f6];by_cases w:y<n*ie.size
    ·rw[Kg (by omega),JU (by omega)];have:=(g9 hl).2 y w;grind
    ·grind
   |false=>
    rw[Ke,f6];by_cases w:y<n*ie.size
    ·rw[Kg (by omega),JU (by omega),v8 olds y (by omega)]
    ·grind
  refine⟨.slice (some ⟨hp.nx,0,none⟩) a (c8 a 0),⟨(hp.m.set i none).set hp.nx (some (.cells (bif Nat.beq o 0 then fill c (n*ie.size) news else fill (fill .e 0 olds) (n*ie.size) news) (a*ie.size) e ie.size)),hp.nx+1⟩,?_,
   ⟨hp.nx,0,a,_,a*ie.size,rfl,hn,.inr (Kj _),KW _,by simp only[Mw,Ki];rfl,by omega,?_⟩,Lk _,fun x hx F _=>by simp only[Mw,Kg F,Kg (show x≠hp.nx by omega)]⟩
  ·unfold y9;simp only[ht,hi,hz];rw[h1,Kc,hx];simp only[G];rw[<-h,u];simp only[d,Bool.and_self,Kc,s7 (Nat.one_ne_zero),Ke,JS (j1 lo 0),N7,Q3,l,l6,p,hl,Mt];rw[show Nat.ble 1 0=false from rfl,Bool.false_and,Ke]
  ·rw[<-s];exact i8 (fun y hy=>by rw[Ks];exact z y (by omega))
def wh.weak {J:Nat->Prop}{e size:Nat}{V:Af}{v:Aw}(h:wh hp i (fun _=>False) e size n V v hp'):wh hp i J e size n V v hp':=
 ⟨h.ex,h.nx,fun x h1 h2 _=>h.old x h1 h2 (fun h=>h)⟩
def jZ (P:Ax)(C:c7->Prop)(g:Az)(args:Af)(hp:Hp)(v:Aw)(hp':Hp):Prop:=∃m0,∀call,C call-> ∀m,m0<=m-> ∀runD,fU (V2 P (j3 P) call runD m g) args hp=some (v,hp')
def jZ.of {args:Af}{v:Aw}(h:∃m0,∀call,C call-> ∀m,m0<=m-> ∀runD,V2 P (j3 P) call runD m g args hp=some (v,hp')):jZ P C g args hp v hp':=by obtain⟨m0,h⟩:=h;exact⟨m0,fun call hc m hm runD=>by unfold fU;rw[h call hc m hm runD]⟩
set_option maxRecDepth 2000 in
theorem Ce (D:fE P g ρ e ie zv){o at_:Nat}(M:Nat.max lo n<=67108864)(N:n+1<=67108864)(ab:at_<=n)(E:j≠i)(hi:i<hp.nx)(hj:j<hp.nx){c:Ao}(W:hp.m.get i=some (.cells c k e ie.size))(L:hp.m.get j=some (.cells cj kj ej zj))(hk:o+n*ie.size<=k)(hl:d6 c o (n*ie.size)=some olds)(hn:j2 hp ie.size (.slice (some ⟨j,q,none⟩) 1 cm)=some (1,news))(F:news.length=ie.size)(z:olds.all Value.oneCell'=true)(d:news.all Value.oneCell'=true):∃v hp',jZ P (COv ρ) g [.slice (some ⟨i,o,none⟩) n (c8 lo 0),.int .i64 at_,.slice (some ⟨j,q,none⟩) 1 cm] hp v hp'/\wh hp i (fun x=>x=j) e ie.size (n+1) (olds.take (at_*ie.size)++news++olds.drop (at_*ie.size)) v hp':=by
 obtain⟨fn,O,f2,R,f4⟩:=D.fn;obtain⟨cd,B⟩:∃cd,fn.body=some cd/\(Go.Proofs.Body2.n21 ρ).body.getD .skip=cd:=⟨_,f2.trans (by rfl),rfl⟩
 have H:=(g9 hl).1;have u:Nat.ble (Nat.max lo n) 67108864=true:=JS M;have w:Nat.ble (n+1) 67108864=true:=JS N;have ai:n<=Nat.max lo n:=Lg lo n;rcases Nat.lt_or_ge at_ n with hlt|hge
 ·by_cases A:n+1<=Nat.max lo n
  ·
   have h:=qr D u A hlt E W L hk hl hn F z d;rw[B.2]at h;obtain⟨v,hp',⟨tm1,rfl,q1,q2,q3,ct,k',q4,q5,q6⟩,s⟩:=T6 (args:=[.slice (some ⟨i,o,none⟩) n (c8 lo 0),.int .i64 at_,.slice (some ⟨j,q,none⟩) 1 cm]) O B.1 f4 (by rw[R];exact h);refine⟨_,_,.of s,⟨i,o,Nat.max lo n,ct,k',by rw[q1];rfl,M,.inl rfl,by omega,q4,q5,q6⟩,q2,fun x _ hx _=>q3 x hx⟩
  ·
   have G:Nat.max lo n<n+1:=Nat.lt_of_not_le A;have a:=Cg (C:=COv ρ) D (at_:=at_) (vv:= .slice (some ⟨j,q,none⟩) 1 cm) rfl u G hlt (o:=o) W;rw[B.2]at a;obtain⟨m1,a⟩:=xO (C:=COv ρ) (args:=[.slice (some ⟨i,o,none⟩) n (c8 lo 0),.int .i64 at_,.slice (some ⟨j,q,none⟩) 1 cm]) O B.1 (by rw[R];exact a);have gi:((T.set .e i (some (.cells c k e ie.size))).set j (some (.cells cj kj ej zj)):T Blk).get i=some (.cells c k e ie.size):=by rw[Mw,Kg (Ne.symm E),Mw,Ki rfl]
   have gj:((T.set .e i (some (.cells c k e ie.size))).set j (some (.cells cj kj ej zj)):T Blk).get j=some (.cells cj kj ej zj):=by rw[Mw,Ki rfl]
   generalize hS:(⟨(T.set .e i (some (.cells c k e ie.size))).set j (some (.cells cj kj ej zj)),hp.nx⟩:Hp)=S at*;have gi:S.m.get i=some (.cells c k e ie.size):=by grind
   have gj:S.m.get j=some (.cells cj kj ej zj):=by grind
   have K:S.nx=hp.nx:=by grind
   have X:j2 S ie.size (.slice (some ⟨j,q,none⟩) 1 cm)=some (1,news):=by rw[cV (gj.trans L.symm)];exact hn
   have J:Nat.max (n+1) n=n+1:=LI (Lk n);have hA:=qr (hp:=S) D (lo:=n+1) (by rw[J];exact w) (by rw[J];exact Kj _) hlt E gi gj hk hl X F z d;have hB:=Cf (hp:=S) (C:=COv ρ) D w hlt (by rw[K];exact hi) (by rw[K];exact hj) gi hk hl X F z d;rw[B.2]at hA hB;obtain⟨vA,l,⟨ak,rfl,a1,a2,a3,cA,kA,a4,a5,a6⟩,mA,Y⟩:=T6 (args:=[.slice (some ⟨i,o,none⟩) n (c8 (n+1) 0),.int .i64 at_,.slice (some ⟨j,q,none⟩) 1 cm]) O B.1 f4 (by rw[R];exact hA);obtain⟨vB,p,⟨al,rfl,b1,b2,b3,cB,kB,b4,b5,b6⟩,mB,Z⟩:=T6 (args:=[.slice (some ⟨i,o,none⟩) n (c8 n (n+1)),.int .i64 at_,.slice (some ⟨j,q,none⟩) 1 cm]) O B.1 f4 (by rw[R];exact hB);rw[a1,KC]at Y;rw[b1,KC]at Z;generalize hV:olds.take (at_*ie.size)++news++olds.drop (at_*ie.size)=V at*;have aa:V.length=(n+1)*ie.size:=(g9 a6).1;refine⟨.slice (some ⟨Nat.max l.nx p.nx,0,none⟩) (n+1) (c8 (n+1) 0),⟨((hp.m.set i none).set j none).set (Nat.max l.nx p.nx) (some (.cells (fill .e 0 V) ((n+1)*ie.size) e ie.size)),Nat.max l.nx p.nx+1⟩,⟨max m1 (max mA mB),fun call hc m hm runD=>?_⟩,?_⟩
   ·unfold fU;rw[a call hc m (by omega) runD];simp only;have e0:(Nat.ble unk (c8 lo 0)&&Nat.beq (D1 (c8 lo 0)) 0&& !(Nat.beq i j)&&Nat.ble (n+1) 67108864)=true:=by rw[JS (j1 lo 0),N7,l6 rfl,s7 (Ne.symm E),w];rfl
    have e1:(Nat.beq (n+1) (n+1)&&Nat.ble unk (c8 (n+1) 0)&&Nat.ble unk (c8 (n+1) 0))=true:=by rw[JS (j1 (n+1) 0),l6 rfl];rfl
    have e2:(Nat.ble (o+(n+1)*ie.size) kA&&Nat.ble (0+(n+1)*ie.size) kB&&Nat.beq e e&&Nat.beq ie.size ie.size)=true:=by simp_all
    unfold sL;simp only;rw[e0,Kc,W,L];simp only;rw[hS,Y call hc m (by omega) runD,Z call hc m (by omega) runD,J];simp only;rw[e1,Kc,a4,b4];simp only;rw[e2,Kc,a6,b6];simp only;rw[AP,Bool.or_true,Kc]
   ·have ac:l.nx<=Nat.max l.nx p.nx:=Nat.le_max_left _ _;have ah:p.nx<=Nat.max l.nx p.nx:=Lg _ _;have hx:hp.nx<=Nat.max l.nx p.nx:=by rw[<-K];exact KS a2 ac
    refine⟨⟨Nat.max l.nx p.nx,0,n+1,fill .e 0 V,(n+1)*ie.size,rfl,N,.inr hx,KW _,by simp only[Mw,Ki],Nat.le_of_eq (Ks _),?_⟩,KS hx (Lk _),fun x aj ad ae=>?_⟩
    ·rw[<-aa];exact i8 (fun y hy=>by rw[Ks];exact v8 V y hy)
    ·show(T.set _ _ _:T Blk).get x=_;rw[Mw,Kg (by omega),Mw,Kg ae,Mw,Kg ad]
 ·
  have U:at_=n:=Nat.le_antisymm ab hge;subst U;obtain⟨v0,h1,_,_⟩:=kZ (hp:=hp) D.t22 D.ty u (Kj at_) W hk hl;obtain⟨r,hp1,h2,h3⟩:=vD D.t22 D.ty D.zero D.zl D.by_ (JS (KS (Nat.le_max_left lo at_) M)) N hn hi W hk hl d F;have h:=vO (C:=COv ρ) D (h1 hp.nx) h2;rw[B.2]at h;obtain⟨v,hp',⟨tm1,rfl,q1,rfl⟩,s⟩:=T6 (args:=[.slice (some ⟨i,o,none⟩) at_ (c8 lo 0),.int .i64 at_,.slice (some ⟨j,q,none⟩) 1 cm]) O B.1 f4 (by rw[R];exact h);rw[q1,KC]at s;refine⟨r,_,.of s,?_⟩;rw[KK (Nat.le_of_eq H),List.drop_eq_nil_of_le (Nat.le_of_eq H),Lz];exact h3.weak
def QQ (D:fE P g ρ e ie zv)(hn:j2 hp ie.size (.slice (some ⟨j,q,none⟩) 1 cm)=some (1,news)):∃v hp',jZ P C g [.slice none 0 0,.int .i64 ((0:Nat):Int),.slice (some ⟨j,q,none⟩) 1 cm] hp v hp'/\v= .slice (some ⟨hp.nx,0,none⟩) 1 (c8 1 0)/\hp'=hp.new news e ie.size:=by
 obtain⟨fn,s,u,w,z⟩:=D.fn;obtain⟨c,d⟩:∃c,fn.body=some c/\(Go.Proofs.Body2.n21 ρ).body.getD .skip=c:=⟨_,u.trans (by rfl),rfl⟩
 have h1:i9 P hp (ρ.t 22) (.slice none 0 0) (some (.int .i64 ((0:Nat):Int))) none none=some (.slice none 0 0,hp):=by
  have hb:p9 0 0 (some (.int .i64 ((0:Nat):Int))) none none=some (0,0,none):=by simp only[p9,F6 (Kj 0)]
  unfold i9;simp only[D.t22,D.ty];rw[l6 rfl,hb];rfl
 have h2:y9 P hp (ρ.t 22) (ρ.t 22) (.slice none 0 0) (.slice (some ⟨j,q,none⟩) 1 cm)=some (.slice (some ⟨hp.nx,0,none⟩) 1 (c8 1 0),hp.new news e ie.size):=by
  have l:(Nat.beq zv.cells.toList.length ie.size&&Nat.ble ie.bytes 1048576)=true:=by rw[D.zl,l6 rfl,JS D.by_];rfl
  have p:(Nat.beq 0 0&&Nat.beq 0 0&&Nat.ble 1 67108864)=true:=by rw[l6 rfl,JS (by omega)];rfl
  unfold y9;simp only[D.t22,D.ty,D.zero];rw[l,Kc,hn];simp only;rw[p,Kc,s7 Nat.one_ne_zero,Ke]
 have h:=vO (C:=C) D h1 h2;rw[d.2]at h;obtain⟨v,hp',⟨tm1,rfl,q1,rfl⟩,a⟩:=T6 (args:=[.slice none 0 0,.int .i64 ((0:Nat):Int),.slice (some ⟨j,q,none⟩) 1 cm]) s d.1 z (by rw[w];exact h);rw[q1,KC]at a;exact⟨_,_,.of a,rfl,rfl⟩
def Cc (D:sP P g ρ e ie zv){o a b:Nat}(d:Nat.max lo n<=67108864)(u:a<b)(w:b<=n)(hi:i<hp.nx){c:Ao}(G:hp.m.get i=some (.cells c k e ie.size))(hk:o+n*ie.size<=k)(hl:d6 c o (n*ie.size)=some olds)(l:olds.all Value.oneCell'=true):∃v hp',jZ P C g [.slice (some ⟨i,o,none⟩) n (c8 lo 0),.int .i64 a,.int .i64 b] hp v hp'/\wh hp i (fun _=>False) e ie.size (a+(n-b)) (olds.take (a*ie.size)++olds.drop (b*ie.size)) v hp':=by
 obtain⟨fn,A,B,E,F⟩:=D.fn;obtain⟨s,z⟩:∃s,fn.body=some s/\(Go.Proofs.Body2.n23 ρ).body.getD .skip=s:=⟨_,B.trans (by rfl),rfl⟩
 have h:=FM (C:=C) D (JS d) u w G hk hl l;rw[z.2]at h;obtain⟨v,hp',⟨tm1,rfl,q1,q2,H,ct,J,K⟩,p⟩:=T6 (args:=[.slice (some ⟨i,o,none⟩) n (c8 lo 0),.int .i64 a,.int .i64 b]) A z.1 F (by rw[E];exact h);refine⟨_,_,.of p,⟨i,o,Nat.max lo n,ct,k,by rw[q1];rfl,d,.inl rfl,by omega,J,?_,K⟩,q2,fun x _ hx _=>H x hx⟩;have:(a+(n-b))*ie.size<=n*ie.size:=JY _ (by omega);omega
end
end Go.Xe
end PartXm422
noncomputable section PartXm423
namespace Go.Xe
open Go.RowKit
structure yi (P:Ax)(g:Az)(ρ:Go.Shelf.Ren)(e:Ay)(ie:Bb)(zv:Aw):Prop where
 fn:∃fn,P.funcs[g]? =some fn/\fn.body=(Go.Proofs.Body2.n15 ρ).body/\fn.ntmps=8/\fn.results= #[.tmp 2]
 t22:P.underlying (ρ.t 22)=some (.slice e)
 ty:P.info? e=some ie
 zero:ie.zero=some zv
 cst:cst zv=true
 zl:zv.cells.toList.length=ie.size
 by_:ie.bytes<=1048576
section
variable {P :Ax}{g:Az}{ρ:Go.Shelf.Ren}{e:Ay}{ie:Bb}{zv:Aw}{hp:Hp}{C:c7->Prop}
def zY {t:Ay}(ht:P.underlying t=some (.slice e))(a:Ar)(n c:Nat):c9 hp (v6 P .eql t (.slice a n c) (.slice none 0 0))=some (.bool a.isNone,hp):=by
 have h:J3 P .eql t (.slice a n c) (.slice none 0 0)=some (.bool a.isNone):=by simp only[J3,I1,Kc];unfold xeq;simp only[ht];cases a<;>rfl
 simp only[v6,h,c9]
def vK (D:yi P g ρ e ie zv)(n c:Nat):jZ P C g [.slice none n c] hp (.slice none 0 0) hp:=by
 obtain⟨fn,p,s,u,w⟩:=D.fn;obtain⟨d,l⟩:∃d,fn.body=some d/\(Go.Proofs.Body2.n15 ρ).body.getD .skip=d:=⟨_,s.trans (by rfl),rfl⟩
 have h:XT P C 8 ((Go.Proofs.Body2.n15 ρ).body.getD .skip) (fill .e 0 [.slice none n c]) hp fun tm' hp'=>tm'.get 2=some (.slice none 0 0)/\hp'=hp:=by simp only[Go.Proofs.Body2.n15,KC,fill];refine .seq (.region (.cons rfl rfl (fun _ _=>rfl) (.nil ?_)));refine .seqR (.seq (.region (.mv rfl rfl rfl rfl (.cons rfl rfl (fun _ _=>zY D.t22 _ _ _) (.nil ?_)))));refine .condT rfl (.seq (.region (.cons rfl rfl (fun _ _=>rfl) (.nil (.ret ⟨rfl,rfl⟩)))))
 rw[l.2]at h;obtain⟨v,hp',⟨tm1,rfl,q1,rfl⟩,a⟩:=T6 (args:=[.slice none n c]) p l.1 w (by rw[u];exact h);rw[q1,KC]at a;exact .of a
def qn (D:yi P g ρ e ie zv){a:Addr}{n c:Nat}{olds:Af}(hn:n<=67108864)(hx:∀hp1:Hp,(∀j,j<hp.nx->hp1.m.get j=hp.m.get j)->j2 hp1 ie.size (.slice (some a) n c)=some (n,olds))(hl:olds.length=n*ie.size)(H:olds.all Value.oneCell'=true):∃b c' hp' ct,jZ P C g [.slice (some a) n c] hp (.slice (some ⟨b,0,none⟩) n c') hp'/\hp.nx<=b/\b<hp'.nx/\(∀j,j<hp.nx->hp'.m.get j=hp.m.get j)/\hp'.m.get b=some (.cells ct (n*ie.size) e ie.size)/\d6 ct 0 (n*ie.size)=some olds/\(n=0/\c'=0\/c'=c8 n 0):=by
 obtain⟨fn,A,B,E,F⟩:=D.fn;obtain⟨s,z⟩:∃s,fn.body=some s/\(Go.Proofs.Body2.n15 ρ).body.getD .skip=s:=⟨_,B.trans (by rfl),rfl⟩
 let H1:Hp:=⟨hp.m.set hp.nx (some (.cells .e 0 e ie.size)),hp.nx+1⟩
 have u:∀j,j<hp.nx->H1.m.get j=hp.m.get j:=fun j hj=>by show(hp.m.set _ _).get j=_;rw[Mw,Kg (by omega)]
 have hb:∀tm call,xop P call tm hp (.buildSlice (ρ.t 22) 0 #[])=some (.slice (some ⟨hp.nx,0,none⟩) 0 0,H1):=by
  intro tm call;have h1:D6 P e=some zv:=by unfold D6;simp only[D.ty,D.zero,D.cst,Kc]
  simp only[b9,f7,K3,xnw,sw,D.t22,D.ty,h1,D.zl];have h2:Nat.ble 0 16777216=true:=rfl;simp[G9,Hp.add,Nw.val,A0,dn,xrep,fill,H1,Nat.beq_refl,h2]
 have w:Nat.ble n 67108864=true:=JS hn;have h0:(Nat.beq zv.cells.toList.length ie.size&&Nat.ble ie.bytes 1048576)=true:=by rw[D.zl,l6 rfl,JS D.by_];rfl
 have hH:H1.m.get hp.nx=some (.cells .e 0 e ie.size):=by show(hp.m.set _ _).get _=_;rw[Mw,Ki rfl]
 obtain⟨b,c',hp',ct,ha,h1,h2,h3,h4,h5,G⟩:∃b c' hp' ct,y9 P H1 (ρ.t 22) (ρ.t 22) (.slice (some ⟨hp.nx,0,none⟩) 0 0) (.slice (some a) n c)=some (.slice (some ⟨b,0,none⟩) n c',hp')/\hp.nx<=b/\b<hp'.nx/\(∀j,j<hp.nx->hp'.m.get j=hp.m.get j)/\hp'.m.get b=some (.cells ct (n*ie.size) e ie.size)/\d6 ct 0 (n*ie.size)=some olds/\(n=0/\c'=0\/c'=c8 n 0):=by
  have p:=hx H1 u;by_cases hz:n=0
  ·subst hz;have:olds=[]:=JR (by rw[hl,Ly]);subst this;refine⟨hp.nx,0,H1,.e,?_,Kj _,KW _,u,by rw[Ly];exact hH,by rw[Ly];rfl,.inl ⟨rfl,rfl⟩⟩;unfold y9;simp only[D.t22,D.ty,D.zero];rw[h0,Kc,p];simp only[hH];rfl
  ·refine⟨hp.nx+1,c8 n 0,H1.new olds e ie.size,fill .e 0 olds,?_,Lk _,KW _,fun j hj=>?_,?_,?_,.inr rfl⟩
   ·unfold y9;simp only[D.t22,D.ty,D.zero];rw[h0,Kc,p];simp only[hH,Ks,w,H,Bool.and_self,Kc,s7 hz,Ke,Ly];rw[show Nat.ble unk 0=false from rfl,Ke,ble_f (show 0<n by omega),Ke];rfl
   ·show(H1.m.set (hp.nx+1) _).get j=_;rw[Mw,Kg (by omega)];exact u j hj
   ·show(H1.m.set (hp.nx+1) _).get (hp.nx+1)=_;rw[Mw,Ki rfl,hl]
   ·rw[<-hl];exact i8 fun j hj=>by rw[v8 olds _ (by omega),Ks]
 have h:XT P C 8 ((Go.Proofs.Body2.n15 ρ).body.getD .skip) (fill .e 0 [.slice (some a) n c]) hp fun tm' d=>tm'.get 2=some (.slice (some ⟨b,0,none⟩) n c')/\d=hp':=by simp only[Go.Proofs.Body2.n15,KC,fill];refine .seq (.region (.cons rfl rfl (fun _ _=>rfl) (.nil ?_)));refine .seq (.seq (.region (.mv rfl rfl rfl rfl (.cons rfl rfl (fun _ _=>zY D.t22 _ _ _) (.nil (.condF rfl (.skip ?_)))))));refine .seq (.region (.cons rfl rfl (fun _ _=>hb _ _) (.mv rfl rfl rfl rfl (.cons rfl rfl (fun _ _=>jI ha) (.asg rfl rfl rfl rfl (.nil (.ret ⟨rfl,rfl⟩)))))))
 rw[z.2]at h;obtain⟨v,d,⟨tm1,rfl,q1,rfl⟩,l⟩:=T6 (args:=[.slice (some a) n c]) A z.1 F (by rw[E];exact h);rw[q1,KC]at l;exact⟨b,c',d,ct,.of l,h1,h2,h3,h4,h5,G⟩
end
end Go.Xe
end PartXm423
