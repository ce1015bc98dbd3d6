/- The executor: Delete and Insert, parts 22, 23.
  Conditions: none. -/
import Derived.Test.YtoegfalhkackeaaGreatSm3
import Derived.Shelf.Bodies2
set_option linter.all false
noncomputable section
namespace Go.Xe
open Go.RowKit
structure HL (P:Aw)(g:Ay)(ρ:Go.Shelf.Ren)(e:Ax)(ie:Ba)(zv:Av):Prop where
 fn:∃fn,P.funcs[g]? =some fn/\fn.body=(Go.Proofs.Body2.n23 ρ).body/\fn.ntmps=33/\fn.results= #[.tmp 6]
 t22:P.underlying (ρ.t 22)=some (.slice e)
 ty:P.info? e=some ie
 zero:ie.zero=some zv
 cst:cst zv=true
 zl:zv.cells.toList.length=ie.size
 one:zv.cells.toList.all Value.oneCell'=true
 by_:ie.bytes<=1048576
section
variable {P :Aw}{g:Ay}{ρ:Go.Shelf.Ren}{e:Ax}{ie:Ba}{zv:Av}{call:i9}{runD:Ay->Af->Hp->Bb (Av×Hp)}{hp:Hp}
def Y1 (lo:Nat):O8 (d8 lo 0)=lo:=H6 F6
def T4 (lo:Nat):E7 (d8 lo 0)=0:=G3 F6
theorem aI {a b:Nat}(h:b<a):Nat.ble a b=false:=by
 cases e:Nat.ble a b with
 |false=>rfl|true=>simp_all;omega
variable {m:Nat}
theorem Q0 {v:Nat}(h:v<=m):J4 (.int .i64 v) m=some v:=by simp only[J4];grind
variable {e' i k lo n:Nat}{c:Ao}
theorem qN {t:Ax}(ht:P.underlying t=some (.slice e))(hi:P.info? e=some ie){o up l h:Nat}(d:up<unk)(u:Nat.ble (Nat.max lo n) 67108864=true)(hh:h<=Nat.max lo n)(hl:l<=h)(hlt:l<Nat.max lo n)(hg:hp.m.get i=some (.cells c k e' ie.size))(s p:Ag)(z:s=some (.int .i64 l)\/(s=none/\l=0))(w:p=some (.int .i64 h)\/(p=none/\h=n)):w9 P hp t (.slice (some ⟨i,o,none⟩) n (d8 lo up)) s p none=some (.slice (some ⟨i,o+l*ie.size,none⟩) (h-l) (d8 (Nat.max lo n-l) (up-l)),hp):=by
 have hb:A8 n (Nat.max lo n) s p none=some (l,h,none):=by rcases w with rfl| ⟨rfl,rfl⟩<;>rcases z with rfl| ⟨rfl,rfl⟩<;>simp only[A8,Option.getD_none,Q0 hh,Q0 hl]
 simp only[w9,ht,hi,H6 d,G3 d,Ta (q0 lo up),Tk];rw[u,Tk,hb];simp only;by_cases h0:l=0;simp_all;rw[z4 h0,Tl,z4 (by omega),Tl,hg];simp_all
theorem Q6 {t:Ax}(ht:P.underlying t=some (.slice e))(hi:P.info? e=some ie){o l h:Nat}(s:Nat.ble (Nat.max lo n) 67108864=true)(hh:h<=Nat.max lo n)(hl:l<=h)(hlt:l<Nat.max lo n)(hg:hp.m.get i=some (.cells c k e' ie.size))(p d:Ag)(w:p=some (.int .i64 l)\/(p=none/\l=0))(u:d=some (.int .i64 h)\/(d=none/\h=n)):w9 P hp t (.slice (some ⟨i,o,none⟩) n (d8 lo 0)) p d none=some (.slice (some ⟨i,o+l*ie.size,none⟩) (h-l) (d8 (Nat.max lo n-l) 0),hp):=by have:=qN ht hi (o:=o) F6 s hh hl hlt hg p d w u;grind
def XS (P:Aw)(C:i9->Prop)(nt:Nat)(c:Code)(tm:Ao)(hp:Hp)(r:XR):Prop:=∃m0,∀call,C call-> ∀m,m0<=m->j8 P (v6 P) call nt none m c tm hp []=some r
variable {C :i9->Prop}{nt:Nat}{tm tm1:Ao}{hp1:Hp}{r:XR}
def XS.ret :XS P C nt .ret tm hp (.mk .ret tm hp []):=⟨1,λ_ _ m hm=>by obtain⟨k,rfl⟩:∃k,m=k+1:=⟨m-1,by omega⟩;rfl⟩
def XS.skip :XS P C nt .skip tm hp (.mk .normal tm hp []):=⟨1,λ_ _ m hm=>by obtain⟨k,rfl⟩:∃k,m=k+1:=⟨m-1,by omega⟩;rfl⟩
variable {id:Nat}{ops:Am}
def XS.region (h:∀call,C call->xN P call nt ops.toList ops.toList tm hp=some (tm1,hp1)):XS P C nt (.region id ops false) tm hp (.mk .normal tm1 hp1 []):=
 ⟨1,λcall hc m hm=>by obtain⟨k,rfl⟩:∃k,m=k+1:=⟨m-1,by omega⟩;simp only[j8,Tl,h call hc]⟩
def XS.draw (h:∀call,C call->v6 P call nt ops.toList tm hp=some (tm1,hp1)):XS P C nt (.region id ops true) tm hp (.mk .normal tm1 hp1 []):=
 ⟨1,λcall hc m hm=>by obtain⟨k,rfl⟩:∃k,m=k+1:=⟨m-1,by omega⟩;simp only[j8,Tk,h call hc]⟩
variable {a b:Code}
def XS.seq (h:XS P C nt a tm hp (.mk .normal tm1 hp1 []))(k:XS P C nt b tm1 hp1 r):XS P C nt (.seq a b) tm hp r:=by
 obtain⟨m1,h⟩:=h;obtain⟨d,k⟩:=k;refine⟨max m1 d+1,λcall hc m hm=>?_⟩;obtain⟨j,rfl⟩:∃j,m=j+1:=⟨m-1,by omega⟩
 simp only[j8,h call hc j (by omega),k call hc j (by omega)]
def XS.seqR (h:XS P C nt a tm hp (.mk .ret tm1 hp1 [])):XS P C nt (.seq a b) tm hp (.mk .ret tm1 hp1 []):=by
 obtain⟨m1,h⟩:=h;refine⟨m1+1,λcall hc m hm=>?_⟩;obtain⟨j,rfl⟩:∃j,m=j+1:=⟨m-1,by omega⟩
 simp only[j8,h call hc j (by omega)]
def XS.condT {c:Az}(hc:i6 tm c=some (.bool true))(h:XS P C nt a tm hp r):XS P C nt (.cond c a b) tm hp r:=by
 obtain⟨m1,h⟩:=h;refine⟨m1+1,λcall d m hm=>?_⟩;obtain⟨j,rfl⟩:∃j,m=j+1:=⟨m-1,by omega⟩
 simp only[j8,hc,h call d j (by omega)]
def XS.condF {c:Az}(hc:i6 tm c=some (.bool false))(h:XS P C nt b tm hp r):XS P C nt (.cond c a b) tm hp r:=by
 obtain⟨m1,h⟩:=h;refine⟨m1+1,λcall d m hm=>?_⟩;obtain⟨j,rfl⟩:∃j,m=j+1:=⟨m-1,by omega⟩
 simp only[j8,hc,h call d j (by omega)]
def XN (P:Aw)(C:i9->Prop)(nt:Nat)(c:Code)(tm:Ao)(hp:Hp)(Q:Ao->Hp->Prop):Prop:=∃tm1 hp1,XS P C nt c tm hp (.mk .normal tm1 hp1 [])/\Q tm1 hp1
def XT (P:Aw)(C:i9->Prop)(nt:Nat)(c:Code)(tm:Ao)(hp:Hp)(Q:Ao->Hp->Prop):Prop:=∃tm1 hp1,XS P C nt c tm hp (.mk .ret tm1 hp1 [])/\Q tm1 hp1
def XO (P:Aw)(C:i9->Prop)(nt:Nat)(all l:An)(tm:Ao)(hp:Hp)(Q:Ao->Hp->Prop):Prop:=∃tm1 hp1,(∀call,C call->xN P call nt all l tm hp=some (tm1,hp1))/\Q tm1 hp1
variable {Q :Ao->Hp->Prop}
def XT.ret (h:Q tm hp):XT P C nt .ret tm hp Q:=⟨_,_,XS.ret,h⟩
def XN.skip (h:Q tm hp):XN P C nt .skip tm hp Q:=⟨_,_,XS.skip,h⟩
def XN.seq (h:XN P C nt a tm hp λtm1 hp1=>XN P C nt b tm1 hp1 Q):XN P C nt (.seq a b) tm hp Q:=by obtain⟨t1,h1,k1,t2,h2,k2,k3⟩:=h;exact⟨t2,h2,k1.seq k2,k3⟩
def XT.seq (h:XN P C nt a tm hp λtm1 hp1=>XT P C nt b tm1 hp1 Q):XT P C nt (.seq a b) tm hp Q:=by obtain⟨t1,h1,k1,t2,h2,k2,k3⟩:=h;exact⟨t2,h2,k1.seq k2,k3⟩
def XT.seqR (h:XT P C nt a tm hp Q):XT P C nt (.seq a b) tm hp Q:=by obtain⟨t1,h1,k1,k2⟩:=h;exact⟨t1,h1,k1.seqR,k2⟩
def XN.condF {c:Az}(hc:i6 tm c=some (.bool false))(h:XN P C nt b tm hp Q):XN P C nt (.cond c a b) tm hp Q:=by obtain⟨t1,h1,k1,k2⟩:=h;exact⟨t1,h1,k1.condF hc,k2⟩
def XT.condT {c:Az}(hc:i6 tm c=some (.bool true))(h:XT P C nt a tm hp Q):XT P C nt (.cond c a b) tm hp Q:=by obtain⟨t1,h1,k1,k2⟩:=h;exact⟨t1,h1,k1.condT hc,k2⟩
def XN.region (h:XO P C nt ops.toList ops.toList tm hp Q):XN P C nt (.region id ops false) tm hp Q:=by obtain⟨t1,h1,k1,k2⟩:=h;exact⟨t1,h1,.region k1,k2⟩
def XO.nil {all:An}(h:Q tm hp):XO P C nt all [] tm hp Q:=⟨_,_,λ_ _=>xP,h⟩
theorem XO.cons {all rest:An}{o:Oper}{v:Av}(h1:C4 nt o.dst=true)(h2:o.guard=none)(h:∀call,C call->xop P call tm hp o.op=some (v,hp1))(k:XO P C nt all rest (y7 tm o.dst v) hp1 Q):XO P C nt all (o::rest) tm hp Q:=by obtain⟨t1,d,k1,k2⟩:=k;refine⟨t1,d,λcall hc=>?_,k2⟩;rw[U2,h1,Tk,h call hc];simp only[v5,h2,Tk];grind
variable {t:Tmp}
def XO.mv {all rest:An}{o:Oper}(h1:C4 nt o.dst=true)(h2:o.guard=none)(h:o.op= .move (.tmp t)){v:Av}(hv:tm.get t=some v)(k:XO P C nt all rest (y7 tm o.dst v) hp Q):XO P C nt all (o::rest) tm hp Q:=
 .cons h1 h2 (λ_ _=>by rw[h];simp only[xop,i6,j3,hv,TL]) k
def XO.asg {all rest:An}{o:Oper}(h1:C4 nt o.dst=true)(h2:o.guard=none)(h:o.op= .assign (.tmp t)){v:Av}(hv:tm.get t=some v)(k:XO P C nt all rest (y7 tm o.dst v) hp Q):XO P C nt all (o::rest) tm hp Q:=
 .cons h1 h2 (λ_ _=>by rw[h];simp only[xop,i6,j3,hv,TL]) k
def xG {t:Ax}(ht:P.underlying t=some (.slice e))(a:Aq)(n c:Nat):lU P t (.slice a n c)=some (.int .i64 n):=by unfold lU;simp only[ht]
def I3 {t:Ax}(ht:P.underlying t=some (.slice e))(a:Aq)(n c:Nat):j3 hp (lU P t (.slice a n c))=some (.int .i64 n,hp):=by rw[xG ht];rfl
variable {x y:Av}
def AT {t u:Ax}{r:Av×Hp}(h:D1 P hp t u x y=some r):B9 P hp .append [t,u] [x,y]=some r:=by simp only[B9,h]
def XG (P:Aw)(C:i9->Prop)(nt:Nat)(all:An)(nx0:Nat)(l:List (Oper×Nat))(i:Nat)(tm:Ao)(S:Hp)(I:Nat)(es:List Ent)(Q:Out->Prop):Prop:=∃out,(∀call,C call->xgo P call nt all nx0 l i tm S I es=some out)/\Q out
variable {all :An}{nx0:Nat}{rest:List (Oper×Nat)}{o:Oper}{pre ix I:Nat}{S S2:Hp}{es:List Ent}{QO:Out->Prop}{v:Av}
def XG.nil (h:QO ⟨tm,S,I,es⟩):XG P C nt all nx0 [] ix tm S I es QO:=⟨_,λ_ _=>rfl,h⟩
theorem XG.k0 (h1:C4 nt o.dst=true)(h2:o.guard=none)(h3:j4 o.op=0)(h:∀call,C call->xop P call tm S o.op=some (v,S))(k:XG P C nt all nx0 rest (ix+1) (y7 tm o.dst v) S I (⟨ix,o,pre,tm,S,S,I,true,v,none⟩::es) QO):XG P C nt all nx0 ((o,pre)::rest) ix tm S I es QO:=by obtain⟨out,k1,k2⟩:=k;refine⟨out,λcall hc=>?_,k2⟩;simp only[xgo,v5,h2,Tk,h3,h call hc];grind
theorem XG.k1 (h1:C4 nt o.dst=true)(h2:o.guard=none)(h3:j4 o.op=1)(h:∀call,xop P call tm S o.op=some (v,S))(k:XG P C nt all nx0 rest (ix+1) (y7 tm o.dst v) S I (⟨ix,o,pre,tm,S,S,I,true,v,none⟩::es) QO):XG P C nt all nx0 ((o,pre)::rest) ix tm S I es QO:=by
 obtain⟨out,k1,k2⟩:=k;refine⟨out,λcall hc=>?_,k2⟩;unfold xgo;have:xrd P tm S o.op=some v:=by unfold xrd;simp_all
 simp only[v5,h2,Tk,h3,this];grind
theorem XG.k3 (h1:C4 nt o.dst=true)(h2:o.guard=none)(h3:j4 o.op=3)(ht:takes nx0 (wE pre I) es S=S)(h:∀call,C call->xop P call tm S o.op=some (v,S2))(k:XG P C nt all nx0 rest (ix+1) (y7 tm o.dst v) S2 (I|||pre) (⟨ix,o,pre,tm,S,S2,I,true,v,none⟩::es) QO):XG P C nt all nx0 ((o,pre)::rest) ix tm S I es QO:=by obtain⟨out,k1,k2⟩:=k;refine⟨out,λcall hc=>?_,k2⟩;unfold xgo;rw[h1,Tk];simp only[v5,h2,Tk,h3,ht,h call hc];grind
def XG.mv (h1:C4 nt o.dst=true)(h2:o.guard=none)(h3:o.op= .move (.tmp t))(hv:tm.get t=some v)(k:XG P C nt all nx0 rest (ix+1) (y7 tm o.dst v) S I (⟨ix,o,pre,tm,S,S,I,true,v,none⟩::es) QO):XG P C nt all nx0 ((o,pre)::rest) ix tm S I es QO:=
 .k0 h1 h2 (by rw[h3];rfl) (λ_ _=>by rw[h3];simp only[xop,i6,j3,hv,TL]) k
def XG.asg (h1:C4 nt o.dst=true)(h2:o.guard=none)(h3:o.op= .assign (.tmp t))(hv:tm.get t=some v)(k:XG P C nt all nx0 rest (ix+1) (y7 tm o.dst v) S I (⟨ix,o,pre,tm,S,S,I,true,v,none⟩::es) QO):XG P C nt all nx0 ((o,pre)::rest) ix tm S I es QO:=
 .k0 h1 h2 (by rw[h3];rfl) (λ_ _=>by rw[h3];simp only[xop,i6,j3,hv,TL]) k
theorem XN.drawG (d:stat ops.toList (aZ ops.toList [])=true)(h:XG P C nt ops.toList hp.nx (ops.toList.zip (aZ ops.toList [])) 0 tm ⟨hp.m,hp.nx+ops.toList.length⟩ 0 [] λout=>dyn P ⟨hp.m,hp.nx+ops.toList.length⟩ out.es=true/\takes hp.nx (xZ out.I) out.es out.S=out.S/\Q out.tm out.S):XN P C nt (.region id ops true) tm hp Q:=by
 obtain⟨out,h1,h2,h3,h4⟩:=h;refine⟨out.tm,out.S,.draw λcall hc=>?_,h4⟩;have:iC P call nt ops.toList tm hp=some (out.tm,out.S):=by unfold iC;grind
 unfold v6;grind
variable {f:Ay}
def cX {fn:Func}{c:Code}{args:Af}{r:Tmp}(h1:P.funcs[f]? =some fn)(h2:fn.body=some c)(h3:fn.results= #[.tmp r])(h:XT P C (args.length+(fn.ntmps-args.length)) c (fill .e 0 args) hp Q):∃v hp',(∃tm1,tm1.get r=v/\Q tm1 hp')/\ ∃d,∀call,C call-> ∀m,d<=m-> ∀runD,S6 P (v6 P) call runD m f args hp=some (v.getD undef,hp'):=by obtain⟨tm1,hp1,⟨d,k1⟩,k2⟩:=h;refine⟨_,hp1,⟨tm1,rfl,k2⟩,d,λcall hc m hm runD=>?_⟩;simp only[S6,h1,h2,k1 call hc m hm,qF,J5,h3,I4,bA,fG]
variable {vs:Af}
theorem cJ {o:Nat}(h:j7 c o n=some vs){a:Nat}(hm:a+m<=n):j7 c (o+a) m=some ((vs.drop a).take m):=by
 obtain⟨h1,h2⟩:=m9 h;have d:((vs.drop a).take m).length=m:=by grind
 have:=A9 (λj hj=>by rw[d]at hj;rw[TB,Tp hj,TI,h2 (a+j) (by omega),Ud]);grind
theorem HH {t:Ax}(ht:P.underlying t=some (.slice e))(hi:P.info? e=some ie){o a b:Nat}(l:Nat.ble (Nat.max lo n) 67108864=true)(d:a<=b)(h:b<=n):∃v,w9 P hp t (.slice (some ⟨i,o,none⟩) n (d8 lo 0)) (some (.int .i64 a)) (some (.int .i64 b)) (some (.int .i64 n))=some (v,hp):=by
 have hb:A8 n (Nat.max lo n) (some (.int .i64 a)) (some (.int .i64 b)) (some (.int .i64 n))=some (a,b,some n):=by simp only[A8,Q0 (Un lo n),TO,TL,Q0 h,Q0 d]
 simp only[w9,ht,hi,Y1,T4,Ta (q0 lo 0),Tk];rw[l,Tk,hb];cases hc:Nat.beq n a with
 |true=>simp_all|false=>simp_all
theorem Fy {t:Ax}(ht:P.underlying t=some (.slice e))(hi:P.info? e=some ie){o b:Nat}(h:Nat.ble (Nat.max lo n) 67108864=true)(hb:b=0):w9 P hp t (.slice (some ⟨i,o,none⟩) n (d8 lo 0)) (some (.int .i64 b)) none none=some (.slice (some ⟨i,o,none⟩) n (d8 (Nat.max lo n) 0),hp):=by
 have d:A8 n (Nat.max lo n) (some (.int .i64 b)) none none=some (b,n,none):=by simp only[A8,Q0 (show b<=n by omega)]
 simp only[w9,ht,hi,Y1,T4,Ta (q0 lo 0),Tk];rw[h,Tk,d];simp_all
def HI {t:Ax}(ht:P.underlying t=some (.slice e))(hi:P.info? e=some ie){o b:Nat}(h:Nat.ble (Nat.max lo b) 67108864=true)(hb:b≠0)(l:Nat.max lo b=b):w9 P hp t (.slice (some ⟨i,o,none⟩) b (d8 lo 0)) (some (.int .i64 b)) none none=some (.slice (some ⟨0,0,some 0⟩) 0 unk,hp):=by
 have d:A8 b (Nat.max lo b) (some (.int .i64 b)) none none=some (b,b,none):=by simp only[A8,Q0 (Tq b)]
 simp only[w9,ht,hi,Y1,T4,Ta (q0 lo 0),Tk];rw[h,Tk,d];simp only;rw[z4 hb,Tl,u7 l.symm,Tk]
variable {olds:Af}
theorem rP {t:Ax}(ht:P.underlying t=some (.slice e))(hi:P.info? e=some ie){o b:Nat}(l:Nat.ble (Nat.max lo n) 67108864=true)(s:b<=n)(hg:hp.m.get i=some (.cells c k e' ie.size))(hk:o+n*ie.size<=k)(hl:j7 c o (n*ie.size)=some olds):∃x,(∀nx,w9 P ⟨hp.m,nx⟩ t (.slice (some ⟨i,o,none⟩) n (d8 lo 0)) (some (.int .i64 b)) none none=some (x,⟨hp.m,nx⟩))/\(∀nx,y9 ⟨hp.m,nx⟩ ie.size x=some (n-b,olds.drop (b*ie.size)))/\(b<n-> ∃q c',x= .slice (some ⟨i,q,none⟩) (n-b) c'):=by
 have w:n*ie.size=b*ie.size+(n-b)*ie.size:=by rw[<-TF];congr 1;omega
 have u:=(m9 hl).1;have p:=Un lo n;by_cases hlt:b<Nat.max lo n;refine⟨_,λnx=>Q6 (hp:=⟨hp.m,nx⟩) ht hi l (Un lo n) s hlt hg _ _ (.inl rfl) (.inr ⟨rfl,rfl⟩),λnx=>?_,λ_=>⟨_,_,rfl⟩⟩;have h1:=cJ hl (a:=b*ie.size) (m:=(n-b)*ie.size) (by omega);rw[TT (by grind)]at h1;have d:Nat.ble (o+b*ie.size+(n-b)*ie.size) k=true:=Ta (by omega);simp only[y9,hg,rdC,d,Tk,h1];have hb:=Nat.le_antisymm s (by grind);subst hb;have p:=Nat.le_antisymm (Uv hlt) p;rcases Nat.eq_zero_or_pos b with h0|hpos;refine⟨_,λnx=>Fy ht hi l h0,λnx=>?_,λh=>absurd h (Nat.lt_irrefl _)⟩;have d:Nat.ble (o+b*ie.size) k=true:=Ta (by omega);simp only[y9,hg,rdC];rw[d,Tk,hl];simp_all;refine⟨_,λnx=>HI ht hi l (by grind) p,λnx=>?_,λh=>absurd h (Nat.lt_irrefl _)⟩;simp only[y9,Nat.sub_self];grind
variable {news:Af}
theorem CP {t:Ax}(ht:P.underlying t=some (.slice e))(hi:P.info? e=some ie)(hz:ie.zero=some zv)(A:zv.cells.toList.length=ie.size)(z:ie.bytes<=1048576){o sl L:Nat}(hx:y9 hp ie.size x=some (m,news))(hg:hp.m.get i=some (.cells c k e ie.size))(hk:o+(sl+m)*ie.size<=k)(hL:sl+m<=L)(l:Nat.ble L 67108864=true)(d:news.all Value.oneCell'=true)(w:news.length=m*ie.size):∃hp1 ct,D1 P hp t t (.slice (some ⟨i,o,none⟩) sl (d8 L 0)) x=some (.slice (some ⟨i,o,none⟩) (sl+m) (d8 L 0),hp1)/\hp1.nx=hp.nx/\(∀j,j≠i->hp1.m.get j=hp.m.get j)/\hp1.m.get i=some (.cells ct k e ie.size)/\ ∀y,ct.get y=(fill c (o+sl*ie.size) news).get y:=by
 have h:=Ta (Ub hL (SX l));have h1:(Nat.beq zv.cells.toList.length ie.size&&Nat.ble ie.bytes 1048576)=true:=by simp_all
 by_cases hm:m=0;subst hm;have hn:news=[]:=SZ (by omega);subst hn;refine⟨hp,c,?_,rfl,λ_ _=>rfl,hg,λ_=>rfl⟩;have p:Nat.ble sl (d8 L 0)=true:=Ta (by have:=q0 L 0;have:=SX l;unfold unk at*;omega);simp only[D1,ht,hi,hz];rw[h1,Tk,hx];simp only[hg];rw[h];simp only[d,Bool.and_self,Tk,u7,p,Uj];have s:=UN hk;refine⟨{hp with m:=hp.m.set i (some (.cells (fill c (o+sl*ie.size) news) k e ie.size))},fill c (o+sl*ie.size) news,?_,rfl,λj hj=>?_,by simp only[VF,Tp],λ_=>rfl⟩;simp only[D1,ht,hi,hz];rw[h1,Tk,hx];simp only[hg];rw[h];have u:Nat.ble (o+sl*ie.size) k=true:=Ta (by grind);simp only[d,Bool.and_self,Tk,z4 hm,Tl,Ta (q0 L 0),T4,Y1,u,u7,Ta hL,s,N4];rw[show Nat.ble 1 0=false from rfl,Bool.false_and,Tl];simp only[VF,Tn hj]
theorem Fj {t:Ax}(ht:P.underlying t=some (.slice e))(hi:P.info? e=some ie)(hz:ie.zero=some zv)(l:cst zv=true)(s:zv.cells.toList.length=ie.size)(w:zv.cells.toList.all Value.oneCell'=true){o cc:Nat}{u:Nat}(hg:hp.m.get i=some (.cells c k e' u))(hk:o+m*ie.size<=k):∃hp1 ct vs,qD P hp t (.slice (some ⟨i,o,none⟩) m cc)=some (.tuple #[],hp1)/\hp1.nx=hp.nx/\(∀j,j≠i->hp1.m.get j=hp.m.get j)/\hp1.m.get i=some (.cells ct k e' u)/\(∀y,ct.get y=(fill c o vs).get y)/\vs.length=m*ie.size:=by
 cases m with
 |zero=>exact⟨hp,c,[],by simp only[qD,ht],rfl,λ_ _=>rfl,hg,λ_=>rfl,by simp⟩|succ m=>
  have p:S9 P e=some zv:=by unfold S9;simp only[hi,hz,l,Tk]
  have hl:(xrep (m+1) zv.cells.toList).length=(m+1)*ie.size:=by rw[xrep_length,s]
  have d:(xrep (m+1) zv.cells.toList).all Value.oneCell'=true:=by rw[Ty];intro v hv;obtain⟨j,hj,rfl⟩:=List.getElem_of_mem hv;have h2:=dA zv.cells.toList (m+1) j (by grind);grind
  have h:Nat.ble (o+(xrep (m+1) zv.cells.toList).length) k=true:=Ta (by omega);refine⟨{hp with m:=hp.m.set i (some (.cells (fill c o (xrep (m+1) zv.cells.toList)) k e' u))},fill c o (xrep (m+1) zv.cells.toList),xrep (m+1) zv.cells.toList,?_,rfl,λj hj=>?_,by simp only[VF,Tp],λ_=>rfl,hl⟩;simp only[qD,ht,p,hg,h,d,Bool.and_self,Tk,N4];simp only[VF,Tn hj]
theorem Ot (D:HL P g ρ e ie zv){o a b:Nat}(p:Nat.ble (Nat.max lo n) 67108864=true)(w:a<b)(u:b<=n)(hg:hp.m.get i=some (.cells c k e ie.size))(hk:o+n*ie.size<=k)(hl:j7 c o (n*ie.size)=some olds)(R:olds.all Value.oneCell'=true):XT P C 33 ((Go.Proofs.Body2.n23 ρ).body.getD .skip) (fill .e 0 [.slice (some ⟨i,o,none⟩) n (d8 lo 0),.int .i64 a,.int .i64 b]) hp λtm' hp'=>tm'.get 6=some (.slice (some ⟨i,o,none⟩) (a+(n-b)) (d8 (Nat.max lo n) 0))/\hp.nx<=hp'.nx/\(∀j,j≠i->hp'.m.get j=hp.m.get j)/\ ∃ct,hp'.m.get i=some (.cells ct k e ie.size)/\j7 ct o ((a+(n-b))*ie.size)=some (olds.take (a*ie.size)++olds.drop (b*ie.size)):=by
 have O:=(m9 hl).1;have E:n*ie.size=b*ie.size+(n-b)*ie.size:=by rw[<-TF];congr 1;omega
 have B:b*ie.size=a*ie.size+(b-a)*ie.size:=by rw[<-TF];congr 1;omega
 have T:(a+(n-b))*ie.size=a*ie.size+(n-b)*ie.size:=TF _ _ _;have F:n<=Nat.max lo n:=Un lo n;obtain⟨v3,h3⟩:=HH (hp:=hp) D.t22 D.ty (i:=i) (o:=o) (a:=a) (b:=b) p (Nat.le_of_lt w) u;obtain⟨x,J,K,_⟩:=rP (hp:=hp) D.t22 D.ty p u hg hk hl;have hs1:=Q6 (hp:=⟨hp.m,hp.nx+8⟩) D.t22 D.ty (i:=i) (o:=o) (n:=n) (lo:=lo) (l:=0) (h:=a) p (by omega) (UJ _) (by omega) hg none (some (.int .i64 a)) (.inr ⟨rfl,rfl⟩) (.inl rfl);rw[UE,Uj,Ux,Ux]at hs1;have z:(olds.drop (b*ie.size)).length=(n-b)*ie.size:=by grind
 have s:(olds.drop (b*ie.size)).all Value.oneCell'=true:=by grind
 obtain⟨hp2,c2,U,a2,V,M,W⟩:=CP (hp:=⟨hp.m,hp.nx+8⟩) D.t22 D.ty D.zero D.zl D.by_ (i:=i) (o:=o) (sl:=a) (L:=Nat.max lo n) (K _) hg (by omega) (by omega) p s z;have H:=Q6 (hp:=hp2) D.t22 D.ty (i:=i) (o:=o) (n:=a+(n-b)) (lo:=Nat.max lo n) (l:=a+(n-b)) (h:=n) (by rw[show Nat.max (Nat.max lo n) (a+(n-b))=Nat.max lo n from UN (by omega)];exact p)
  (Ub F (Nat.le_max_left _ _)) (by omega) (TX (by omega) (Nat.le_max_left _ _)) M (some (.int .i64 ((a+(n-b):Nat):Int))) (some (.int .i64 n)) (.inl rfl) (.inl rfl)
 obtain⟨G,N,vs,X,b2,Y,Z,b5,b6⟩:=Fj (hp:=hp2) D.t22 D.ty D.zero D.cst D.zl D.one (i:=i) (o:=o+(a+(n-b))*ie.size) (m:=n-(a+(n-b))) (cc:=d8 (Nat.max (Nat.max lo n) (a+(n-b))-(a+(n-b))) 0) M
  (by have : (n - (a + (n - b))) * ie.size = (b - a) * ie.size := by congr 1; omega
      omega)
 refine .seq (.region (.cons rfl rfl (λ_ _=>rfl) (.nil ?_)));refine .seq (.region ?_);refine .mv rfl rfl rfl rfl (.mv rfl rfl rfl rfl (.mv rfl rfl rfl rfl (.mv rfl rfl rfl rfl (.cons (v:= .int .i64 n) (hp1:=hp) rfl rfl (λ_ _=>I3 D.t22 _ _ _) (.cons (v:=v3) (hp1:=hp) rfl rfl (λ_ _=>h3) (.nil ?_))))));refine .seq (.seq (.region (.mv rfl rfl rfl rfl (.mv rfl rfl rfl rfl (.cons (v:= .bool false) (hp1:=hp) rfl rfl ?_ (.nil (.condF rfl (.skip ?_))))))));intro _ _;show j3 hp (M5 P .eql (ρ.t 3) (.int .i64 a) (.int .i64 b))=_;simp only[M5,bS,Ua,Tk,K9,lR,j3];simp_all;omega;refine .seq (.region (.mv rfl rfl rfl rfl (.cons (v:= .int .i64 n) (hp1:=hp) rfl rfl (λ_ _=>I3 D.t22 _ _ _) (.asg rfl rfl rfl rfl (.nil ?_)))));refine .seq (.drawG (by kernel_rfl) ?_);refine .mv rfl rfl rfl rfl (.mv rfl rfl rfl rfl (.k1 (v:= .slice (some ⟨i,o,none⟩) a (d8 (Nat.max lo n) 0)) rfl rfl rfl (λ_=>hs1) ?_));refine .mv rfl rfl rfl rfl (.mv rfl rfl rfl rfl (.k1 (v:=x) rfl rfl rfl (λ_=>J _) ?_));refine .k3 (v:= .slice (some ⟨i,o,none⟩) (a+(n-b)) (d8 (Nat.max lo n) 0)) (S2:=hp2) rfl rfl rfl (by kernel_rfl) (λ_ _=>AT U) ?_;refine .asg rfl rfl rfl rfl (.nil ⟨by kernel_rfl,by kernel_rfl,?_⟩);refine .seq (.region (.mv rfl rfl rfl rfl (.mv rfl rfl rfl rfl (.cons (v:= .int .i64 ((a+(n-b):Nat):Int)) (hp1:=hp2) rfl rfl (λ_ _=>I3 D.t22 _ _ _) (.mv rfl rfl rfl rfl (.cons (hp1:=hp2) rfl rfl (λ_ _=>H) (.cons (hp1:=G) rfl rfl (λ_ _=>X) (.nil ?_))))))));refine .seq (.region (.mv rfl rfl rfl rfl (.asg rfl rfl rfl rfl (.nil ?_))));refine .ret ⟨rfl,?_,λj hj=>by rw[Y j hj,V j hj],N,Z,?_⟩;grind
 .have A:(olds.take (a*ie.size)).length=a*ie.size:=by rw[TE];omega
  have d:(olds.take (a*ie.size)++olds.drop (b*ie.size)).length=(a+(n-b))*ie.size:=by grind
  have:=A9 (c:=N) (vs:=olds.take (a*ie.size)++olds.drop (b*ie.size)) (o:=o) (λj hj=>by rw[d]at hj;rw[b5,j6,Tn (by omega),W,j6];by_cases h1:j<a*ie.size;rw[Tn (by omega),Tc (by omega),TB,Tp h1];exact((m9 hl).2 j (by omega)).symm;rw[Tp (by omega),Tb (by omega),A];congr 1;omega);rw[d]at this;exact this
structure jQ (P:Aw)(g:Ay)(ρ:Go.Shelf.Ren)(e:Ax)(ie:Ba)(zv:Av):Prop where
 fn:∃fn,P.funcs[g]? =some fn/\fn.body=(Go.Proofs.Body2.n21 ρ).body/\fn.ntmps=95/\fn.results= #[.tmp 6]
 t22:P.underlying (ρ.t 22)=some (.slice e)
 t3:P.underlying (ρ.t 3)=some (.int .i64)
 ty:P.info? e=some ie
 zero:ie.zero=some zv
 cst:cst zv=true
 zl:zv.cells.toList.length=ie.size
 sz:1<=ie.size
 by_:ie.bytes<=1048576
 fo:∃fo,P.funcs[ρ.f 27]? =some fo/\fJ fo=false
 nT:Nat.beq (ρ.t 22) kD=false
def COv (ρ:Go.Shelf.Ren)(call:i9):Prop:=call.ov (ρ.f 27)=some (ρ.t 22)
variable {hp':Hp}{j q:Nat}
def eN {size c:Nat}(h:hp'.m.get j=hp.m.get j):y9 hp' size (.slice (some ⟨j,q,none⟩) m c)=y9 hp size (.slice (some ⟨j,q,none⟩) m c):=by simp only[y9,h]
def aG (t:Ax){a b:Nat}(h:a+b<4611686018427387904):j3 hp (M5 P .add t (.int .i64 a) (.int .i64 b))=some (.int .i64 ((a+b:Nat):Int),hp):=by
 have:IntKind.i64.wrap ((a:Int)+(b:Int))=((a+b:Nat):Int):=by rw[IntKind.wrap_i64];omega
 simp only[M5,bS,Ua,Tk,K9,j3,this]
def PB (t:Ax){a b:Nat}(h:a<4611686018427387904)(hb:b<=a):j3 hp (M5 P .sub t (.int .i64 a) (.int .i64 b))=some (.int .i64 ((a-b:Nat):Int),hp):=by
 have:IntKind.i64.wrap ((a:Int)-(b:Int))=((a-b:Nat):Int):=by rw[IntKind.wrap_i64];omega
 simp only[M5,bS,Ua,Tk,K9,j3,this]
def dH (t:Ax){a b:Nat}(h:a≠b):j3 hp (M5 P .eql t (.int .i64 a) (.int .i64 b))=some (.bool false,hp):=by simp only[M5,bS,Ua,Tk,K9,lR,j3];rw[Ut (by omega)]
def LQ (t:Ax)(a:Nat):j3 hp (M5 P .eql t (.int .i64 a) (.int .i64 a))=some (.bool true,hp):=by simp only[M5,bS,Ua,Tk,K9,lR,j3]
def Ij (t:Ax){M up:Nat}{b:Bool}(u:M<18446744073709551616)(h:(b=false/\up=0/\m<=M)\/(b=true/\up=m/\m≠0)):j3 hp (M5 P .gtr t (.int .i64 m) (.complex .f64 M up))=some (.bool b,hp):=by
 have d:R2 (.int .i64 (m:Nat))=some (.i64,m,m+1):=rfl;have l:R2 (.complex .f64 M up)=some (.i64,M,up):=by simp only[R2,Z0,DC];rw[show gD M=M by exact UP u]
 have p:bS P .gtr t (.int .i64 m) (.complex .f64 M up)=none:=rfl;have s:aK (M,up) (m,m+1)=some b:=by unfold aK;rcases h with⟨rfl,rfl,h⟩| ⟨rfl,rfl,h⟩;rw[u7 rfl,Bool.not_true,Bool.false_and,Tl,z4 (Nat.succ_ne_zero m),Ta (by omega)];rfl;rw[z4 h,Ta (Tq _)];rfl
 simp only[M5,p,Ff,d,l,Ua,Tk,Mj,s,TO,j3]
def xB {t:Ax}(ht:P.underlying t=some (.slice e))(a:Addr){up:Nat}(d:up<unk):j3 hp (nX P t (.slice (some a) n (d8 lo up)))=some (.complex .f64 (Nat.max lo n) up,hp):=by simp only[nX,ht,Ta (q0 lo up),Tk,H6 d,G3 d,j3]
theorem eK {t:Ax}(ht:P.underlying t=some (.slice e))(hi:P.info? e=some ie){o dl dc h:Nat}{d:Nat}(hg:hp.m.get i=some (.cells c k e' d))(hx:y9 hp ie.size (.slice (some ⟨j,q,none⟩) (Nat.min n dl) h)=some (m,vs))(hk:o+m*ie.size<=k\/(unk<=dc/\d=ie.size/\o<=k))(hm:m<=dl)(l:vs.all Value.oneCell'=true):AV P hp t (.slice (some ⟨i,o,none⟩) dl dc) (.slice (some ⟨j,q,none⟩) n h)=some (.int .i64 m,{hp with m:=hp.m.set i (some (.cells (fill c o vs) (Nat.max k (o+m*ie.size)) e' d))}):=by
 have hb:((Nat.ble (o+m*ie.size) k|| (Nat.ble unk dc&&Nat.beq d ie.size&&Nat.ble o k))&&Nat.ble m dl&&vs.all Value.oneCell')=true:=by simp_all;omega
 simp only[AV,ht,hi,hg,hx];rw[hb,Tk,N4]
def eJ {t u:Ax}{r:Av×Hp}(h:AV P hp t x y=some r):B9 P hp .copy [t,u] [x,y]=some r:=by simp only[B9,h]
def Hw {t u:Ax}{r:Av×Hp}(h1:D1 P hp t u x y=none)(h:Z6 P hp t u x y=some r):B9 P hp .append [t,u] [x,y]=some r:=by simp only[B9,h1,h]
variable {cj:Ao}{ej kj zj:Nat}
def HG (D:jQ P g ρ e ie zv){call:i9}(hc:COv ρ call){A w h B z l:Nat}{p:Ao}{u s E:Nat}(d:i≠j)(hi:hp.m.get i=some (.cells p u s E))(hj:hp.m.get j=some (.cells cj kj ej zj))(hk:1<=kj):nW P call hp (.func (.func (ρ.f 27)) #[] #[]) [.slice (some ⟨i,A,none⟩) w h,.slice (some ⟨j,B,none⟩) z l]=some (.bool false,hp):=by obtain⟨fo,h1,h2⟩:=D.fo;have hc:call.ov (ρ.f 27)=some (ρ.t 22):=hc;simp only[nW,h1,ob,h2,Tl,hc,D.nT];show Fu P hp (ρ.t 22) [_,_]=_;simp only[Fu,D.t22,D.ty,z4 d,Tl,hi,hj,Ta hk,Tk]
variable {cm:Nat}
def Fo (D:jQ P g ρ e ie zv){a:Aq}{c:Nat}{r h:Av}{hp1:Hp}(hs:w9 P hp (ρ.t 22) (.slice a n c) (some (.int .i64 n)) none none=some (h,hp))(d:D1 P hp (ρ.t 22) (ρ.t 22) (.slice a n c) (.slice (some ⟨j,q,none⟩) 1 cm)=some (r,hp1)):XT P C 95 ((Go.Proofs.Body2.n21 ρ).body.getD .skip) (fill .e 0 [.slice a n c,.int .i64 n,.slice (some ⟨j,q,none⟩) 1 cm]) hp λtm' hp'=>tm'.get 6=some r/\hp'=hp1:=by refine .seq (.region (.cons rfl rfl (λ_ _=>rfl) (.nil (.seq (.region (.mv rfl rfl rfl rfl (.mv rfl rfl rfl rfl (.cons rfl rfl (λ_ _=>hs) (.nil (.seq (.region (.mv rfl rfl rfl rfl (.cons (v:= .int .i64 ((1:Nat):Int)) rfl rfl (λ_ _=>I3 D.t22 _ _ _) (.asg rfl rfl rfl rfl (.nil (.seq (.seq (.region (.mv rfl rfl rfl rfl (.cons rfl rfl (λ_ _=>dH (P:=P) (ρ.t 3) (b:=0) (by omega)) (.nil (.condF rfl (.skip (.seq (.region (.mv rfl rfl rfl rfl (.cons rfl rfl (λ_ _=>I3 D.t22 _ _ _) (.asg rfl rfl rfl rfl (.nil (.seqR (.seq (.region (.mv rfl rfl rfl rfl (.mv rfl rfl rfl rfl (.cons rfl rfl (λ_ _=>LQ (P:=P) (ρ.t 3) n) (.nil (.condT rfl (.seq (.region (.mv rfl rfl rfl rfl (.mv rfl rfl rfl rfl (.cons rfl rfl (λ_ _=>AT d) (.asg rfl rfl rfl rfl (.nil (.ret ⟨rfl,rfl⟩)))))))))))))))))))))))))))))))))))))))))))))
theorem zM {ct:Ao}{o s at_:Nat}(d:at_<=n)(l:olds.length=n*s)(h:news.length=s)(h1:∀j,j<at_*s->ct.get (o+j)=olds[j]?)(h2:∀j,j<s->ct.get (o+at_*s+j)=news[j]?)(h3:∀j,j<(n-at_)*s->ct.get (o+(at_+1)*s+j)=olds[at_*s+j]?):j7 ct o ((n+1)*s)=some (olds.take (at_*s)++news++olds.drop (at_*s)):=by
 have hm:n*s=at_*s+(n-at_)*s:=by rw[<-TF];congr 1;omega
 have p:(at_+1)*s=at_*s+s:=Uk _ _;have u:(n+1)*s=n*s+s:=Uk _ _;have w:(olds.take (at_*s)++news).length=at_*s+s:=by grind
 have B:(olds.take (at_*s)++news++olds.drop (at_*s)).length=(n+1)*s:=by grind
 have:=A9 (c:=ct) (vs:=olds.take (at_*s)++news++olds.drop (at_*s)) (o:=o) (λj hj=>by by_cases z:j<at_*s;grind;by_cases A:j<at_*s+s;grind;rw[Tb (by omega),w,TI];have:=h3 (j-(at_*s+s)) (by omega);rw[show o+(at_+1)*s+(j-(at_*s+s))=o+j by omega]at this;rw[this]);grind
def AW (D:jQ P g ρ e ie zv){o at_:Nat}(w:Nat.ble (Nat.max lo n) 67108864=true)(p:n+1<=Nat.max lo n)(H:at_<n)(O:j≠i)(hg:hp.m.get i=some (.cells c k e ie.size))(aa:hp.m.get j=some (.cells cj kj ej zj))(hk:o+n*ie.size<=k)(hl:j7 c o (n*ie.size)=some olds)(hn:y9 hp ie.size (.slice (some ⟨j,q,none⟩) 1 cm)=some (1,news))(ae:news.length=ie.size)(E:olds.all Value.oneCell'=true)(K:news.all Value.oneCell'=true):XT P (COv ρ) 95 ((Go.Proofs.Body2.n21 ρ).body.getD .skip) (fill .e 0 [.slice (some ⟨i,o,none⟩) n (d8 lo 0),.int .i64 at_,.slice (some ⟨j,q,none⟩) 1 cm]) hp λtm' hp'=>tm'.get 6=some (.slice (some ⟨i,o,none⟩) (n+1) (d8 (Nat.max lo n) 0))/\hp.nx<=hp'.nx/\(∀x,x≠i->hp'.m.get x=hp.m.get x)/\ ∃ct k',hp'.m.get i=some (.cells ct k' e ie.size)/\o+(n+1)*ie.size<=k'/\j7 ct o ((n+1)*ie.size)=some (olds.take (at_*ie.size)++news++olds.drop (at_*ie.size)):=by
 have ah:Nat.max lo n<=67108864:=SX w;generalize z:Nat.max lo n=M at*;have U:=(m9 hl).1;have s:Nat.max M (n+1)=M:=UN p;have V:Nat.ble (Nat.max M (n+1)) 67108864=true:=by rw[s];exact w
 have hs:=D.sz;have m1:n*ie.size=at_*ie.size+(n-at_)*ie.size:=by rw[<-TF];congr 1;omega
 have m2:(at_+1)*ie.size=at_*ie.size+ie.size:=Uk _ _;have m3:(n+1)*ie.size=n*ie.size+ie.size:=Uk _ _;have m4:(at_+1)*ie.size<=n*ie.size:=Tg _ H;have s1:=Q6 (hp:=hp) D.t22 D.ty (i:=i) (o:=o) (n:=n) (lo:=lo) (l:=at_) (h:=n) (by rw[z];exact w) (by rw[z];omega) (Nat.le_of_lt H) (by rw[z];omega) hg (some (.int .i64 at_)) none (.inl rfl) (.inr ⟨rfl,rfl⟩);have s2:=Q6 (hp:=hp) D.t22 D.ty (i:=i) (o:=o) (n:=n) (lo:=lo) (l:=0) (h:=n+1) (by rw[z];exact w) (by rw[z];omega) (UJ _) (by rw[z];omega) hg none (some (.int .i64 ((n+1:Nat):Int))) (.inr ⟨rfl,rfl⟩) (.inl rfl);rw[z]at s2;simp only[UE,Uj,Ux]at s2;have Z:∀(d:Hp) {ct:Ao} {kx:Nat},d.m.get i=some (.cells ct kx e ie.size)-> ∀l,l<n+1->w9 P d (ρ.t 22) (.slice (some ⟨i,o,none⟩) (n+1) (d8 M 0)) (some (.int .i64 l)) none none=some (.slice (some ⟨i,o+l*ie.size,none⟩) (n+1-l) (d8 (M-l) 0),d):=by intro d ct kx ab l hlt;have:=Q6 (hp:=d) D.t22 D.ty (i:=i) (o:=o) (n:=n+1) (lo:=M) (l:=l) (h:=n+1) V (by rw[s];omega) (Nat.le_of_lt hlt) (by rw[s];omega) ab (some (.int .i64 l)) none (.inl rfl) (.inr ⟨rfl,rfl⟩);rwa[s]at this
 have X:=cJ hl (a:=at_*ie.size) (m:=(n-at_)*ie.size) (by omega);rw[TT (by rw[TW];omega)]at X;have J:(olds.drop (at_*ie.size)).all Value.oneCell'=true:=by rw[Ty]at E⊢;exactλv hv=>E v (UC hv)
 have x1:y9 ⟨hp.m,hp.nx+9⟩ ie.size (.slice (some ⟨i,o+at_*ie.size,none⟩) (Nat.min (n+1-at_) (n+1-(at_+1))) (d8 (M-at_) 0))=some (n-at_,olds.drop (at_*ie.size)):=by
  have W:Nat.min (n+1-at_) (n+1-(at_+1))=n-at_:=by rw[show n+1-(at_+1)=n-at_ by omega];exact Nat.min_eq_right (by omega)
  have L:Nat.ble (o+at_*ie.size+(n-at_)*ie.size) k=true:=Ta (by omega);simp only[y9,hg,rdC,W,L,Tk,X]
 have Y:=eK (hp:=⟨hp.m,hp.nx+9⟩) D.t22 D.ty (i:=i) (o:=o+(at_+1)*ie.size) (dl:=n+1-(at_+1)) (dc:=d8 (M-(at_+1)) 0) hg x1 (.inr ⟨q0 _ _,rfl,by omega⟩) (by omega) J;generalize ac:Nat.max k (o+(at_+1)*ie.size+(n-at_)*ie.size)=k1 at Y;have R:o+(n+1)*ie.size<=k1:=by rw[<-ac];exact Ub (by omega) (Un _ _)
 generalize N:fill c (o+(at_+1)*ie.size) (olds.drop (at_*ie.size))=F at Y;generalize G:({(⟨hp.m,hp.nx+9⟩:Hp)with m:=(⟨hp.m,hp.nx+9⟩:Hp).m.set i (some (.cells F k1 e ie.size))}:Hp)=H1 at Y;have A:H1.m.get i=some (.cells F k1 e ie.size):=by rw[<-G];simp only[VF,Tp]
 have B:∀x,x≠i->H1.m.get x=hp.m.get x:=λx hx=>by rw[<-G];simp only[VF,Tn hx]
 have x2:y9 H1 ie.size (.slice (some ⟨j,q,none⟩) (Nat.min 1 (n+1-at_)) cm)=some (1,news):=by rw[show Nat.min 1 (n+1-at_)=1 from Nat.min_eq_left (by omega),eN (B j O)];exact hn
 have c2:=eK (hp:=H1) D.t22 D.ty (i:=i) (o:=o+at_*ie.size) (dl:=n+1-at_) (dc:=d8 (M-at_) 0) A x2 (.inl (by omega)) (by omega) K;have ad:Nat.max k1 (o+at_*ie.size+1*ie.size)=k1:=UN (by omega);rw[ad]at c2;simp only[Go.Proofs.Body2.n21,TL,fill];refine .seq (.region (.cons rfl rfl (λ_ _=>rfl) (.nil ?_)));refine .seq (.region (.mv rfl rfl rfl rfl (.mv rfl rfl rfl rfl (.cons (hp1:=hp) rfl rfl (λ_ _=>s1) (.nil ?_)))));refine .seq (.region (.mv rfl rfl rfl rfl (.cons (v:= .int .i64 ((1:Nat):Int)) (hp1:=hp) rfl rfl (λ_ _=>I3 D.t22 _ _ _) (.asg rfl rfl rfl rfl (.nil ?_)))));refine .seq (.seq (.region (.mv rfl rfl rfl rfl (.cons (v:= .bool false) (hp1:=hp) rfl rfl (λ_ _=>dH (P:=P) (ρ.t 3) (a:=1) (b:=0) (by omega)) (.nil (.condF rfl (.skip ?_)))))));refine .seq (.region (.mv rfl rfl rfl rfl (.cons (v:= .int .i64 n) (hp1:=hp) rfl rfl (λ_ _=>I3 D.t22 _ _ _) (.asg rfl rfl rfl rfl (.nil ?_)))));refine .seq (.seq (.region (.mv rfl rfl rfl rfl (.mv rfl rfl rfl rfl (.cons (v:= .bool false) (hp1:=hp) rfl rfl (λ_ _=>dH (P:=P) (ρ.t 3) (a:=at_) (b:=n) (by omega)) (.nil (.condF rfl (.skip ?_))))))));refine .seq (.seq (.region (.mv rfl rfl rfl rfl (.mv rfl rfl rfl rfl (.cons (v:= .int .i64 ((n+1:Nat):Int)) (hp1:=hp) rfl rfl (λ_ _=>aG (P:=P) (ρ.t 3) (a:=n) (b:=1) (by omega)) (.mv rfl rfl rfl rfl (.cons (v:= .complex .f64 M 0) (hp1:=hp) rfl rfl (λ_ _=>by rw[<-z];exact xB D.t22 _ F6) (.cons (v:= .bool false) (hp1:=hp) rfl rfl (λ_ _=>Ij (P:=P) (ρ.t 3) (m:=n+1) (M:=M) (up:=0) (by omega) (.inl ⟨rfl,rfl,p⟩)) (.nil (.condF rfl (.skip ?_)))))))))));refine .seq (.region (.mv rfl rfl rfl rfl (.mv rfl rfl rfl rfl (.mv rfl rfl rfl rfl (.cons (v:= .int .i64 ((n+1:Nat):Int)) (hp1:=hp) rfl rfl (λ_ _=>aG (P:=P) (ρ.t 3) (a:=n) (b:=1) (by omega)) (.cons (hp1:=hp) rfl rfl (λ_ _=>s2) (.asg rfl rfl rfl rfl (.nil ?_))))))));refine .seqR (.seq (.region (.mv rfl rfl rfl rfl (.mv rfl rfl rfl rfl (.mv rfl rfl rfl rfl (.mv rfl rfl rfl rfl (.cons (v:= .int .i64 ((at_+1:Nat):Int)) (hp1:=hp) rfl rfl (λ_ _=>aG (P:=P) (ρ.t 3) (a:=at_) (b:=1) (by omega)) (.cons (hp1:=hp) rfl rfl (λ_ _=>Z hp hg (at_+1) (by omega)) (.cons (v:= .bool false) (hp1:=hp) rfl rfl (λ_ hc=>HG D hc O aa hg (by omega)) (.cons (v:= .bool true) (hp1:=hp) rfl rfl (λ_ _=>rfl) (.nil ?_)))))))))));refine .condT rfl ?_;refine .seq (.drawG (by kernel_rfl) ?_);refine .mv rfl rfl rfl rfl (.mv rfl rfl rfl rfl (.mv rfl rfl rfl rfl (.k0 (v:= .int .i64 ((at_+1:Nat):Int)) rfl rfl rfl (λ_ _=>aG (P:=P) (ρ.t 3) (a:=at_) (b:=1) (by omega)) (.k1 rfl rfl rfl (λ_=>Z ⟨hp.m,hp.nx+9⟩ hg (at_+1) (by omega)) ?_))));refine .mv rfl rfl rfl rfl (.mv rfl rfl rfl rfl (.k1 rfl rfl rfl (λ_=>Z ⟨hp.m,hp.nx+9⟩ hg at_ (by omega)) ?_));refine .k3 (v:= .int .i64 ((n-at_:Nat):Int)) (S2:=H1) rfl rfl rfl (by kernel_rfl) (λ_ _=>eJ (u:=ρ.t 22) Y) ?_;refine .nil ⟨by kernel_rfl,by kernel_rfl,?_⟩;refine .seq (.region (.mv rfl rfl rfl rfl (.mv rfl rfl rfl rfl (.cons (hp1:=H1) rfl rfl (λ_ _=>Z H1 A at_ (by omega)) (.mv rfl rfl rfl rfl (.cons rfl rfl (λ_ _=>eJ (u:=ρ.t 22) c2) (.nil ?_)))))));refine .seq (.region (.mv rfl rfl rfl rfl (.asg rfl rfl rfl rfl (.nil ?_))));refine .ret ⟨rfl,?_,λx hx=>?_,fill F (o+at_*ie.size) news,k1,?_,R,?_⟩;show hp.nx<=H1.nx;rw[<-G];exact Nat.le_add_right _ _;show(H1.m.set i _).get x=_;rw[VF,Tn hx,B x hx];show(H1.m.set i _).get i=_;rw[VF,Tp rfl];refine zM (Nat.le_of_lt H) U ae (λy hy=>?_) (λy hy=>?_) (λy hy=>?_);rw[j6,Tn (by omega),<-N,j6,Tn (by omega)];exact((m9 hl).2 y (by omega)).symm;rw[j6,Tp (by omega)];congr 1;omega;rw[j6,Tn (by omega),<-N,j6,Tp (by rw[TW];omega),TI];congr 1;omega
def KM (D:jQ P g ρ e ie zv){o at_:Nat}(R:Nat.ble (n+1) 67108864=true)(L:at_<n)(hi:i<hp.nx)(hj:j<hp.nx)(hg:hp.m.get i=some (.cells c k e ie.size))(hk:o+n*ie.size<=k)(hl:j7 c o (n*ie.size)=some olds)(hn:y9 hp ie.size (.slice (some ⟨j,q,none⟩) 1 cm)=some (1,news))(am:news.length=ie.size)(G:olds.all Value.oneCell'=true)(U:news.all Value.oneCell'=true):XT P C 95 ((Go.Proofs.Body2.n21 ρ).body.getD .skip) (fill .e 0 [.slice (some ⟨i,o,none⟩) n (d8 n (n+1)),.int .i64 at_,.slice (some ⟨j,q,none⟩) 1 cm]) hp λtm' hp'=>tm'.get 6=some (.slice (some ⟨hp.nx,0,none⟩) (n+1) (d8 (n+1) 0))/\hp.nx<hp'.nx/\(∀x,x≠hp.nx->hp'.m.get x=hp.m.get x)/\ ∃ct k',hp'.m.get hp.nx=some (.cells ct k' e ie.size)/\0+(n+1)*ie.size<=k'/\j7 ct 0 ((n+1)*ie.size)=some (olds.take (at_*ie.size)++news++olds.drop (at_*ie.size)):=by
 have an:n+1<=67108864:=SX R;have ab:=(m9 hl).1;have p:Nat.max n n=n:=Nat.max_self n;have z:n+1<unk:=by unfold unk;omega
 have E:Nat.ble (Nat.max n n) 67108864=true:=by rw[p];exact Ta (by omega)
 have w:Nat.max (n+1) (n+1)=n+1:=Nat.max_self _;have ac:Nat.ble (Nat.max (n+1) (n+1)) 67108864=true:=by rw[w];exact R
 have m1:n*ie.size=at_*ie.size+(n-at_)*ie.size:=by rw[<-TF];congr 1;omega
 have m2:(at_+1)*ie.size=at_*ie.size+ie.size:=Uk _ _;have m3:(n+1)*ie.size=n*ie.size+ie.size:=Uk _ _;have s1:∀(d:Hp),d.m.get i=some (.cells c k e ie.size)->w9 P d (ρ.t 22) (.slice (some ⟨i,o,none⟩) n (d8 n (n+1))) (some (.int .i64 at_)) none none=some (.slice (some ⟨i,o+at_*ie.size,none⟩) (n-at_) (d8 (n-at_) (n+1-at_)),d):=by intro d O;have:=qN (hp:=d) D.t22 D.ty (i:=i) (o:=o) (n:=n) (lo:=n) (l:=at_) (h:=n) z E (by rw[p];exact Tq _) (Nat.le_of_lt L) (by rw[p];exact L) O (some (.int .i64 at_)) none (.inl rfl) (.inr ⟨rfl,rfl⟩);rwa[p]at this
 have s2:=qN (hp:=hp) D.t22 D.ty (i:=i) (o:=o) (n:=n) (lo:=n) (l:=0) (h:=at_) z E (by rw[p];omega) (UJ _) (by rw[p];omega) hg none (some (.int .i64 at_)) (.inr ⟨rfl,rfl⟩) (.inl rfl);rw[p]at s2;simp only[UE,Uj,Ux]at s2;have aa:=cJ hl (a:=0) (m:=at_*ie.size) (by omega);rw[Uj,UK]at aa;generalize hV:olds.take (at_*ie.size)++xrep (n+1-at_) zv.cells.toList=V at*;have ai:V.length=(n+1)*ie.size:=by rw[<-hV,Tv,TE,xrep_length,D.zl,show min (at_*ie.size) olds.length=at_*ie.size by omega,<-TF];congr 1;omega
 have X:D1 P hp (ρ.t 22) (ρ.t 3) (.slice (some ⟨i,o,none⟩) at_ (d8 n (n+1))) (.int .i64 ((n+1-at_:Nat):Int))=none:=by unfold D1;simp only[D.t22,D.t3]
 have W:Z6 P hp (ρ.t 22) (ρ.t 3) (.slice (some ⟨i,o,none⟩) at_ (d8 n (n+1))) (.int .i64 ((n+1-at_:Nat):Int))=some (.slice (some ⟨hp.nx,0,none⟩) (n+1) (d8 (n+1) 0),hp.new V e ie.size):=by
  have e1:(cst zv&&Nat.beq zv.cells.toList.length ie.size&&Nat.ble ie.bytes 1048576&&Nat.ble 1 ie.size&&Nat.ble 1 (n+1-at_)&&Nat.ble (at_+(n+1-at_)) 67108864&&(Nat.ble unk (d8 n (n+1))&&Nat.ble 1 (E7 (d8 n (n+1)))&&Nat.ble (E7 (d8 n (n+1))) (at_+(n+1-at_))))=true:=by rw[D.cst,D.zl,u7 rfl,Ta D.by_,Ta D.sz,Ta (show 1<=n+1-at_ by omega),show at_+(n+1-at_)=n+1 by omega,R,Ta (q0 n (n+1)),G3 z,Ta (show 1<=n+1 by omega),Ta (Tq _)];rfl
  have e2:Nat.ble (o+at_*ie.size) k=true:=Ta (by omega);have e3:at_+(n+1-at_)=n+1:=by omega
  unfold Z6;simp only[D.t22,D.t3,D.ty,D.zero];rw[e1,Tk];simp only[hg,e2,Tk,aa,e3,hV]
 generalize J:hp.new V e ie.size=H0 at W;have A:H0.m.get hp.nx=some (.cells (fill .e 0 V) ((n+1)*ie.size) e ie.size):=by rw[<-J];show(hp.m.set hp.nx _).get hp.nx=_;rw[VF,Tp rfl,ai]
 have F:∀x,x≠hp.nx->H0.m.get x=hp.m.get x:=λx hx=>by rw[<-J];show(hp.m.set hp.nx _).get x=_;rw[VF,Tn hx]
 have s3:∀(d:Hp) {ct:Ao} {kx:Nat},d.m.get hp.nx=some (.cells ct kx e ie.size)-> ∀l,l<n+1->w9 P d (ρ.t 22) (.slice (some ⟨hp.nx,0,none⟩) (n+1) (d8 (n+1) 0)) (some (.int .i64 l)) none none=some (.slice (some ⟨hp.nx,0+l*ie.size,none⟩) (n+1-l) (d8 (n+1-l) 0),d):=by intro d ct kx O l hlt;have:=Q6 (hp:=d) D.t22 D.ty (i:=hp.nx) (o:=0) (n:=n+1) (lo:=n+1) (l:=l) (h:=n+1) ac (by rw[w];omega) (Nat.le_of_lt hlt) (by rw[w];omega) O (some (.int .i64 l)) none (.inl rfl) (.inr ⟨rfl,rfl⟩);rwa[w]at this
 have x1:y9 H0 ie.size (.slice (some ⟨j,q,none⟩) (Nat.min 1 (n+1-at_)) cm)=some (1,news):=by rw[show Nat.min 1 (n+1-at_)=1 from Nat.min_eq_left (by omega),eN (F j (by omega))];exact hn
 have c1:=eK (hp:=H0) D.t22 D.ty (i:=hp.nx) (o:=0+at_*ie.size) (dl:=n+1-at_) (dc:=d8 (n+1-at_) 0) A x1 (.inl (by omega)) (by omega) U;have ak:Nat.max ((n+1)*ie.size) (0+at_*ie.size+1*ie.size)=(n+1)*ie.size:=UN (by omega);rw[ak]at c1;generalize Z:fill (fill .e 0 V) (0+at_*ie.size) news=H at c1;generalize K:({H0 with m:=H0.m.set hp.nx (some (.cells H ((n+1)*ie.size) e ie.size))}:Hp)=H1 at c1;have B:H1.m.get hp.nx=some (.cells H ((n+1)*ie.size) e ie.size):=by rw[<-K];simp only[VF,Tp]
 have s:∀x,x≠hp.nx->H1.m.get x=hp.m.get x:=λx hx=>by rw[<-K];simp only[VF,Tn hx];exact F x hx
 have ae:=cJ hl (a:=at_*ie.size) (m:=(n-at_)*ie.size) (by omega);rw[TT (by rw[TW];omega)]at ae;have N:(olds.drop (at_*ie.size)).all Value.oneCell'=true:=by rw[Ty]at G⊢;exactλv hv=>G v (UC hv)
 have x2:y9 ⟨H1.m,H1.nx+9⟩ ie.size (.slice (some ⟨i,o+at_*ie.size,none⟩) (Nat.min (n-at_) (n+1-(at_+1))) (d8 (n-at_) (n+1-at_)))=some (n-at_,olds.drop (at_*ie.size)):=by
  have ad:Nat.min (n-at_) (n+1-(at_+1))=n-at_:=by rw[show n+1-(at_+1)=n-at_ by omega];exact Nat.min_self _
  have Y:Nat.ble (o+at_*ie.size+(n-at_)*ie.size) k=true:=Ta (by omega);have aj:H1.m.get i=some (.cells c k e ie.size):=by rw[s i (by omega)];exact hg
  simp only[y9,aj,rdC,ad,Y,Tk,ae]
 have c2:=eK (hp:=⟨H1.m,H1.nx+9⟩) D.t22 D.ty (i:=hp.nx) (o:=0+(at_+1)*ie.size) (dl:=n+1-(at_+1)) (dc:=d8 (n+1-(at_+1)) 0) B x2 (.inl (by omega)) (by omega) N;have al:Nat.max ((n+1)*ie.size) (0+(at_+1)*ie.size+(n-at_)*ie.size)=(n+1)*ie.size:=UN (by omega);rw[al]at c2;refine .seq (.region (.cons rfl rfl (λ_ _=>rfl) (.nil ?_)));refine .seq (.region (.mv rfl rfl rfl rfl (.mv rfl rfl rfl rfl (.cons (hp1:=hp) rfl rfl (λ_ _=>s1 hp hg) (.nil ?_)))));refine .seq (.region (.mv rfl rfl rfl rfl (.cons (v:= .int .i64 ((1:Nat):Int)) (hp1:=hp) rfl rfl (λ_ _=>I3 D.t22 _ _ _) (.asg rfl rfl rfl rfl (.nil ?_)))));refine .seq (.seq (.region (.mv rfl rfl rfl rfl (.cons (v:= .bool false) (hp1:=hp) rfl rfl (λ_ _=>dH (P:=P) (ρ.t 3) (a:=1) (b:=0) (by omega)) (.nil (.condF rfl (.skip ?_)))))));refine .seq (.region (.mv rfl rfl rfl rfl (.cons (v:= .int .i64 n) (hp1:=hp) rfl rfl (λ_ _=>I3 D.t22 _ _ _) (.asg rfl rfl rfl rfl (.nil ?_)))));refine .seq (.seq (.region (.mv rfl rfl rfl rfl (.mv rfl rfl rfl rfl (.cons (v:= .bool false) (hp1:=hp) rfl rfl (λ_ _=>dH (P:=P) (ρ.t 3) (a:=at_) (b:=n) (by omega)) (.nil (.condF rfl (.skip ?_))))))));refine .seqR (.seq (.region (.mv rfl rfl rfl rfl (.mv rfl rfl rfl rfl (.cons (v:= .int .i64 ((n+1:Nat):Int)) (hp1:=hp) rfl rfl (λ_ _=>aG (P:=P) (ρ.t 3) (a:=n) (b:=1) (by omega)) (.mv rfl rfl rfl rfl (.cons (v:= .complex .f64 n (n+1)) (hp1:=hp) rfl rfl (λ_ _=>(xB D.t22 _ z).trans (by rw[p])) (.cons (v:= .bool true) (hp1:=hp) rfl rfl (λ_ _=>Ij (P:=P) (ρ.t 3) (m:=n+1) (M:=n) (up:=n+1) (by omega) (.inr ⟨rfl,rfl,by omega⟩)) (.nil ?_)))))))));refine .condT rfl ?_;refine .seq (.region (.mv rfl rfl rfl rfl (.mv rfl rfl rfl rfl (.cons (hp1:=hp) rfl rfl (λ_ _=>s2) (.mv rfl rfl rfl rfl (.mv rfl rfl rfl rfl (.cons (v:= .int .i64 ((n+1:Nat):Int)) (hp1:=hp) rfl rfl (λ_ _=>aG (P:=P) (ρ.t 3) (a:=n) (b:=1) (by omega)) (.mv rfl rfl rfl rfl (.cons (v:= .int .i64 ((n+1-at_:Nat):Int)) (hp1:=hp) rfl rfl (λ_ _=>PB (P:=P) (ρ.t 3) (a:=n+1) (b:=at_) (by omega) (by omega)) (.cons (hp1:=H0) rfl rfl (λ_ _=>Hw X W) (.asg rfl rfl rfl rfl (.nil ?_))))))))))));refine .seq (.region (.mv rfl rfl rfl rfl (.mv rfl rfl rfl rfl (.cons (hp1:=H0) rfl rfl (λ_ _=>s3 H0 A at_ (by omega)) (.mv rfl rfl rfl rfl (.cons (hp1:=H1) rfl rfl (λ_ _=>eJ (u:=ρ.t 22) c1) (.nil ?_)))))));refine .seq (.drawG (by kernel_rfl) ?_);refine .mv rfl rfl rfl rfl (.mv rfl rfl rfl rfl (.mv rfl rfl rfl rfl (.k0 (v:= .int .i64 ((at_+1:Nat):Int)) rfl rfl rfl (λ_ _=>aG (P:=P) (ρ.t 3) (a:=at_) (b:=1) (by omega)) (.k1 rfl rfl rfl (λ_=>s3 ⟨H1.m,H1.nx+9⟩ B (at_+1) (by omega)) ?_))));refine .mv rfl rfl rfl rfl (.mv rfl rfl rfl rfl (.k1 rfl rfl rfl (λ_=>s1 ⟨H1.m,H1.nx+9⟩ (by rw[<-hg];exact s i (by omega))) ?_));refine .k3 (v:= .int .i64 ((n-at_:Nat):Int)) rfl rfl rfl (by kernel_rfl) (λ_ _=>eJ (u:=ρ.t 22) c2) ?_;refine .nil ⟨by kernel_rfl,by kernel_rfl,?_⟩;refine .seq (.region (.mv rfl rfl rfl rfl (.asg rfl rfl rfl rfl (.nil ?_))));refine .ret ⟨rfl,?_,λx hx=>?_,fill H (0+(at_+1)*ie.size) (olds.drop (at_*ie.size)),(n+1)*ie.size,?_,by omega,?_⟩;show hp.nx<H1.nx+9;rw[<-K,<-J];show hp.nx<hp.nx+1+9;omega;show(H1.m.set hp.nx _).get x=_;rw[VF,Tn hx,s x hx];show(H1.m.set hp.nx _).get hp.nx=_;rw[VF,Tp rfl]
 .have ah:∀y,y<at_*ie.size->V[y]? =olds[y]? :=λy hy=>by rw[<-hV,Tc (by rw[TE];omega),TB,Tp hy]
  refine zM (Nat.le_of_lt L) ab am (λy hy=>?_) (λy hy=>?_) (λy hy=>?_);rw[j6,Tn (by omega),<-Z,j6,Tn (by omega),TA,p7 V y (by omega)];exact ah y hy;rw[j6,Tn (by omega),<-Z,j6,Tp (by omega)];congr 1;omega;rw[j6,Tp (by rw[TW];omega),TI];congr 1;omega
def XF (P:Aw)(C:i9->Prop)(nt:Nat)(c:Code)(tm:Ao)(hp:Hp):Prop:=∃m0,∀call,C call-> ∀m,m0<=m->j8 P (v6 P) call nt none m c tm hp []=none
def XF.seq1 (h:XF P C nt a tm hp):XF P C nt (.seq a b) tm hp:=by
 obtain⟨d,h⟩:=h;refine⟨d+1,λcall hc m hm=>?_⟩;obtain⟨j,rfl⟩:∃j,m=j+1:=⟨m-1,by omega⟩
 simp only[j8,h call hc j (by omega)]
def XF.seq2 (h:XN P C nt a tm hp λtm1 hp1=>XF P C nt b tm1 hp1):XF P C nt (.seq a b) tm hp:=by
 obtain⟨tm1,hp1,⟨m1,k1⟩,d,k2⟩:=h;refine⟨max m1 d+1,λcall hc m hm=>?_⟩;obtain⟨j,rfl⟩:∃j,m=j+1:=⟨m-1,by omega⟩
 simp only[j8,k1 call hc j (by omega),k2 call hc j (by omega)]
def XOF (P:Aw)(C:i9->Prop)(nt:Nat)(all l:An)(tm:Ao)(hp:Hp):Prop:=∀call,C call->xN P call nt all l tm hp=none/\Bd P call nt all l tm hp []=none
def XOF.cons {all rest:An}{o:Oper}{v:Av}(h1:C4 nt o.dst=true)(h2:o.guard=none)(h3:FR o.op=none)(h:∀call,C call->xop P call tm hp o.op=some (v,hp1))(k:XOF P C nt all rest (y7 tm o.dst v) hp1):XOF P C nt all (o::rest) tm hp:=by intro call hc;constructor;rw[U2,h1,Tk,h call hc];simp only[v5,h2,Tk];exact(k call hc).1;simp only[Bd,h1,Tk,v5,h2,h3,h call hc];exact(k call hc).2
def XOF.mv {all rest:An}{o:Oper}(h1:C4 nt o.dst=true)(h2:o.guard=none)(h:o.op= .move (.tmp t)){v:Av}(hv:tm.get t=some v)(k:XOF P C nt all rest (y7 tm o.dst v) hp):XOF P C nt all (o::rest) tm hp:=
 .cons h1 h2 (by rw[h];rfl) (λ_ _=>by rw[h];simp only[xop,i6,j3,hv,TL]) k
def XOF.bad {all rest:An}{o:Oper}(h1:C4 nt o.dst=true)(h2:o.guard=none)(h3:FR o.op=none)(h:∀call,C call->xop P call tm hp o.op=none):XOF P C nt all (o::rest) tm hp:=by intro call hc;constructor;rw[U2,h1,Tk,h call hc];simp only[v5,h2,Tk];simp only[Bd,h1,Tk,v5,h2,h3,h call hc]
def XF.region (h:XOF P C nt ops.toList ops.toList tm hp):XF P C nt (.region id ops false) tm hp:=
 ⟨1,λcall hc m hm=>by obtain⟨k,rfl⟩:∃k,m=k+1:=⟨m-1,by omega⟩;simp only[j8,Tl,(h call hc).1,Jr,(h call hc).2]⟩
theorem Hy {fn:Func}{c:Code}{args:Af}(h1:P.funcs[f]? =some fn)(h2:fn.body=some c)(h:XF P C (args.length+(fn.ntmps-args.length)) c (fill .e 0 args) hp):∃d,∀call,C call-> ∀m,d<=m-> ∀runD,S6 P (v6 P) call runD m f args hp=none:=by obtain⟨d,k1⟩:=h;refine⟨d,λcall hc m hm runD=>?_⟩;unfold S6;grind
def OR (t:Ax){M:Nat}(w:M<18446744073709551616)(h:M<m):j3 hp (M5 P .gtr t (.int .i64 m) (.complex .f64 M 0))=none:=by
 have d:R2 (.int .i64 (m:Nat))=some (.i64,m,m+1):=rfl;have l:R2 (.complex .f64 M 0)=some (.i64,M,0):=by simp only[R2,Z0,DC];rw[show gD M=M by exact UP w]
 have p:bS P .gtr t (.int .i64 m) (.complex .f64 M 0)=none:=rfl;have s:aK (M,0) (m,m+1)=none:=by unfold aK;rw[u7 rfl,Bool.not_true,Bool.false_and,Tl,z4 (Nat.succ_ne_zero m),aI (by omega)];rfl
 have u:irem .gtr (.int .i64 m) (.complex .f64 M 0)=none:=rfl;simp only[M5,p,Ff,d,l,Ua,Tk,Mj,s,Option.map_none,u,j3]
def KN (D:jQ P g ρ e ie zv){o at_:Nat}{vv:Av}(p:vv= .slice (some ⟨j,q,none⟩) 1 cm)(h:Nat.ble (Nat.max lo n) 67108864=true)(d:Nat.max lo n<n+1)(l:at_<n)(hg:hp.m.get i=some (.cells c k e ie.size)):XF P C 95 ((Go.Proofs.Body2.n21 ρ).body.getD .skip) (fill .e 0 [.slice (some ⟨i,o,none⟩) n (d8 lo 0),.int .i64 at_,vv]) hp:=by subst p;have u:=SX h;have w:n<=Nat.max lo n:=Un lo n;generalize s:Nat.max lo n=M at*;have s1:=Q6 D.t22 D.ty (o:=o) (by rw[s];exact h) (by omega) (Nat.le_of_lt l) (by omega) hg (some (.int .i64 at_)) none (.inl rfl) (.inr ⟨rfl,rfl⟩);refine .seq2 (.region (.cons rfl rfl (λ_ _=>rfl) (.nil (.seq2 (.region (.mv rfl rfl rfl rfl (.mv rfl rfl rfl rfl (.cons rfl rfl (λ_ _=>s1) (.nil (.seq2 (.region (.mv rfl rfl rfl rfl (.cons rfl rfl (λ_ _=>I3 D.t22 _ _ _) (.asg rfl rfl rfl rfl (.nil (.seq2 (.seq (.region (.mv rfl rfl rfl rfl (.cons rfl rfl (λ_ _=>dH (P:=P) (ρ.t 3) (b:=0) (by omega)) (.nil (.condF rfl (.skip (.seq2 (.region (.mv rfl rfl rfl rfl (.cons rfl rfl (λ_ _=>I3 D.t22 _ _ _) (.asg rfl rfl rfl rfl (.nil (.seq2 (.seq (.region (.mv rfl rfl rfl rfl (.mv rfl rfl rfl rfl (.cons rfl rfl (λ_ _=>dH (P:=P) (ρ.t 3) (by omega)) (.nil (.condF rfl (.skip (.seq1 (.seq1 (.region (.mv rfl rfl rfl rfl (.mv rfl rfl rfl rfl (.cons rfl rfl rfl (λ_ _=>aG (P:=P) (ρ.t 3) (by omega)) (.mv rfl rfl rfl rfl (.cons rfl rfl rfl (λ_ _=>by rw[<-s];exact xB D.t22 _ F6) (.bad rfl rfl rfl (λ_ _=>OR (ρ.t 3) (by omega) d))))))))))))))))))))))))))))))))))))))))))))))))
structure Jv (hp:Hp)(i:Nat)(J:Nat->Prop)(e size n:Nat)(V:Af)(v:Av)(hp':Hp):Prop where
 ex:∃b q lo ct k,v= .slice (some ⟨b,q,none⟩) n (d8 lo 0)/\lo<=67108864/\(b=i\/hp.nx<=b)/\b<hp'.nx/\hp'.m.get b=some (.cells ct k e size)/\q+n*size<=k/\j7 ct q (n*size)=some V
 nx:hp.nx<=hp'.nx
 old:∀x,x<hp.nx->x≠i-> ¬J x->hp'.m.get x=hp.m.get x
theorem Fc {t:Ax}(ht:P.underlying t=some (.slice e))(hi:P.info? e=some ie)(hz:ie.zero=some zv)(L:zv.cells.toList.length=ie.size)(H:ie.bytes<=1048576){o:Nat}(B:Nat.ble lo 67108864=true)(hn:n+1<=67108864)(hx:y9 hp ie.size x=some (1,news))(A:i<hp.nx)(hg:hp.m.get i=some (.cells c k e ie.size))(hk:o+n*ie.size<=k)(hl:j7 c o (n*ie.size)=some olds)(h:news.all Value.oneCell'=true)(F:news.length=ie.size):∃v hp1,D1 P hp t t (.slice (some ⟨i,o,none⟩) n (d8 lo 0)) x=some (v,hp1)/\Jv hp i (λ_=>False) e ie.size (n+1) (olds++news) v hp1:=by
 obtain⟨d,l⟩:∃d,d=n+1:=⟨_,rfl⟩;rw[<-l]at hn⊢;have w:=Ta hn;have D:=(m9 hl).1;have K:d*ie.size=n*ie.size+ie.size:=by grind
 have h1:(Nat.beq zv.cells.toList.length ie.size&&Nat.ble ie.bytes 1048576)=true:=by simp_all
 have p:=Ta hk;have u:(olds++news).length=d*ie.size:=by grind
 cases s:Nat.ble d lo with
 |true=>refine⟨.slice (some ⟨i,o,none⟩) d (d8 lo 0),{hp with m:=hp.m.set i (some (.cells (fill c (o+n*ie.size) news) (Nat.max k (o+d*ie.size)) e ie.size))},?_,⟨i,o,lo,fill c (o+n*ie.size) news,Nat.max k (o+d*ie.size),rfl,SX B,.inl rfl,A,by simp only[VF,Tp],Un _ _,?_⟩,Tq _,λx _ hx _=>by simp only[VF,Tn hx]⟩;simp only[D1,ht,hi,hz];rw[h1,Tk,hx];simp only[hg];rw[<-l,w];simp only[h,Bool.and_self,Tk,z4 (Nat.one_ne_zero),Tl,Ta (q0 lo 0),T4,Y1,p,u7,s,N4];rw[show Nat.ble 1 0=false from rfl,Bool.false_and,Tl];rw[<-u];exact A9 (λy hy=>by rw[j6];by_cases z:y<n*ie.size;rw[Tn (by omega),Tc (by omega)];exact((m9 hl).2 y z).symm;rw[Tp (by omega),Tb (by omega),D];congr 1;omega)|false=>
  have J:∀y,y<d*ie.size->(bif Nat.beq o 0 then fill c (n*ie.size) news else fill (fill .e 0 olds) (n*ie.size) news).get y=(olds++news)[y]? :=by
   intro y hy;cases G:Nat.beq o 0 with
   |true=>have G:=SY G;rw[Tk,j6];by_cases z:y<n*ie.size;rw[Tn (by omega),Tc (by omega)];have:=(m9 hl).2 y z;grind;grind|false=>rw[Tl,j6];by_cases z:y<n*ie.size;rw[Tn (by omega),Tc (by omega),p7 olds y (by omega)];grind
  refine⟨.slice (some ⟨hp.nx,0,none⟩) d (d8 d 0),⟨(hp.m.set i none).set hp.nx (some (.cells (bif Nat.beq o 0 then fill c (n*ie.size) news else fill (fill .e 0 olds) (n*ie.size) news) (d*ie.size) e ie.size)),hp.nx+1⟩,?_,
   ⟨hp.nx,0,d,_,d*ie.size,rfl,hn,.inr (Tq _),Ue _,by simp only[VF,Tp];rfl,by omega,?_⟩,Ur _,λx hx E _=>by simp only[VF,Tn E,Tn (show x≠hp.nx by omega)]⟩
  simp only[D1,ht,hi,hz];rw[h1,Tk,hx];simp only[hg];rw[<-l,w];simp only[h,Bool.and_self,Tk,z4 (Nat.one_ne_zero),Tl,Ta (q0 lo 0),T4,Y1,p,u7,s,hl,VC];rw[show Nat.ble 1 0=false from rfl,Bool.false_and,Tl];rw[<-u];exact A9 (by grind)
def Jv.weak {J:Nat->Prop}{e size:Nat}{V:Af}{v:Av}(h:Jv hp i (λ_=>False) e size n V v hp'):Jv hp i J e size n V v hp':=
 ⟨h.ex,h.nx,λx h1 h2 _=>h.old x h1 h2 (λh=>h)⟩
def sZ (P:Aw)(C:i9->Prop)(g:Ay)(args:Af)(hp:Hp)(v:Av)(hp':Hp):Prop:=∃m0,∀call,C call-> ∀m,m0<=m-> ∀runD,fH (S6 P (v6 P) call runD m g) args hp=some (v,hp')
def sZ.of {args:Af}{v:Av}(h:∃d,∀call,C call-> ∀m,d<=m-> ∀runD,S6 P (v6 P) call runD m g args hp=some (v,hp')):sZ P C g args hp v hp':=by obtain⟨d,h⟩:=h;exact⟨d,λcall hc m hm runD=>by unfold fH;rw[h call hc m hm runD]⟩
set_option maxRecDepth 2000 in
theorem KK (D:jQ P g ρ e ie zv){o at_:Nat}(O:Nat.max lo n<=67108864)(R:n+1<=67108864)(ae:at_<=n)(G:j≠i)(hi:i<hp.nx)(hj:j<hp.nx)(hg:hp.m.get i=some (.cells c k e ie.size))(N:hp.m.get j=some (.cells cj kj ej zj))(hk:o+n*ie.size<=k)(hl:j7 c o (n*ie.size)=some olds)(hn:y9 hp ie.size (.slice (some ⟨j,q,none⟩) 1 cm)=some (1,news))(H:news.length=ie.size)(B:olds.all Value.oneCell'=true)(l:news.all Value.oneCell'=true)(A:olds.all noR=true)(Z:news.all noR=true):∃v hp',sZ P (COv ρ) g [.slice (some ⟨i,o,none⟩) n (d8 lo 0),.int .i64 at_,.slice (some ⟨j,q,none⟩) 1 cm] hp v hp'/\Jv hp i (λx=>x=j) e ie.size (n+1) (olds.take (at_*ie.size)++news++olds.drop (at_*ie.size)) v hp':=by
 obtain⟨fn,U,f2,W,f4⟩:=D.fn;obtain⟨cd,F⟩:∃cd,fn.body=some cd/\(Go.Proofs.Body2.n21 ρ).body.getD .skip=cd:=⟨_,f2.trans (by rfl),rfl⟩
 have K:=(m9 hl).1;have w:Nat.ble (Nat.max lo n) 67108864=true:=Ta O;have z:Nat.ble (n+1) 67108864=true:=Ta R;have al:n<=Nat.max lo n:=Un lo n;rcases Nat.lt_or_ge at_ n with hlt|hge
 .by_cases E:n+1<=Nat.max lo n
  ·
   have h:=AW D w E hlt G hg N hk hl hn H B l;rw[F.2]at h;obtain⟨v,hp',⟨tm1,rfl,q1,q2,q3,ct,k',q4,q5,q6⟩,u⟩:=cX (args:=[.slice (some ⟨i,o,none⟩) n (d8 lo 0),.int .i64 at_,.slice (some ⟨j,q,none⟩) 1 cm]) U F.1 f4 (by rw[W];exact h);refine⟨_,_,.of u,⟨i,o,Nat.max lo n,ct,k',by rw[q1];rfl,O,.inl rfl,by omega,q4,q5,q6⟩,q2,λx _ hx _=>q3 x hx⟩
  ·
   have J:Nat.max lo n<n+1:=Nat.lt_of_not_le E;have d:=KN (C:=COv ρ) D (at_:=at_) (vv:= .slice (some ⟨j,q,none⟩) 1 cm) rfl w J hlt (o:=o) hg;rw[F.2]at d;obtain⟨m1,d⟩:=Hy (C:=COv ρ) (args:=[.slice (some ⟨i,o,none⟩) n (d8 lo 0),.int .i64 at_,.slice (some ⟨j,q,none⟩) 1 cm]) U F.1 (by rw[W];exact d);have gi:((T.set .e i (some (.cells c k e ie.size))).set j (some (.cells cj kj ej zj)):T Blk).get i=some (.cells c k e ie.size):=by rw[VF,Tn (Ne.symm G),VF,Tp rfl]
   have gj:((T.set .e i (some (.cells c k e ie.size))).set j (some (.cells cj kj ej zj)):T Blk).get j=some (.cells cj kj ej zj):=by rw[VF,Tp rfl]
   generalize hS:(⟨(T.set .e i (some (.cells c k e ie.size))).set j (some (.cells cj kj ej zj)),hp.nx⟩:Hp)=S at*;have gi:S.m.get i=some (.cells c k e ie.size):=by grind
   have gj:S.m.get j=some (.cells cj kj ej zj):=by grind
   have M:S.nx=hp.nx:=by grind
   have Y:y9 S ie.size (.slice (some ⟨j,q,none⟩) 1 cm)=some (1,news):=by rw[eN (gj.trans N.symm)];exact hn
   have L:Nat.max (n+1) n=n+1:=UN (Ur n);have hA:=AW (hp:=S) D (lo:=n+1) (by rw[L];exact z) (by rw[L];exact Tq _) hlt G gi gj hk hl Y H B l;have hB:=KM (hp:=S) (C:=COv ρ) D z hlt (by rw[M];exact hi) (by rw[M];exact hj) gi hk hl Y H B l;rw[F.2]at hA hB;obtain⟨vA,p,⟨an,rfl,a1,a2,a3,cA,kA,a4,a5,a6⟩,mA,aa⟩:=cX (args:=[.slice (some ⟨i,o,none⟩) n (d8 (n+1) 0),.int .i64 at_,.slice (some ⟨j,q,none⟩) 1 cm]) U F.1 f4 (by rw[W];exact hA);obtain⟨vB,s,⟨ao,rfl,b1,b2,b3,cB,kB,b4,b5,b6⟩,mB,ab⟩:=cX (args:=[.slice (some ⟨i,o,none⟩) n (d8 n (n+1)),.int .i64 at_,.slice (some ⟨j,q,none⟩) 1 cm]) U F.1 f4 (by rw[W];exact hB);rw[a1,TL]at aa;rw[b1,TL]at ab;generalize hV:olds.take (at_*ie.size)++news++olds.drop (at_*ie.size)=V at*;have ac:V.length=(n+1)*ie.size:=(m9 a6).1;refine⟨.slice (some ⟨Nat.max p.nx s.nx,0,none⟩) (n+1) (d8 (n+1) 0),⟨((hp.m.set i none).set j none).set (Nat.max p.nx s.nx) (some (.cells (fill .e 0 V) ((n+1)*ie.size) e ie.size)),Nat.max p.nx s.nx+1⟩,⟨max m1 (max mA mB),λcall hc m hm runD=>?_⟩,?_⟩
   .unfold fH;rw[d call hc m (by omega) runD];simp only;have e0:(Nat.ble unk (d8 lo 0)&&Nat.beq (E7 (d8 lo 0)) 0&& !(Nat.beq i j)&&Nat.ble (n+1) 67108864)=true:=by rw[Ta (q0 lo 0),T4,u7 rfl,z4 (Ne.symm G),z];rfl
    have e1:(Nat.beq (n+1) (n+1)&&Nat.ble unk (d8 (n+1) 0)&&Nat.ble unk (d8 (n+1) 0))=true:=by rw[Ta (q0 (n+1) 0),u7 rfl];rfl
    have e2:(Nat.ble (o+(n+1)*ie.size) kA&&Nat.ble (0+(n+1)*ie.size) kB&&Nat.beq e e&&Nat.beq ie.size ie.size)=true:=by simp_all
    unfold De;simp only;rw[e0,Tk,hg,N];simp only;rw[hS,aa call hc m (by omega) runD,ab call hc m (by omega) runD,L];simp only;rw[e1,Tk,a4,b4];simp only;rw[e2,Tk,a6,b6];simp only;have ad:V.all noR=true:=by rw[<-hV,List.all_append,List.all_append,Z];rw[Ty]at A;simp only[SR,Ty];exact⟨⟨λx hx=>A x (UB hx),trivial⟩,λx hx=>A x (UC hx)⟩
    rw[JB,Bool.or_true,ad,Bool.true_and,Tk]
   .have ah:p.nx<=Nat.max p.nx s.nx:=Nat.le_max_left _ _;have ak:s.nx<=Nat.max p.nx s.nx:=Un _ _;have hx:hp.nx<=Nat.max p.nx s.nx:=by rw[<-M];exact Ub a2 ah
    refine⟨⟨Nat.max p.nx s.nx,0,n+1,fill .e 0 V,(n+1)*ie.size,rfl,R,.inr hx,Ue _,by simp only[VF,Tp],Nat.le_of_eq (TA _),?_⟩,Ub hx (Ur _),λx am ai aj=>?_⟩;rw[<-ac];exact A9 (λy hy=>by rw[TA];exact p7 V y hy);show(T.set _ _ _:T Blk).get x=_;rw[VF,Tn (by omega),VF,Tn aj,VF,Tn ai]
 ·
  have X:at_=n:=Nat.le_antisymm ae hge;subst X;obtain⟨v0,h1,_,_⟩:=rP (hp:=hp) D.t22 D.ty w (Tq at_) hg hk hl;obtain⟨r,hp1,h2,h3⟩:=Fc D.t22 D.ty D.zero D.zl D.by_ (Ta (Ub (Nat.le_max_left lo at_) O)) R hn hi hg hk hl l H;have h:=Fo (C:=COv ρ) D (h1 hp.nx) h2;rw[F.2]at h;obtain⟨v,hp',⟨tm1,rfl,q1,rfl⟩,u⟩:=cX (args:=[.slice (some ⟨i,o,none⟩) at_ (d8 lo 0),.int .i64 at_,.slice (some ⟨j,q,none⟩) 1 cm]) U F.1 f4 (by rw[W];exact h);rw[q1,TL]at u;refine⟨r,_,.of u,?_⟩;rw[TT (Nat.le_of_eq K),List.drop_eq_nil_of_le (Nat.le_of_eq K),UF];exact h3.weak
def Ov (D:jQ P g ρ e ie zv)(hn:y9 hp ie.size (.slice (some ⟨j,q,none⟩) 1 cm)=some (1,news)):∃v hp',sZ P C g [.slice none 0 0,.int .i64 ((0:Nat):Int),.slice (some ⟨j,q,none⟩) 1 cm] hp v hp'/\v= .slice (some ⟨hp.nx,0,none⟩) 1 (d8 1 0)/\hp'=hp.new news e ie.size:=by
 obtain⟨fn,w,z,A,B⟩:=D.fn;obtain⟨l,p⟩:∃l,fn.body=some l/\(Go.Proofs.Body2.n21 ρ).body.getD .skip=l:=⟨_,z.trans rfl,rfl⟩;have h1:w9 P hp (ρ.t 22) (.slice none 0 0) (some (.int .i64 ((0:Nat):Int))) none none=some (.slice none 0 0,hp):=by have hb:A8 0 0 (some (.int .i64 ((0:Nat):Int))) none none=some (0,0,none):=rfl;simp only[w9,D.t22,D.ty];rfl
 have h2:D1 P hp (ρ.t 22) (ρ.t 22) (.slice none 0 0) (.slice (some ⟨j,q,none⟩) 1 cm)=some (.slice (some ⟨hp.nx,0,none⟩) 1 (d8 1 0),hp.new news e ie.size):=by
  have s:(Nat.beq zv.cells.toList.length ie.size&&Nat.ble ie.bytes 1048576)=true:=by rw[D.zl,u7 rfl,Ta D.by_];rfl
  have u:(Nat.beq 0 0&&Nat.beq 0 0&&Nat.ble 1 67108864)=true:=by rfl
  simp only[D1,D.t22,D.ty,D.zero];rw[s,Tk,hn];simp only;rw[u,Tk,z4 Nat.one_ne_zero,Tl]
 have h:=Fo (C:=C) D h1 h2;rw[p.2]at h;obtain⟨v,hp',⟨tm1,rfl,E,rfl⟩,d⟩:=cX (args:=[.slice none 0 0,.int .i64 ((0:Nat):Int),.slice (some ⟨j,q,none⟩) 1 cm]) w p.1 B (by rw[A];exact h);rw[E,TL]at d;exact⟨_,_,.of d,rfl,rfl⟩
theorem KF (D:HL P g ρ e ie zv){o a b:Nat}(d:Nat.max lo n<=67108864)(u:a<b)(w:b<=n)(hi:i<hp.nx)(hg:hp.m.get i=some (.cells c k e ie.size))(hk:o+n*ie.size<=k)(hl:j7 c o (n*ie.size)=some olds)(l:olds.all Value.oneCell'=true):∃v hp',sZ P C g [.slice (some ⟨i,o,none⟩) n (d8 lo 0),.int .i64 a,.int .i64 b] hp v hp'/\Jv hp i (λ_=>False) e ie.size (a+(n-b)) (olds.take (a*ie.size)++olds.drop (b*ie.size)) v hp':=by obtain⟨fn,A,B,E,F⟩:=D.fn;obtain⟨s,z⟩:∃s,fn.body=some s/\(Go.Proofs.Body2.n23 ρ).body.getD .skip=s:=⟨_,B.trans rfl,rfl⟩;have h:=Ot (C:=C) D (Ta d) u w hg hk hl l;rw[z.2]at h;obtain⟨v,hp',⟨tm1,rfl,L,G,H,ct,J,K⟩,p⟩:=cX (args:=[.slice (some ⟨i,o,none⟩) n (d8 lo 0),.int .i64 a,.int .i64 b]) A z.1 F (by rw[E];exact h);refine⟨_,_,.of p,⟨i,o,Nat.max lo n,ct,k,by grind,d,.inl rfl,by omega,J,?_,K⟩,G,λx _ hx _=>H x hx⟩;have:(a+(n-b))*ie.size<=n*ie.size:=Tg _ (by omega);omega
end
structure CloFn (P:Aw)(g:Ay)(ρ:Go.Shelf.Ren)(e:Ax)(ie:Ba)(zv:Av):Prop where
 fn:∃fn,P.funcs[g]? =some fn/\fn.body=(Go.Proofs.Body2.n15 ρ).body/\fn.ntmps=8/\fn.results= #[.tmp 2]
 t22:P.underlying (ρ.t 22)=some (.slice e)
 ty:P.info? e=some ie
 zero:ie.zero=some zv
 cst:cst zv=true
 zl:zv.cells.toList.length=ie.size
 by_:ie.bytes<=1048576
section
variable {P :Aw}{g:Ay}{ρ:Go.Shelf.Ren}{e:Ax}{ie:Ba}{zv:Av}{hp:Hp}{C:i9->Prop}
