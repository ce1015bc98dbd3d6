/- Lists of frozen nodes: parts of them and appends, in the executor; looks at states between (DiffsApply).
  Conditions: none. -/
import Derived.Test.YtcjhhnoaoldcmaaGreatSU
set_option linter.all false
set_option maxRecDepth 10000
noncomputable section
namespace Go.D
open Go Go.Xe Go.Sx Go.RowKit
open Go.C36 (row)
section
variable {P :Ax}{S0:Hp}{es:List Ent}
def DY (P:Ax)(es:List Ent)(e:Ent):List Ent->Prop
 | []=>True|x::l=>((bif isW x then own es e (x.i+1)|| !N4 es e (x.i+1)else true)=true\/xrd P e.tm x.S2 e.o.op=some e.r)/\DY P es e l
def dynQ (P:Ax)(S0:Hp)(es:List Ent):List Ent->Prop
 | []=>True|e::l=>(Dn es true e=true\/(xrd P e.tm S0 e.o.op=some e.r/\veq 1000 e.r e.r=true/\DY P es e es))/\dynQ P S0 es l
theorem zd {e:Ent}{k:Nat}{S:Hp}(h:xrd P e.tm S e.o.op=some e.r)(a:veq 1000 e.r e.r=true):J2 P es e k S=true:=by unfold J2;grind
def ue {e:Ent}(a:veq 1000 e.r e.r=true):∀ {l:List Ent},DY P es e l->l.all (fun x=>bif isW x then J2 P es e (x.i+1) x.S2 else true)=true
 | [],_=>rfl|x::l,h=>by
  rw[List.all_cons,ue a h.2,Lx];cases hw:isW x with
  |false=>rfl|true=>
   rcases h.1 with h|h
   ·rw[hw,Kc]at h;exact ru h _
   ·exact zd h a
theorem tz :∀ {l:List Ent},dynQ P S0 es l->(l.all fun e=>bif e.wt&&Nat.beq (d5 e.o.op) 1 then J2 P es e 0 S0&&es.all (fun x=>bif isW x then J2 P es e (x.i+1) x.S2 else true)else true)=true
 | [],_=>rfl|e::l,h=>by
  obtain⟨h1,h2⟩:=h;rw[List.all_cons,tz h2,Lx];rcases h1 with h| ⟨h,a,hl⟩
  ·have:=qT (P:=P) (S0:=S0) (l:=[e]) ⟨.inl h,trivial⟩;grind
  ·cases(e.wt&&Nat.beq (d5 e.o.op) 1)with
   |false=>rfl|true=>rw[Kc,zd h a,ue a hl];rfl
def GD (h:dynQ P S0 es es):dyn P S0 es=true:=tz h
end
def qi {q:Ar}{l c:Nat}:veq 1000 (.slice q l c) (.slice q l c)=true:=by show(decide (q=q)&&Nat.beq l l&&Nat.beq c c)=true;simp
abbrev fu :Type:=a8×Af
def fkC (K:List fu):Af:=K.flatMap (·.2)
def FK (F:FB)(K:List fu):Prop:=∀k∈K,k.2.length=6/\RN F k.1 (fun q=>k.2[q]?)
section
variable {F F':FB}{K L:List fu}
def FK.tail {k:fu}(h:FK F (k::K)):FK F K:=fun x hx=>h x (KT _ hx)
def FK.mono (hF:Fle F F')(h:FK F K):FK F' K:=fun k hk=>⟨(h k hk).1,(h k hk).2.mono hF⟩
def FK.app (h:FK F K)(h':FK F L):FK F (K++L):=fun k hk=>(Kx.1 hk).elim (h k) (h' k)
def GJ (K L:List fu):fkC (K++L)=fkC K++fkC L:=by simp[fkC]
theorem bQ :∀ {K:List fu},FK F K->(fkC K).length=K.length*6
 | [],_=>rfl|k::K,h=>by have h1:=bQ h.tail;have h2:=(h k (List.mem_cons_self ..)).1;unfold fkC at h1⊢;grind
def yQ :∀ {K:List fu},FK F K->(fkC K).all Value.oneCell'=true
 | [],_=>rfl|k::K,h=>by have h1:=yQ h.tail;obtain⟨h2,h3⟩:=h k (List.mem_cons_self ..);unfold fkC at h1⊢;rw[List.flatMap_cons,List.all_append,h1,h3.one h2];rfl
theorem qZ :∀ {K:List fu} {j:Nat} {k:fu} {q:Nat},FK F K->K[j]? =some k->q<6->(fkC K)[j*6+q]? =k.2[q]?
 |k::K,0,_,q,h,e,hq=>by cases e;have h2:=(h k (List.mem_cons_self ..)).1;unfold fkC;grind
 |k::K,j+1,k',q,h,e,hq=>by have h1:=qZ h.tail (by simpa using e) hq;have h2:=(h k (List.mem_cons_self ..)).1;unfold fkC at h1⊢;grind| [],j,k',q,h,e,hq=>by grind
variable {l:List a8}{v:Aw}
theorem lL (h:PV PR F (.sl tN) v (.lst (rows l))):∃K:List fu,K.map (·.1)=l/\FK F K/\ ∀hp:Hp,(∀i b,F i=some b->hp.m.get i=some b)->j2 hp 6 v=some (l.length,fkC K):=by
 generalize D:rows l=L at h;have f:L.length=l.length:=by grind
 cases h with
 |nils=>have:l=[]:=JR (by grind);subst this;exact⟨[],rfl,fun k hk=>by grind,fun hp _=>rfl⟩|vague=>have:l=[]:=JR (by grind);subst this;exact⟨[],rfl,fun k hk=>by simp at hk,fun hp _=>rfl⟩|sl e i o c b cs n z B x hF hb hc hn hz hr hx hp=>
  have A:z=6:=by rw[hz,AX];rfl
  subst A;have p:∀j s,l[j]? =some s->RN F s (fun q=>((List.range 6).map (x j))[q]?)/\ ∀q,q<6->cs.get (o+j*6+q)=some (x j q):=by
   intro j s hj;have g:L[j]? =some s.row:=by grind
   refine⟨.of_cells fun k d kd hd hk=>?_,fun q hq=>hx j q s.row _ g (JX (by grind))⟩;have C:k<6:=by have:=(JO.1 hd).1;rw[mT]at this;exact this
   exact(by grind)
  let K:List fu:=(List.range l.length).map fun j=>(l.getD j oJ,(List.range 6).map (x j))
  have r:∀j,j<l.length-> ∃s,l[j]? =some s/\K[j]? =some (s,(List.range 6).map (x j)):=fun j hj=>by refine⟨_,JX hj,?_⟩;rw[KL,List.getElem?_range hj,KG,Kr,JX hj];rfl
  have a:K.length=l.length:=by simp[K]
  have ok:FK F K:=fun k hk=>by
   obtain⟨j,hj⟩:=LU hk;have w:j<l.length:=by grind
   obtain⟨s,h1,h3⟩:=r j w;rw[hj]at h3;cases h3;exact(by grind)
  refine⟨K,?_,ok,fun hp u=>?_⟩
  ·refine List.ext_getElem? fun j=>?_;rw[KL];rcases Nat.lt_or_ge j l.length with hj|hj
   ·obtain⟨s,h1,h3⟩:=r j hj;rw[h3,h1];rfl
   ·rw[LQ (by omega),LQ hj];rfl
  ·have hl:d6 cs o (l.length*6)=some (fkC K):=by
    have:=i8 (fun y hy=>by
     rw[bQ ok,a]at hy;have hj:y/6<l.length:=by omega
     obtain⟨s,h1,h3⟩:=r _ hj;have h4:=qZ (q:=y % 6) ok h3 (Nat.mod_lt _ (by omega));have e:y/6*6+y % 6=y:=by omega
     rw[e]at h4;rw[h4];have h5:=(p _ s h1).2 (y % 6) (Nat.mod_lt _ (by omega));rw[show o+y/6*6+y % 6=o+y by omega]at h5;rw[h5];simp[Nat.mod_lt y (show 0<6 by omega)])
    rwa[bQ ok,a]at this
   have t:rdC b=some (cs,n,_):=hb;rw[f]at hn⊢;simp only[j2,u i b hF,t,JS hn,Kc,hl]
theorem rO {τ:Tau}{hp:Hp}(hF:∀i b,F i=some b->hp.m.get i=some b)(h:PV PR F (.sl tN) v (.lst (rows l))){a:Nat}(ha:a<=l.length):(∃w,i9 PR hp tS v none (some (.int .i64 a)) none=some (w,hp)/\PV PR F (.sl tN) w (.lst (rows (l.take a))))/\ ∃w,i9 PR hp tS v (some (.int .i64 a)) none none=some (w,hp)/\PV PR F (.sl tN) w (.lst (rows (l.drop a))):=by
 have c:(rows l).length=l.length:=by grind
 have sz:niN.size=(kf PR tN).length:=by rfl
 constructor
 ·obtain⟨w,h1,h2, -⟩:=jr (τ:=fun _=>none) eo cy sz hF h (lo:=none) (hi:=some (.int .i64 (.int a))) (vlo:=none) (vhi:=some (.int .i64 a)) trivial (.int _ _) rfl rfl (dh:= .int (rows l).length) rfl (KZ 0) (show(0:Int)<=(a:Int) by omega) (show(a:Int)<=((rows l).length:Nat) by omega);refine⟨w,h1,?_⟩;have e:Sx.part (rows l) ((E.int 0).toI U0) ((E.int a).toI U0-(E.int 0).toI U0)=rows (l.take a):=by show Sx.part (rows l) 0 ((a:Int)-0)=_;unfold Sx.part;simp_all
  rwa[e]at h2
 ·obtain⟨w,h1,h2, -⟩:=jr (τ:=fun _=>none) eo cy sz hF h (lo:=some (.int .i64 (.int a))) (hi:=none) (vlo:=some (.int .i64 a)) (vhi:=none) (.int _ _) trivial rfl (dh:= .int (rows l).length) rfl rfl (show(0:Int)<=(a:Int) by omega) (show(a:Int)<=((rows l).length:Nat) by omega) (KZ _);refine⟨w,h1,?_⟩;have e:Sx.part (rows l) ((E.int a).toI U0) ((E.int (rows l).length).toI U0-(E.int a).toI U0)=rows (l.drop a):=by show Sx.part (rows l) (a:Int) (((rows l).length:Nat)-(a:Int))=_;unfold Sx.part;rw[KB,KK (by simp)];simp_all
  rwa[e]at h2
theorem jW {hp hp':Hp}{w:Aw}{lo hi:Ag}(h:i9 PR hp tS v lo hi none=some (w,hp))(same:∀i o l c,v= .slice (some ⟨i,o,none⟩) l c->hp'.m.get i=hp.m.get i):i9 PR hp' tS v lo hi none=some (w,hp'):=by
 unfold i9 at h⊢;simp only[eo,cy]at h⊢;split at h
 ·grind
 ·grind
 ·have hs:=same _ _ _ _ rfl;simp only[Bool.cond_eq_ite]at h⊢
  repeat' (split at h)
  all_goals simp_all
  all_goals (intro;exfalso;omega)
 ·cases h
end
end Go.D
noncomputable section
namespace Go.D
open Go Go.Xe Go.Sx Go.RowKit
open Go.C36 (row)
section
variable {ov :Aa}{hp hp1 hp':Hp}{tm:Ao}{Q:Ao->Hp->Prop}{F:FB}{K L:List fu}
def sO (m:Nat)(K:List fu)(v:Aw)(hp:Hp):Prop:=(K=[]/\v= .slice none 0 0)\/ ∃i c,v= .slice (some ⟨i,0,none⟩) K.length (c8 K.length 0)/\K≠ []/\hp.m.get i=some (.cells c (K.length*6) tN 6)/\d6 c 0 (K.length*6)=some (fkC K)/\i<hp.nx/\m<=i
variable {m:Nat}{v:Aw}
theorem sO.next (h:sO m K v hp)(hn:hp.nx<=hp'.nx)(b:∀j,m<=j->j<hp.nx->hp'.m.get j=hp.m.get j):sO m K v hp':=by
 rcases h with h| ⟨i,c,h1,h2,h3,h4,h5,a⟩
 ·exact .inl h
 ·exact .inr (by grind)
def GK (h:FK F K):d6 (fill .e 0 (fkC K)) 0 (K.length*6)=some (fkC K):=by have:=i8 (vs:=fkC K) (fun q hq=>by rw[Ks,v8 _ _ hq]);rwa[bQ h]at this
theorem lY {x:Aw}(G:sO m K v hp)(D:FK F K)(p:FK F L)(hx:j2 hp 6 x=some (L.length,fkC L))(A:K.length+L.length<=1000)(hm:m<=hp.nx):∃v' hp',(∀call:c7,l8 PR hp .append [tS,tS] [v,x]=some (v',hp'))/\sO m (K++L) v' hp'/\hp.nx<=hp'.nx/\ ∀j,j<m->hp'.m.get j=hp.m.get j:=by
 obtain⟨z,hz,hb⟩:∃z,niN.zero=some z/\(Nat.beq z.cells.toList.length niN.size&&Nat.ble niN.bytes 1048576)=true:=⟨niN.zero.getD undef,rfl,rfl⟩
 have u:j2 hp niN.size x=some (L.length,fkC L):=by exact hx
 have w:=od eo eo cy hz hb (sv:=v) u;rw[niN_b]at w;have d:∀ {r:Aw×Hp},T5 hp tN 6 L.length (fkC L) v=some r-> ∀call:c7,l8 PR hp .append [tS,tS] [v,x]=some r:=fun{r} h call=>by simp only[l8,w,h]
 have b1:Nat.ble L.length 67108864=true:=JS (by omega);have f:∀(T':T Blk) (b:Bc Blk) j,j<hp.nx->(T'.set hp.nx b).get j=T'.get j:=fun T' b j h=>by rw[Mw,Kg (by omega)]
 rcases G with⟨rfl,rfl⟩| ⟨i,c,rfl,t,h3,h4,h5,H⟩
 ·cases a:L with
  |nil=>subst a;exact⟨.slice none 0 0,hp,d rfl,.inl ⟨rfl,rfl⟩,Kj _,fun _ _=>rfl⟩|cons k B=>
   have y:L≠ []:=by grind
   rw[<-a];have g:Nat.beq L.length 0=false:=s7 (by grind);refine⟨.slice (some ⟨hp.nx,0,none⟩) L.length (c8 L.length 0),hp.new (fkC L) tN 6,d ?_,.inr ⟨hp.nx,fill .e 0 (fkC L),by simp,by grind,?_,by simpa using GK p,KW _,hm⟩,Lk _,fun j hj=>f _ _ j (by omega)⟩
   ·simp only[T5,b1,g,Nat.beq,Bool.and_self,Kc,Ke]
   ·show(hp.m.set hp.nx _).get hp.nx=_;rw[Mw,Ki rfl,bQ p];simp
 ·have b2:Nat.ble (K.length+L.length) 67108864=true:=JS (by omega);have o:=yQ p;cases a:L with
  |nil=>subst a;have b3:Nat.ble K.length (c8 K.length 0)=true:=JS (by have:=j1 K.length 0;unfold unk at this;omega);refine⟨.slice (some ⟨i,0,none⟩) K.length (c8 K.length 0),hp,d ?_,.inr (by grind),Kj _,fun _ _=>rfl⟩;have e0:(fkC ([]:List fu)).all Value.oneCell'=true:=rfl;have s:Nat.ble (K.length+0) 67108864=true:=JS (by omega);have b0:Nat.beq 0 0=true:=rfl;simp only[T5,h3,LP,s,e0,b0,Bool.and_self,Kc,b3]|cons k B=>
   rw[<-a];have hpos:0<L.length:=by grind
   have g:Nat.beq L.length 0=false:=s7 (by omega);have b4:Nat.ble unk (c8 K.length 0)=true:=JS (j1 _ _);have b5:Nat.ble 1 (D1 (c8 K.length 0))=false:=by rw[N7];rfl
   have C:Nat.ble (0+K.length*6) (K.length*6)=true:=JS (by omega);have b7:Nat.ble (K.length+L.length) (L6 (c8 K.length 0))=false:=by rw[Q3];exact Xe.ble_f (by omega)
   have n:=bQ p;have l:=bQ D;refine⟨.slice (some ⟨hp.nx,0,none⟩) (K.length+L.length) (c8 (K.length+L.length) 0),⟨(hp.m.set i none).set hp.nx (some (.cells (fill c (K.length*6) (fkC L)) ((K.length+L.length)*6) tN 6)),hp.nx+1⟩,d ?_,.inr ⟨hp.nx,fill c (K.length*6) (fkC L),by simp,by simp[t],?_,?_,KW _,hm⟩,Lk _,fun j hj=>?_⟩
   ·simp only[T5,h3,b2,o,Bool.and_self,Kc,g,Ke,b4,b5,Bool.false_and,l6 rfl,C,b7,h4,Mt]
   ·show((hp.m.set i none).set hp.nx _).get hp.nx=_;rw[Mw,Ki rfl];simp
   ·rw[GJ];have:=i8 (c:=fill c (K.length*6) (fkC L)) (vs:=fkC K++fkC L) (fun q hq=>by
     rw[Kn,l,n]at hq;rw[f6,Ks];by_cases E:q<K.length*6
     ·rw[Kg (by omega),JU (by omega),(g9 h4).2 q (by omega),Ks]
     ·rw[Ki (by omega),JT (by omega),l])
    rw[Kn,l,n]at this;rwa[Kn,Kw]
   ·show((hp.m.set i none).set hp.nx _).get j=_;rw[f _ _ j (by omega),Mw,Kg (by omega)]
theorem sO.pv (h:sO m K v hp)(d:FK F K)(hF:FH F hp)(hm:∀q b,F q=some b->q<m)(f:K.length<=1000):∃F',Fle F F'/\FH F' hp/\(∀q b,F' q=some b->F q=some b\/m<=q)/\PV PR F' (.sl tN) v (.lst (rows (K.map (·.1)))):=by
 rcases h with⟨rfl,rfl⟩| ⟨i,c,rfl,l,h3,h4,h5,r⟩
 ·exact⟨F,fun _ _ h=>h,hF,fun q b h=>.inl h,.nils _⟩
 ·have fle:Fle F (fun q=>if q=i then some (.cells c (K.length*6) tN 6)else F q):=fun q b h=>by grind
  refine⟨fun q=>if q=i then some (.cells c (K.length*6) tN 6)else F q,fle,fun q b h=>?_,fun q b h=>?_,?_⟩
  ·have h:(if q=i then some (Blk.cells c (K.length*6) tN 6)else F q)=some b:=h;by_cases e:q=i
   ·grind
   ·rw[Kg e]at h;exact hF q b h
  ·grind
  ·have a:(rows (K.map (·.1))).length=K.length:=by grind
   have:=cE (F:=fun q=>if q=i then some (.cells c (K.length*6) tN 6)else F q) (L:=rows (K.map (·.1))) (i:=i) (o:=0) (n:=K.length*6) (cs:=c) (by simp) (.inr ⟨K.length,rfl,by omega,by omega⟩) (jx (fun j s hj=>by
    rw[KL]at hj;cases hk:K[j]? with
    |none=>grind|some k=>rw[hk]at hj;cases hj;obtain⟨t,p⟩:=d k (JV hk);have g:=(JO.1 hk).1;refine(p.mono fle).win fun q hq=>?_;have:=(g9 h4).2 (j*6+q) (by omega);rw[qZ d hk hq]at this;rw[this];unfold at6;congr 1;omega) (by simp))
   grind
end
end Go.D
