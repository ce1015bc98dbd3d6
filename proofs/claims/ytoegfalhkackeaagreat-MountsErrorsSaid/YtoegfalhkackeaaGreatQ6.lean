/- Mounts: the nodes of a tree are yielded (all): rounds of a range that calls on.
  Conditions: none. -/
import Derived.Test.YtoegfalhkackeaaGreatQ5
set_option maxRecDepth 10000
set_option linter.all false
noncomputable section
namespace Go.D
open Go Go.Xe Go.Sx
variable {F:FB}
def FJ {e:Ax}{v:Av}{L:Sx.Rows}(h:PV PR F (.sl e) v (.lst L)):∃q c,v= .slice q L.length c:=by
 cases h with
 |nils=>exact⟨_,_,rfl⟩|vague=>exact⟨_,_,rfl⟩|sl e i o c=>exact⟨_,_,rfl⟩
def NT.one {t:a9}{ws:Af}(o:ws.length=6)(h:NT F t (fun q=>ws[q]?)):ws.all Value.oneCell'=true:=by
 match ws,o with
 | [a,b,c,d,e,f],_=>obtain⟨⟨h0,h1,h2,⟨p,h3,g⟩,h4⟩,vc,n,m⟩:=h;obtain⟨q,l,rfl⟩:=FJ g;obtain⟨q',l',rfl⟩:=FJ m;cases h0;cases h1;cases h2;cases h3;cases h4;cases n;rfl
def NT.load {t:a9}{cs:Ao}(h:NT F t (at6 cs 0)):∃ws,n9 cs 0 6=some ws/\ws.length=6/\NT F t (fun q=>ws[q]?):=by
 have g:∀k,k<6-> ∃x,cs.get (0+k)=some x:=fun k hk=>by obtain⟨x,hx,_⟩:=h.cell k _ _ (QV (by rw[mP];exact hk)) (QV (by rw[kf_N];exact hk));exact⟨x,hx⟩
 have hl:n9 cs 0 6=some ((List.range 6).map fun k=>(cs.get (0+k)).getD undef):=by have:=C0 (c:=cs) (vs:=(List.range 6).map fun k=>(cs.get (0+k)).getD undef) (o:=0) (fun q hq=>by simp only[Rc,List.length_range]at hq;obtain⟨x,hx⟩:=g q hq;have e:q<6:=hq;simp[e];rw[Rr]at hx;rw[hx];rfl);simpa using this
 refine⟨_,hl,by simp,.of_cells fun k d kd b hk=>?_⟩;have a:k<6:=by have:=(QL.1 b).1;rw[mP]at this;exact this
 obtain⟨x,hx,hp⟩:=h.cell k d kd b hk;refine⟨x,?_,hp⟩;have hx:cs.get (0+k)=some x:=hx;rw[Rr]at hx;simp[a];rw[hx];rfl
def Cl (ws:Af):at6 (fill .e 0 ws) 0=fun p=>ws[p]? :=by funext p;unfold at6;rw[l8];by_cases h:p<ws.length;rw[Rh ⟨by omega,by omega⟩];congr 1;omega;rw[Re (by omega),Td (by omega)];simp[TP]
section
variable {ov :Aa}{i j y n0 k db:Nat}{W:Nat->Prop}{g0:Ac}{J:Nat->(Ac)->Prop}{Y:Nat->Af->Prop}{hp hp2:Hp}{tms:Ao}
def inner (R:Ey PR ov i W n0 g0 J Y)(hn:n0<=hp2.nx)(n:∀b,b<n0-> ¬W b->hp2.m.get b=g0 b)(hj:hp2.m.get j=some (.loop .ready none 25 tms #[19] aR6 aBo db))(D:n0<=j)(M:j<hp2.nx)(hy:hp2.m.get y=some (.cells (fill .e 0 [.chan (some i)]) 1 tYl 1))(U:n0<=y)(V:y<hp2.nx)(X:y≠j)(t2:tms.get 2=some (.pointer (some ⟨y,0,none⟩))):Ey PR ov j W hp2.nx hp2.m.get J Y where
 stab:=R.stab
 wlt:=fun b hb=>RP (R.wlt b hb) hn
 nodfr:=R.nodfr
 arg:=R.arg
 step:=by
  intro k args hp S C;obtain⟨ws,rfl,B,L⟩:=R.arg k args C;have v:∀b,n0<=b-> ¬W b:=fun b hb f=>by have:=R.wlt b f;omega
  have g:=(S.old j M (v j D)).trans hj;have t:=(S.old y V (v y U)).trans hy;have K:=S.nx;obtain⟨tm1,hp1,X1,P,Q,p⟩:YN PR ov (some j) 25 aR6 (kN tms [19] [.agg ws.toArray]) hp fun tm1 h1=>tm1.get 2=some (.pointer (some ⟨y,0,none⟩))/\tm1.get 5=some (.pointer (some ⟨hp.nx,0,none⟩))/\h1=⟨(hp.m.set hp.nx (some (.cells zB 6 tN 6))).set hp.nx (some (.cells (fill zB 0 ws) 6 tN 6)),hp.nx+1⟩:=
   a_6 (by show(tms.set 19 _).get 19=_;rw[TQ,Rh rfl]) B L fun tm1 a b=>⟨by rw[a 2 (by decide)];show(tms.set 19 _).get 2=_;rw[TQ,Re (by decide)];exact t2,b,rfl⟩
  have z:∀b,b≠hp.nx->hp1.m.get b=hp.m.get b:=fun b hb=>by rw[p];show((hp.m.set hp.nx _).set hp.nx _).get b=_;rw[TQ,Re hb,TQ,Re hb]
  have H:hp1.m.get hp.nx=some (.cells (fill zB 0 ws) 6 tN 6):=by rw[p];show((hp.m.set hp.nx _).set hp.nx _).get hp.nx=_;rw[TQ,Rh rfl]
  have w:hp1.nx=hp.nx+1:=by rw[p]
  have s:hp1.m.get j=some (.loop .ready none 25 tms #[19] aR6 aBo db):=(z j (by omega)).trans g;let l:Hp:=⟨hp1.m.set j (some (.loop .busy none 25 tms #[19] aR6 aBo db)),hp1.nx⟩
  have o:∀b,b≠j->b≠hp.nx->l.m.get b=hp.m.get b:=fun b h1 h2=>by show(hp1.m.set j _).get b=_;rw[TQ,Re h1];exact z b h2
  have q:l.m.get j=some (.loop .busy none 25 tms #[19] aR6 aBo db):=by show(hp1.m.set j _).get j=_;rw[TQ,Rh rfl]
  have N:l.nx=hp.nx+1:=w;have SB:St W n0 g0 J k l:=⟨by omega,fun b hb f=>by rw[o b (by omega) (by omega),S.old b (by omega) f];exact n b hb f,R.stab k _ _ S.j fun b f=>o b (by have:=R.wlt b f;omega) (by have:=R.wlt b f;omega)⟩
  obtain⟨I,XR,SC,KC⟩:=R.step k _ l SB C;have u:=KC.keeps fun b hb=>R.nodfr k _ b SB.j hb;obtain⟨x,d,X2,E⟩:YN PR ov (some j) 25 aBo tm1 l fun _ h2=>h2=I:=by rw[a_bo];refine .block (.seq (a_7 (i:=i) (y:=y) (c:=hp.nx) (cs:=fill zB 0 ws) P Q ?_ ?_ (tD B) XR u fun x h=>.condF (evt h) (.skip rfl)));rw[o y X (by omega)];exact t;show(hp1.m.set j _).get hp.nx=_;rw[TQ,Re (by omega)];exact H
  subst E;have r:d.m.get j=some (.loop .busy none 25 tms #[19] aR6 aBo db):=(KC.2 j (by omega) (v j D)).trans q;have O:=KC.1;have G:∀b,b<hp.nx-> ¬W b->b≠j->d.m.get b=hp.m.get b:=fun b h1 h2 h3=>by rw[KC.2 b (by omega) h2];exact o b h3 (by omega)
  have A:∀b,b<hp.nx-> ¬W b->(d.m.set j (some (.loop .ready none 25 tms #[19] aR6 aBo db))).get b=hp.m.get b:=fun b h1 h2=>by rw[TQ];split;rename_i e;rw[e];exact g.symm;rename_i e;exact G b h1 h2 e
  refine⟨⟨d.m.set j (some (.loop .ready none 25 tms #[19] aR6 aBo db)),d.nx⟩,xrnd g rfl rfl X1 s X2 r,⟨by show hp2.nx<=d.nx;omega,fun b hb f=>?_,?_⟩,⟨by show hp.nx<=d.nx;omega,A⟩⟩;show(d.m.set j _).get b=_;rw[A b (by omega) f];exact S.old b hb f;refine R.stab (k+1) _ _ SC.j fun b f=>?_;show(d.m.set j _).get b=_;rw[TQ,Re (by have:=R.wlt b f;omega)]
end
end Go.D
namespace Go.D
open Go Go.Xe Go.Sx
mutual
def gM :a9->List a9
 | .mk k t y a x c=>.mk k t y a x c::preL c
def preL :List a9->List a9
 | []=>[]
 |s::l=>gM s++preL l
end
def Dg (s:a9):gM s=s::preL s.c:=by cases s;simp only[gM];rfl
mutual
def Dh :∀s:a9,(gM s).length=s.size
 | .mk k t y a x c=>by simp only[gM,a9.size,RC,preL_len c]
def preL_len :∀l:List a9,(preL l).length=a9.sizes l
 | []=>rfl|s::l=>by simp only[preL,a9.sizes,Rn,Dh s,preL_len l]
end
def Di :∀ {l m:List a9},preL (l++m)=preL l++preL m
 | [],m=>rfl|s::l,m=>by simp only[RZ,preL,Di (l:=l),QX]
def yP {l:List a9}{c:a9}(h:c∈l):c.size<=a9.sizes l:=by
 induction l with
 |nil=>cases h
 |cons a l b=>simp only[a9.sizes];rcases Rx.1 h with rfl|h;omega;have:=b h;omega
def NJ {s c n:a9}{a r:List a9}{q:Nat}(e:s.c=a++c::r)(h:(gM c)[q]? =some n):(gM s)[1+a9.sizes a+q]? =some n:=by rw[Dg,e,Di,preL,show 1+a9.sizes a+q=a9.sizes a+q+1 by omega,QU,QR (by rw[preL_len];omega),preL_len,show a9.sizes a+q-a9.sizes a=q by omega,QS (QL.1 h).1];exact h
def Oo (ov:Aa)(s:a9):Prop:=∀(i n0 k0 b:Nat) (W:Nat->Prop) (g0:FB) (J:Nat->FB->Prop) (Y:Nat->Af->Prop) (F:FB) (hp:Hp) (cs:Ao),
 Ey PR ov i W n0 g0 J Y->St W n0 g0 J k0 hp->hp.m.get b=some (.cells cs 6 tN 6)->b<hp.nx-> ¬W b->NT F s (at6 cs 0)->(∀x y,F x=some y->hp.m.get x=some y/\x<hp.nx/\ ¬W x)->
 (∀(q:Nat) (n:a9) (ws:Af),(gM s)[q]? =some n->ws.length=6->NT F n (fun p=>ws[p]?)->Y (k0+q) [.agg ws.toArray])->
 ∃hp',W8 PR ov aF [.chan (some i),.pointer (some ⟨b,0,none⟩)] hp (.tuple #[]) hp'/\St W n0 g0 J (k0+s.size) hp'/\Kp W hp hp'
section
variable {ov :Aa}{hp:Hp}{ws:Af}
abbrev gR0 :Code:=cdA (R5 PR aG)
abbrev gR1 :Code:=cdA (cdB (R5 PR aG))
def Py :R5 PR aG= .seq gR0 (.seq gR1 .ret):=by kernel_rfl
variable {Q:Ao->Hp->Prop}{tm:Ao}
def ga_0 {v:Av}(h0:tm.get 0=some (.agg ws.toArray))(k:∀tm1,tm1.get 1=some (.pointer (some ⟨hp.nx,0,none⟩))->Q tm1 ⟨hp.m.set hp.nx (some (.cells (fill .e 0 ws) ws.length tN ws.length)),hp.nx+1⟩):YN PR ov none 4 gR0 tm hp Q:=by
 unfold gR0;rw[Ox];simp only[Go.Proofs.Tryz.f60,RB,cdA,cdB];have e:(Value.agg ws.toArray).cells.toList=ws:=by simp[Value.cells]
 refine .region (.op rfl rfl (Gy Km h0) (.op rfl rfl Ok (.nil ?_)));rw[e];refine⟨⟨Ss _,fun r hr h=>by show(hp.m.set hp.nx _).get r=_;rw[TQ,Re (by omega)];exact h⟩,k _ ?_⟩;simp only[gp];rfl
variable {v:Av}
def ga_1 (h1:tm.get 1=some v)(k:∀tm1,tm1.get 2=some (.func (.func aF) #[] #[v])->Q tm1 hp):YN PR ov none 4 gR1 tm hp Q:=by unfold gR1;rw[Ox];simp only[Go.Proofs.Tryz.f60,RB,cdA,cdB];refine .region (.op rfl rfl (xo_fn h1) (.op rfl rfl (Pn (by simp only[gp];rfl)) (.nil ⟨.refl _,k _ ?_⟩)));simp only[gp];rfl
def GK (hg:Xe.isT (ov aG)=false)(o:ws.length=6):∃hp',W8 PR ov aG [.agg ws.toArray] hp (.func (.func aF) #[] #[.pointer (some ⟨hp.nx,0,none⟩)]) hp'/\hp'.nx=hp.nx+1/\hp'.m.get hp.nx=some (.cells (fill .e 0 ws) 6 tN 6)/\(∀b,b<hp.nx->hp'.m.get b=hp.m.get b):=by
 obtain⟨tm1,hp1,X0,p,j⟩:=ga_0 (ov:=ov) (v:=undef) (hp:=hp) (ws:=ws) (tm:=fill .e 0 [.agg ws.toArray]) (Q:=fun tm1 h1=>tm1.get 1=some (.pointer (some ⟨hp.nx,0,none⟩))/\h1=⟨hp.m.set hp.nx (some (.cells (fill .e 0 ws) ws.length tN ws.length)),hp.nx+1⟩) (by rw[z7 _ _ (by simp)];rfl) fun tm1 a=>⟨a,rfl⟩
 obtain⟨d,hp2,X1,q,n⟩:=ga_1 (ov:=ov) (hp:=hp1) (tm:=tm1) (Q:=fun d h2=>d.get 2=some (.func (.func aF) #[] #[.pointer (some ⟨hp.nx,0,none⟩)])/\h2=hp1) p fun d a=>⟨a,rfl⟩
 subst n;have X:XK PR ov none 4 (R5 PR aG) (fill .e 0 [.agg ws.toArray]) hp .ret d hp2:=by rw[Py];exact X0.seq (X1.seq .ret)
 obtain⟨i,r1,r,l,s⟩:=pO (ov:=ov) (args:=[.agg ws.toArray]) (c:=R5 PR aG) JU (by kernel_rfl) hg (show XK PR ov none (1+(Go.Proofs.Tryz.f60.ntmps-1)) _ _ _ _ _ _ from(show 1+(Go.Proofs.Tryz.f60.ntmps-1)=4 from by kernel_rfl)▸X) (.inr rfl) (vs:=[.func (.func aF) #[] #[.pointer (some ⟨hp.nx,0,none⟩)]]) (fun h2 _=>by
  have e:Go.Proofs.Tryz.f60.results.toList=[.tmp 2]:=by kernel_rfl
  rw[e];simp only[J4,eN,q,RB])
 have g:∀b,hp2.m.get b=if b=hp.nx then some (.cells (fill .e 0 ws) 6 tN 6)else hp.m.get b:=fun b=>by rw[j];show(hp.m.set hp.nx _).get b=_;rw[TQ,o]
 refine⟨i,r1,by rw[r,j],?_,fun b hb=>?_⟩;rw[l _ (by rw[g,Rh rfl];exact fun h=>by cases h),g,Rh rfl]
 ·by_cases f:hp.m.get b=some .dfr;rw[s.dfr b hb f,f]
  ·have k:hp2.m.get b=hp.m.get b:=by rw[g,Re (by omega)]
   rw[l b (by rw[k];exact f),k]
