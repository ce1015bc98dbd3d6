/- attr, whole: where an attribute is, or would be (DiffsApply).
  Conditions: none. -/
import Derived.Test.YtcjhhnoaoldcmaaGreatS9
set_option linter.all false
set_option maxRecDepth 10000
noncomputable section
namespace Go.D
open Go Go.Xe Go.Sx
open Go.C36 (row)
section
variable {ov :Aa}{hp:Hp}{args:Af}{Q:Ao->Hp->Prop}
def Hq {f:Az}{fn:Func}{c:Code}{nt r q:Nat}(a:PR.funcs[f]? =some fn)(hc:fn.body=some c)(hr:fn.results= #[.tmp r,.tmp q])(hn:args.length+(fn.ntmps-args.length)=nt)(d:Go.Xe.isT (ov f)=false)(hw:wkF PR f=false){v u:Aw}(h:YR ov nt c (fill .e 0 args) hp fun tm' hp'=>tm'.get r=some v/\tm'.get q=some u/\Q tm' hp'):∃tm' hp' hp2,Q tm' hp'/\A4 PR ov f args hp (.tuple #[v,u]) hp2/\hp2.nx=hp'.nx/\(∀i,hp'.m.get i≠some .dfr->hp2.m.get i=hp'.m.get i)/\l9 hp hp2:=by obtain⟨tm',hp',k,h1,h2,h3⟩:=h;subst hn;obtain⟨hp2,g,j,l,n⟩:=bK a hc d k (.inr rfl) (vs:=[v,u]) (fun b same=>by rw[hr];simp only[C8,P6,h1,h2,KC]) hw;exact⟨tm',hp',hp2,h3,g,j,l,n⟩
end
section
variable {ov :Aa}{hp:Hp}{tm:Ao}{Q:Ao->Hp->Prop}
theorem a_R0 (k:∀tm1,(∀x,x<4->tm1.get x=tm.get x)->Q tm1 hp):YN PR ov 33 (cdA (D2 PR aF)) tm hp Q:=by refine .region (.o (D5 rfl) (.o (D5 rfl) (.nil ⟨.refl _,k _ fun x hx=>?_⟩)));simp only[gp];grind
variable {N iw ow:Nat}{q:Ar}{cs:Ao}
theorem a_R1 {n c:Nat}(h0:tm.get 0=some (.pointer (some ⟨iw,ow,none⟩)))(hw:hp.m.get iw=some (.cells cs N tN 6))(hN:ow+6<=N)(h3:cs.get (ow+3)=some (.slice q n c))(k:∀tm1,(∀x,x<8->tm1.get x=tm.get x)->tm1.get 11=some (.slice q n c)->tm1.get 12=some (.int .i64 n)->tm1.get 13=some (.int .i64 0)->Q tm1 hp):YN PR ov 33 (cdA (cdA (cdB (D2 PR aF)))) tm hp Q:=by
 refine .region (.o (i5 h0) (.o qN (.o (l7 oH (by simp only[gp];rfl)) (.o (qL (h:=((B7 wo hw rfl (by omega)).trans h3))) (.o (kV nU (by simp only[gp];rfl) rfl) (.o xU (.nil ⟨.refl _,k _ (fun x hx=>?_) ?_ ?_ ?_⟩)))))))
 ·simp only[gp];grind
 all_goals (simp only[gp];rfl)
def a_R7 {n c:Nat}(h0:tm.get 0=some (.pointer (some ⟨iw,ow,none⟩)))(hw:hp.m.get iw=some (.cells cs N tN 6))(hN:ow+6<=N)(h3:cs.get (ow+3)=some (.slice q n c))(k:∀tm1,tm1.get 4=some (.int .i64 n)->tm1.get 5=some (.bool false)->Q tm1 hp):YR ov 33 (cdB (cdB (D2 PR aF))) tm hp Q:=by refine .seq (.region (.o (i5 h0) (.o qN (.o (l7 oH (by simp only[gp];rfl)) (.o (qL (h:=((B7 wo hw rfl (by omega)).trans h3))) (.o (kV nU (by simp only[gp];rfl) rfl) (.o qA (.o (D5 rfl) (.nil ⟨.refl _,.ret (k _ ?_ ?_)⟩)))))))));all_goals (simp only[gp];rfl)
theorem yw (E:Go.Xe.isT (ov aF)=false){ca:Ao}{l:List Att}{s:Str}{va:Aw}{ia:Ai}{oa:Nat}(hw:hp.m.get iw=some (.cells cs N tN 6))(t:iw<hp.nx)(hN:ow+6<=N)(h3:cs.get (ow+3)=some va)(y:L9 hp.m.get tAt 2 l.length va ia oa ca)(D:∀(j:Nat) a,l[j]? =some a->AtC a ca (oa+j*2))(hl:l.length<=1000)(hlt:∀j∈ia.toList,j<hp.nx):∃hp',A4 PR ov aF [.pointer (some ⟨iw,ow,none⟩),.string ⟨s.toArray⟩] hp (.tuple #[.int .i64 (q8 l s),.bool (z8 l s)]) hp'/\New hp hp':=by
 obtain⟨q,c,rfl⟩:=y.sl;obtain⟨tm',hp',hp2,nw,I,J,K,L⟩:=Hq (hp:=hp) (args:=[.pointer (some ⟨iw,ow,none⟩),.string ⟨s.toArray⟩]) (Q:=fun _ hp'=>New hp hp') (v:= .int .i64 (q8 l s)) (u:= .bool (z8 l s)) (c:=D2 PR aF) a_fn rfl rfl (r:=4) (q:=5) rfl E rfl (by
  have F:l=[]\/ ∃io oa c' x,Value.slice q l.length c= .slice (some ⟨io,oa,none⟩) l.length c'/\hp.m.get io=some (.cells ca x tAt 2)/\io<hp.nx/\oa+l.length*2<=x/\ ∀(j:Nat) a,l[j]? =some a->AtC a ca (oa+j*2):=by
   rcases y with⟨h1,_,_⟩| ⟨i,c',A,rfl,h2,h4,h5,C⟩
   ·grind
   ·exact .inr ⟨i,oa,c',A,h2,h5,hlt i (by simp),C,D⟩
  refine .seq (a_R0 fun tm1 w=>?_);obtain⟨b,hp2,k2,rfl,t0,t1,e,g,h⟩:=a_R1 (ov:=ov) (Q:=fun b hp2=>hp2=hp/\b.get 0=some (.pointer (some ⟨iw,ow,none⟩))/\b.get 1=some (.string ⟨s.toArray⟩)/\b.get 11=some (.slice q l.length c)/\b.get 12=some (.int .i64 l.length)/\b.get 13=some (.int .i64 0)) (by rw[w 0 (by omega),d7];rfl) hw hN h3 fun b z e g h=>⟨rfl,by rw[z 0 (by omega),w 0 (by omega),d7];rfl,by rw[z 1 (by omega),w 1 (by omega),d7];rfl,e,g,h⟩
  rcases CB F hl l.length 0 b hp2 (Ks _) ⟨t0,t1,e,g,h,⟨Kj _,fun _ _=>rfl⟩,LF _,fun j a hj=>by omega⟩with⟨f,d,p,G,H,o⟩| ⟨f,d,p,q0,k,o⟩
  ·have O:XK PR ov 33 (.block 0 (.loop aL)) b hp2 .ret f d:=⟨p.run.map fun n m ds B a=>by simp only[f9,a],p.kp⟩
   exact⟨f,d,(k2.seq O).seqX (by simp),G,H,o⟩
  ·have is:z8 l s=false:=by unfold z8;rw[k,LQ (Kj _)]
   rw[k,is];refine .seq ⟨f,d,k2.seq p.blockX,a_R7 q0 (by rw[o.old iw t];exact hw) hN h3 fun M h4 h5=>⟨h4,h5,o⟩⟩)
 exact⟨hp2,I,nw.leave J K L⟩
end
end Go.D
noncomputable section
namespace Go.D
open Go Go.Xe Go.Sx Go.RowKit
open Go.C36 (row)
def delA :sP PR 64 ρa tAt iea zvA where
 fn:=⟨X3 PR 64,rfl,rfl,rfl,rfl⟩
 t22:=rfl
 ty:=mz
 zero:=rfl
 cst:=rfl
 zl:=rfl
 one:=rfl
 by_:=Lq rfl
def insA :fE PR 66 ρa tAt iea zvA where
 fn:=⟨X3 PR 66,rfl,rfl,rfl,rfl⟩
 t22:=rfl
 t3:=rfl
 ty:=mz
 zero:=rfl
 cst:=rfl
 zl:=rfl
 sz:=by decide
 by_:=Lq rfl
 fo:=⟨X3 PR 89,rfl,rfl⟩
 nT:=rfl
def delN :sP PR 91 ρn tN ien zvN where
 fn:=⟨X3 PR 91,rfl,rfl,rfl,rfl⟩
 t22:=rfl
 ty:=wF
 zero:=rfl
 cst:=rfl
 zl:=rfl
 one:=rfl
 by_:=Lq rfl
def insN :fE PR 93 ρn tN ien zvN where
 fn:=⟨X3 PR 93,rfl,rfl,rfl,rfl⟩
 t22:=rfl
 t3:=rfl
 ty:=wF
 zero:=rfl
 cst:=rfl
 zl:=rfl
 sz:=by decide
 by_:=Lq rfl
 fo:=⟨X3 PR 110,rfl,rfl⟩
 nT:=rfl
section
variable {ov :Aa}{hp:Hp}{g:Az}{ρ:Go.Shelf.Ren}{e:Ay}{ie:Bb}{zv:Aw}{n o:Nat}{v:Aw}{io:Ai}{cs:Ao}{vals:Af}
structure wi (hp:Hp)(e z n:Nat)(io:Ai)(J:Nat->Prop)(vals:Af)(v:Aw)(hp':Hp):Prop where
 own:∃io' o' cs',L9 hp'.m.get e z n v io' o' cs'/\d6 cs' o' (n*z)=some vals/\ ∀q,io'=some q->(io=some q\/hp.nx<=q)/\q<hp'.nx
 nx:hp.nx<=hp'.nx
 old:∀x,x<hp.nx->io≠some x-> ¬J x->hp'.m.get x=hp.m.get x
theorem yx {n c:Nat}(h:wd n c):∃lo,lo<=67108864/\n<=67108864/\(c=c8 lo 0\/(c=n/\c<unk/\lo=n)):=by
 rcases h with⟨h1,h2,h3⟩| ⟨lo,h1,h2,h3⟩
 ·exact⟨n,h3,h3,.inr ⟨h2,h1,rfl⟩⟩
 ·grind
def zW {i c N lo:Nat}{xs:Af}(a:hp.m.get i=some (.cells cs N e ie.size))(hN:o+n*ie.size<=N)(hn:n<=67108864)(hc:c=c8 lo 0\/(c=n/\c<unk/\lo=n)):wkA hp (.slice (some ⟨i,o,none⟩) n c::xs)= .slice (some ⟨i,o,none⟩) n (c8 lo 0)::xs:=by
 rcases hc with rfl| ⟨rfl,h2,rfl⟩
 ·exact HJ
 ·simp only[wkA,JS hn,Kc,a,JS hN]
variable {J:Nat->Prop}
theorem wi.of {i:Nat}{hp':Hp}(h:wh hp i J e ie.size n vals v hp')(hn:n<=67108864):wi hp e ie.size n (some i) J vals v hp':=by obtain⟨⟨b,q,lo,ct,k,rfl,h1,h2,h3,h4,h5,a⟩,nx,old⟩:=h;refine⟨⟨some b,q,ct,.inr ⟨b,_,k,rfl,rfl,.inr ⟨lo,rfl,h1,hn⟩,h4,h5⟩,a,fun x hx=>?_⟩,nx,fun x hx hi hj=>old x hx (fun e=>hi (by grind)) hj⟩;grind
def yD (D:sP PR g ρ e ie zv)(hw:wkF PR g=true)(p:Go.Xe.isT (ov g)=false)(h:L9 hp.m.get e ie.size n v io o cs)(hl:d6 cs o (n*ie.size)=some vals)(d:vals.all Value.oneCell'=true){a:Nat}(ha:a<n)(hlt:∀j∈io.toList,j<hp.nx):∃v' hp',A4 PR ov g [v,.int .i64 a,.int .i64 ((a+1:Nat):Int)] hp v' hp'/\wi hp e ie.size (n-1) io (fun _=>False) (vals.take (a*ie.size)++vals.drop ((a+1)*ie.size)) v' hp':=by
 rcases h with⟨h1,_⟩| ⟨i,c,N,rfl,rfl,hc,b,hN⟩
 ·omega
 obtain⟨lo,q,k,r⟩:=yx hc;obtain⟨v',hp',s,l⟩:=Cc D (a:=a) (Nat.max_le.2 ⟨q,k⟩) (by omega) ha (hlt i (by simp)) b hN hl d;have f:a+(n-(a+1))=n-1:=by omega
 rw[f]at l;refine⟨v',hp',Y8 (C:=fun _=>True) (fun _=>trivial) p ?_,.of l (by omega)⟩;rwa[hw,Kc,zW b hN k r]
theorem yV (D:fE PR g ρ e ie zv)(hw:wkF PR g=true)(A:Go.Xe.isT (ov g)=false)(r:ov (ρ.f 27)=some (ρ.t 22))(h:L9 hp.m.get e ie.size n v io o cs)(hl:d6 cs o (n*ie.size)=some vals)(p:vals.all Value.oneCell'=true){a:Nat}(ha:a<=n)(hn:n<=1000)(hlt:∀j∈io.toList,j<hp.nx){j q cm:Nat}(hj:j<hp.nx)(z:io≠some j){F:Ao}{I G O:Nat}(w:hp.m.get j=some (.cells F I G O)){news:Af}(hx:j2 hp ie.size (.slice (some ⟨j,q,none⟩) 1 cm)=some (1,news))(l:news.length=ie.size)(b:news.all Value.oneCell'=true):∃v' hp',A4 PR ov g [v,.int .i64 a,.slice (some ⟨j,q,none⟩) 1 cm] hp v' hp'/\wi hp e ie.size (n+1) io (fun x=>x=j) (vals.take (a*ie.size)++news++vals.drop (a*ie.size)) v' hp':=by
 rcases h with⟨rfl,rfl,rfl⟩| ⟨i,c,N,rfl,rfl,hc,d,hN⟩
 ·have u:a=0:=by omega
  subst u;rw[Ly]at hl;have H:vals=[]:=by have:=(g9 hl).1;grind
  subst H;obtain⟨v',hp',E,rfl,rfl⟩:=QQ D hx;refine⟨_,_,Y8 (C:=COv ρ) (fun k=>by unfold COv;rw[yK];exact r) A (by rw[hw];exact E),⟨some hp.nx,0,fill .e 0 news,.inr ⟨hp.nx,_,news.length,rfl,rfl,.inr (by grind),?_,by omega⟩,?_,fun x s=>?_⟩,Lk _,fun x s _ _=>?_⟩
  ·show(hp.m.set hp.nx _).get hp.nx=_;rw[Mw,Ki rfl]
  ·simp;rw[<-l];exact i8 fun y hy=>by rw[v8 news _ (by omega),Ks]
  ·cases s;exact⟨.inr (Kj _),KW _⟩
  ·show(hp.m.set hp.nx _).get x=_;rw[Mw,Kg (by omega)]
 ·obtain⟨lo,K,B,L⟩:=yx hc;obtain⟨v',hp',E,M⟩:=Ce D (Nat.max_le.2 ⟨K,B⟩) (by omega) ha (fun e=>z (by grind)) (hlt i (by simp)) hj d w hN hl hx l p b;refine⟨v',hp',Y8 (C:=COv ρ) (fun k=>by unfold COv;rw[yK];exact r) A ?_,.of M (by omega)⟩;rwa[hw,Kc,zW d hN B L]
def wi.keeps {hp':Hp}(h:wi hp e ie.size n io J vals v hp')(hi:∀j,io=some j->hp.m.get j≠some .dfr)(hj:∀j,J j->hp.m.get j≠some .dfr):l9 hp hp':=⟨h.nx,fun r hr h0=>by rw[h.old r hr (fun e=>hi r e h0) (fun e=>hj r e h0)];exact h0⟩
end
theorem bN :∀(l:List Att) (k:Nat),n8 (l.take k)=(n8 l).take (k*2)
 | [],k=>by simp[n8]|a::l,0=>rfl|a::l,k+1=>by have:=bN l k;simp only[n8,List.take_succ_cons,List.flatMap_cons]at this⊢;grind
theorem bM :∀(l:List Att) (k:Nat),n8 (l.drop k)=(n8 l).drop (k*2)
 | [],k=>by simp[n8]|a::l,0=>rfl|a::l,k+1=>by have:=bM l k;simp only[n8,List.drop_succ_cons,List.flatMap_cons]at this⊢;grind
def dE (l m:List Att):n8 (l++m)=n8 l++n8 m:=by simp[n8]
end Go.D
