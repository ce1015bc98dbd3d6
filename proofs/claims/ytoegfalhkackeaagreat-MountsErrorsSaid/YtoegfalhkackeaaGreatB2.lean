/- The conditions of contracts, as the engine's printer has written them, and that the kernel comes to the same.
  Conditions: none. -/
import Derived.Test.YtoegfalhkackeaaGreatB0
import Derived.Test.YtoegfalhkackeaaGreatRows
set_option maxRecDepth 100000
set_option linter.all false
noncomputable section
namespace Go.D
open Go Go.Xe Go.Sx
def vcAt :Prop:=
 ∀a c b d f g h i j k l m o p,H4 (.int a::.int c::JE b d f g h i j k l m o p)->Nd ((¬a<0)/\a<18446744073709551616) (Nd ((¬ln b<0)/\ln b<18446744073709551616)<|(a<ln b->Nd (¬a<0) (Nd (a<ln b)<|Nd (a<ln b)<|(cB b a 1=true->Nd (a<ln b) ((cI b a 0=c->Nd (a<ln b) (Nd (E7 (.int a::.int c::JE b d f g h i j k l m o p) [.int (cI b a 3)]) True))/\(¬cI b a 0=c->Nd (E7 (.int a::.int c::JE b d f g h i j k l m o p) [.int (-1)]) True)))/\(¬cB b a 1=true->Nd (E7 (.int a::.int c::JE b d f g h i j k l m o p) [.int (-1)]) True)))/\(¬a<ln b->Nd (E7 (.int a::.int c::JE b d f g h i j k l m o p) [.int (-1)]) True))
def vcAt_eq :kr Go.Proofs.Tryz.prog cAt aR (Bt 0) (uE 0) 68=vcAt:=by kernel_rfl
def vcVld :Prop:=
 ∀a c b d f g h i j k l m o p,T9 (.int a::.int c::JE b d f g h i j k l m o p)->Nd ((¬a<0)/\a<18446744073709551616) (Nd ((¬ln b<0)/\ln b<18446744073709551616)<|(a<ln b->Nd (¬a<0) (Nd (a<ln b)<|Nd (a<ln b)<|(cB b a 1=true->Nd (a<ln b) ((cI b a 0=c->Nd (K9 (.int a::.int c::JE b d f g h i j k l m o p) [.bool true]) True)/\(¬cI b a 0=c->Nd (K9 (.int a::.int c::JE b d f g h i j k l m o p) [.bool false]) True)))/\(¬cB b a 1=true->Nd (K9 (.int a::.int c::JE b d f g h i j k l m o p) [.bool false]) True)))/\(¬a<ln b->Nd (K9 (.int a::.int c::JE b d f g h i j k l m o p) [.bool false]) True))
def vcVld_eq :kr Go.Proofs.Tryz.prog cVld aR (Bt 0) (uE 0) 97=vcVld:=by kernel_rfl
def vcPlc0 (a:Int)(b:Sx.Rows)(c d f:Int):Prop:=
 Nd (I64 (a+1))<|Nd (AC [.lst (cL b c 9),.int d,.int f] [.int (a+1)])<|Nd (KK [.lst (cL b c 9),.int d,.int f] [.int (a+1)]<KK [.lst (cL b c 9),.int d,.int f] [.int a]) True
def vcPlc1 (a:Int)(b:Sx.Rows)(d f:Int):Prop:=
 Nd (¬a<0)<|Nd (a<ln b)<|Nd (AC [.lst (cL b a 9),.int d,.int f] [.int 0])<|∀c,AC [.lst (cL b a 9),.int d,.int f] [.int c]->((c<ln (cL b a 9)->Nd (¬c<0) (Nd (c<ln (cL b a 9))<|(d=cI (cL b a 9) c 0->((f=cI (cL b a 9) c 1->Nd (bM [.int a,.int d,.int f,.lst b] [.int c]) True)/\(¬f=cI (cL b a 9) c 1->vcPlc0 c b a d f)))/\(¬d=cI (cL b a 9) c 0->vcPlc0 c b a d f)))/\(¬c<ln (cL b a 9)->Nd (bM [.int a,.int d,.int f,.lst b] [.int (-1)]) True))
def vcPlc :Prop:=
 ∀a b c d,dT [.int a,.int b,.int c,.lst d]->((b=0->((c=0->Nd (¬a<0) (Nd (a<ln d)<|Nd (bM [.int a,.int b,.int c,.lst d] [.int (ln (cL d a 9))]) True))/\(¬c=0->vcPlc1 a d b c)))/\(¬b=0->vcPlc1 a d b c))
def vcPlc_eq :kr Go.Proofs.Tryz.prog cPlc aR (Bt 0) (uE 0) 71=vcPlc:=by kernel_rfl
def vcAbo0 (a b c d:Int)(f:Sx.Rows)(g h i j k l m o p q:Int)(r s:Sx.Rows)(t u:Int):Prop:=
 Nd (ED (.int a::.int b::.int c::.int d::JD f g h i j k l m o p q r s) [.bool (decide (t=a)&&decide (u=b))]) True
def vcAbo1 (b:Sx.Rows)(d f k l m o p q r s t u:Int)(v a:Sx.Rows)(g h i j:Int):Prop:=
 Ni (ln b)<|Nr (ln b)<|Nd (H4 (.int d::.int f::JE b k l m o p q r s t u v))<|∀c,E7 (.int d::.int f::JE b k l m o p q r s t u v) [.int c]->Nd (¬c<0) (Nd (c<ln a)<|Nd (zP [.lst b,.lst a,.int g,.int h,.int i,.int j] [.int (cI a c 7),.int (cI a c 8)])<|Nd (JS [.lst b,.lst a,.int g,.int h,.int i,.int j] [.int (cI a c 7),.int (cI a c 8)]<JS [.lst b,.lst a,.int g,.int h,.int i,.int j] [.int d,.int f]) True)
def vcAbo2 (a b c d f g:Int)(h:Sx.Rows)(i j k l m o p q r s:Int)(t u:Sx.Rows):Prop:=
 (a=b->((c=d->vcAbo0 b d f g h i j k l m o p q r s t u a c)/\(¬c=d->vcAbo1 h a c i j k l m o p q r s t u b d f g)))/\(¬a=b->vcAbo1 h a c i j k l m o p q r s t u b d f g)
def vcAbo :Prop:=
 ∀c d a b f j k l m o p q r s t u g,EC (.int c::.int d::.int a::.int b::JD f j k l m o p q r s t u g)->Nd (zP [.lst f,.lst g,.int c,.int d,.int a,.int b] [.int a,.int b]) (∀h i,zP [.lst f,.lst g,.int c,.int d,.int a,.int b] [.int h,.int i]->((h=0->((i=0->vcAbo0 c d a b f j k l m o p q r s t u g h i)/\(¬i=0->vcAbo2 h c i d a b f j k l m o p q r s t u g)))/\(¬h=0->vcAbo2 h c i d a b f j k l m o p q r s t u g)))
def vcAbo_eq :kr Go.Proofs.Tryz.prog cAbo aR (Bt 1) (uE 1) 69=vcAbo:=by kernel_rfl
def vcAt_ok :vcAt:=by unfold vcAt;intro i g S _ _ _ _ _ _ _ _ _ _ _ h;obtain⟨h1,h2,h3⟩:=h;obtain⟨h1,h4⟩:=h1;simp only[Nd,E7,atF,G6,tT,tR,Sc,Sq,Si,RD,ln];refine⟨⟨by omega,by omega⟩,fun _=>⟨⟨by omega,by omega⟩,fun _=>⟨fun a=>⟨by omega,fun _=>⟨a,fun _=>⟨fun b=>⟨a,fun _=>⟨fun c=>⟨a,?_⟩,fun c=>?_⟩⟩,fun b=>?_⟩⟩⟩,fun a=>?_⟩⟩⟩;simp only[cB]at b;simp[h1,a,b,c];simp only[cI]at c;simp[c];simp only[cB]at b;simp[b];simp[a]
def vcVld_ok :vcVld:=by unfold vcVld;intro i g S _ _ _ _ _ _ _ _ _ _ _ h;obtain⟨h1,h2,h3⟩:=h;obtain⟨h1,h4⟩:=h1;simp only[Nd,K9,G6,tT,tR,Sc,Sq,Si,RD,ln];refine⟨⟨by omega,by omega⟩,fun _=>⟨⟨by omega,by omega⟩,fun _=>⟨fun a=>⟨by omega,fun _=>⟨a,fun _=>⟨fun b=>⟨a,fun _=>⟨fun c=>?_,fun c=>?_⟩⟩,fun b=>?_⟩⟩⟩,fun a=>?_⟩⟩⟩;simp only[cB]at b;simp[h1,a,b,c];simp only[cI]at c;simp[c];simp only[cB]at b;simp[b];simp[a]
def Nz {i g:Int}:∀ {C:Sx.Rows} {k:Int},C=[]->ixF C i g k= -1
 |_,_,rfl=>rfl
variable {C:Sx.Rows}
def Cv {k:Int}(h0:0<=k)(h1:k<C.length):∃r,C.drop k.toNat=r::C.drop (k+1).toNat/\ ∀j,D1 C k j=r.getD j (.int 0):=by have h:C[k.toNat]? =some (C[k.toNat]'(by omega)):=QV (by omega);refine⟨_,by rw[GU h,eC h0],fun j=>?_⟩;unfold D1;rw[List.getD_eq_getElem?_getD (l:=C),h];rfl
def sW {r:Ar}{i g k:Int}:ixF (r::C) i g k=if(r.getD 0 (.int 0)).toInt=i/\(r.getD 1 (.int 0)).toInt=g then k else ixF C i g (k+1):=rfl
def vcPlc_ok :vcPlc:=by
 unfold vcPlc;intro p i g N h;obtain⟨hi,hg,h0,h1,h2⟩:=h;have j:vcPlc1 p N i g\/(i=0/\g=0):=by
  by_cases e:i=0/\g=0;exact .inr e
  ·left;have d:plF (cL N p 9) i g=ixF (cL N p 9) i g 0:=by unfold plF;rw[Re e]
   unfold vcPlc1;refine⟨by omega,fun _=>⟨h1,fun _=>⟨⟨by omega,by omega,by simp⟩,fun _ k hk=>?_⟩⟩⟩;obtain⟨k0,k1,k2⟩:=hk;have l:∀c:k<ln (cL N p 9),(¬i=cI (cL N p 9) k 0\/ ¬g=cI (cL N p 9) k 1)->vcPlc0 k N p i g:=by intro c f;have c:k<((cL N p 9).length:Int):=c;obtain⟨r,r1,q⟩:=Cv k0 c;unfold vcPlc0;refine⟨⟨by omega,by omega⟩,fun _=>⟨⟨by omega,by omega,?_⟩,fun _=>⟨?_,fun _=>trivial⟩⟩⟩;rw[k2,r1];simp only[cI,q]at f;rw[sW,Re (by rintro ⟨a,b⟩;rcases f with h|h;exact h a.symm;exact h b.symm)];simp only[KK,N0];omega
   refine⟨fun c=>⟨by omega,fun _=>⟨c,fun _=>⟨fun m=>⟨fun n=>⟨?_,fun _=>trivial⟩,fun n=>l c (.inr n)⟩,fun m=>l c (.inl m)⟩⟩⟩,fun c=>⟨?_,fun _=>trivial⟩⟩;show k=_;obtain⟨r,r1,q⟩:=Cv k0 c;simp only[cI,q]at m n;rw[d,k2,r1];rw[sW,Rh ⟨m.symm,n.symm⟩];have c:¬k<((cL N p 9).length:Int):=c;show(-1:Int)=_;rw[d,k2,Nz (List.drop_eq_nil_of_le (by omega))]
 refine⟨fun o=>⟨fun d=>⟨by omega,fun _=>⟨h1,fun _=>⟨?_,fun _=>trivial⟩⟩⟩,fun d=>j.resolve_right fun h=>d h.2⟩,fun o=>j.resolve_right fun h=>o h.1⟩;show _=plF _ _ _;unfold plF;rw[Rh ⟨o,d⟩]
end Go.D
namespace Go.D
open Go Go.Xe Go.Sx
section
variable {D :DM}{S N:Sx.Rows}{fr lv i g x y:Int}{K a b c p:Nat}
def Rl.node {G:Nat->Nat}(h:Rl G D S N fr lv)(hk:D.at x y=some c):∃s,D.L[c]? =some s/\x=c/\s.used=true/\(s.g:Int)=y/\0<=atF S x y/\atF S x y<N.length/\ ∀j,D1 N (atF S x y) j=(s.n.rn G).row.getD j (.int 0):=by obtain⟨T,M,rfl,rfl,h⟩:=h;obtain⟨s,r,h1,h2,h3,h4,f,e,k,d⟩:=h.at_ hk;have:=(QL.1 d).1;refine⟨s,h2,h1,h3,h4,by omega,by rw[Rc];omega,fun j=>?_⟩;rw[e,l6 d]
def DM.at_of {s:Sl}(hs:D.L[c]? =some s)(d:s.used=true):D.at c (D.gen c)=some c:=by unfold DM.at DM.gen;simp[hs,d]
def DM.at_gen (h:D.at x y=some c):∃s,D.L[c]? =some s/\s.used=true/\x=c/\y=s.g:=by unfold DM.at at h;split at h;split at h;rename_i h0 s hs;split at h;rename_i d;cases h;exact⟨s,hs,d.1,by omega,d.2.symm⟩;cases h;cases h;cases h
def Th:type_of% @DM.at_gen:=@DM.at_gen
def WF.u32 (w:WF D K)(h:D.at x y=some c):U32 x/\U32 y/\1<=y:=by obtain⟨s,h1,h2,rfl,rfl⟩:=Th h;have:=w.lim;have:=w.gen s (QT h1);have:=(QL.1 h1).1;unfold U32;omega
def HW (h:Rl D.gen D S N fr lv)(w:WF D K)(hk:D.at x y=some c):∃s,D.L[c]? =some s/\s.used=true/\0<=atF S x y/\atF S x y<N.length/\((s.n.par= -1/\cI N (atF S x y) 7=0/\cI N (atF S x y) 8=0)\/ ∃p:Nat,s.n.par=p/\D.at (cI N (atF S x y) 7) (cI N (atF S x y) 8)=some p/\ ∃sp,D.L[p]? =some sp/\sp.used=true/\c∈sp.n.ch):=by
 obtain⟨s,h1,h2,h3,h4,o,q,f⟩:=h.node hk;have l:cI N (atF S x y) 7=hI s.n.par:=by unfold cI;rw[f];rfl
 have m:cI N (atF S x y) 8=hG' D.gen s.n.par:=by unfold cI;rw[f];rfl
 refine⟨s,h1,h3,o,q,?_⟩;rw[l,m];rcases w.par c s h1 h3 with e| ⟨p,sp,e,j,k,d⟩;rw[e];exact .inl ⟨rfl,rfl,rfl⟩
 ·refine .inr ⟨p,e,?_,sp,j,k,d⟩;rw[e];have:hI (p:Int)=p:=by unfold hI;rw[Re (by omega)]
  rw[this];have:hG' D.gen (p:Int)=D.gen p:=by unfold hG';rw[Re (by omega)];rfl
  rw[this];exact DM.at_of j k
def MF (h:Rl D.gen D S N fr lv)(w:WF D K){r:Nat->Nat}(hr:∀(i:Nat) s,D.L[i]? =some s->s.used=true-> ∀j∈s.n.ch,r i<r j):∀(n:Nat) {x y:Int} {c:Nat},D.at x y=some c->r c<=n-> ∀f d,n+1<f->n+1<d->upC S N f x y=upC S N d x y:=by
 intro n;induction n using Nat.strongRecOn with
 |ind n v=>
  intro x y c hk hn f d hf u;obtain⟨f,rfl⟩:∃k,f=k+1:=⟨f-1,by omega⟩
  obtain⟨d,rfl⟩:∃k,d=k+1:=⟨d-1,by omega⟩
  have hy:=(w.u32 hk).2.2;unfold upC;rw[Re (by omega),Re (by omega)];obtain⟨s,h1,h2,_,_,⟨_,e,l⟩| ⟨p,h3,h4,sp,o,q,t⟩⟩:=HW h w hk
  ·rw[e,l];have:∀m,0<m->upC S N m 0 0=0:=fun m hm=>by
    obtain⟨m,rfl⟩:∃k,m=k+1:=⟨m-1,by omega⟩
    unfold upC;simp
   rw[this f (by omega),this d (by omega)]
  have:=hr p sp o q c t;rw[v (r p) (by omega) h4 (Ri _) f d (by omega) (by omega)]
def Abv.inv (h:Abv D a b):a=b\/ ∃(p:Nat) (s:Sl),D.L[b]? =some s/\s.n.par=p/\Abv D a p:=by
 cases h with
 |here=>exact .inl rfl|up _ p s h hp k=>exact .inr ⟨p,s,h,hp,k⟩
def vcAbo_ok :vcAbo:=by
 unfold vcAbo;intro i g j k S fr lv _ _ _ _ _ _ _ _ st N h;obtain⟨hi,hg,hj,hk,D,K,a,b,m,d,n,hb⟩:=h;have J:S.length<=1000:=by obtain⟨T,M,rfl,rfl,h⟩:=m;rw[Rc,h.len];have:=d.lim;omega
 refine⟨⟨hj,hk,fun D K a b _ _ _ hb=>.inr ⟨b,hb,Iff.rfl⟩⟩,fun _ x y hI=>?_⟩;obtain⟨ux,uy,hI⟩:=hI;have G:(¬(x=0/\y=0)-> ∀D K a b,RlE D S N->WF D K->D.at i g=some a->D.at j k=some b-> ∃c,D.at x y=some c/\(Abv D a b↔Abv D a c)):=fun hn D K a b h1 h2 h3 h4=>(hI D K a b h1 h2 h3 h4).resolve_left fun h=>hn ⟨h.1,h.2.1⟩;have B:¬(x=0/\y=0)-> ¬(x=i/\y=g)-> ∀c0 o q t u v w z,vcAbo1 S x y fr lv c0 o q t u v w z st N i g j k:=by
  intro hn V c0 o q t u v w z;unfold vcAbo1;refine⟨by omega,fun _=>⟨rfl,fun _=>⟨⟨ux,uy,J⟩,fun _ p hp=>?_⟩⟩⟩;have hp:p=atF S x y:=hp;subst hp;obtain⟨c,h1,_⟩:=G hn D K a b ⟨_,_,m⟩ d n hb;obtain⟨s,h2,h3,h4,W,H⟩:=HW m d h1;refine⟨by omega,fun _=>⟨W,fun _=>⟨⟨?_,?_,?_⟩,fun _=>⟨?_,fun _=>trivial⟩⟩⟩⟩;rcases H with⟨_,f,l⟩| ⟨p,_,C,_⟩;rw[f];exact⟨by omega,by omega⟩;exact(d.u32 C).1;rcases H with⟨_,f,l⟩| ⟨p,_,C,_⟩;rw[l];exact⟨by omega,by omega⟩;exact(d.u32 C).2.1
  ·intro D K a b m d n hb;obtain⟨c,h1,Q⟩:=G hn D K a b m d n hb;obtain⟨Y,ab,m⟩:=m;obtain⟨s,h2,h3,h4,W,H⟩:=HW m d h1;have I:a≠c:=fun e=>by subst e;obtain⟨s1,F,X,rfl,rfl⟩:=Th h1;obtain⟨s2,R,q4,rfl,rfl⟩:=Th n;rw[F]at R;cases R;exact V ⟨rfl,rfl⟩
   rcases H with⟨e0,f,l⟩| ⟨p,hp,C,_⟩;refine .inl ⟨f,l,fun E=>?_⟩;rcases(Q.1 E).inv with h| ⟨p,s',F,X,_⟩;exact I h;rw[h2]at F;cases F;omega
   ·refine .inr ⟨p,C,Q.trans ⟨fun E=>?_,fun E=>.up c p s h2 hp E⟩⟩;rcases E.inv with h| ⟨p',s',F,X,R⟩;exact absurd h I
    ·rw[h2]at F;cases F;have:p=p':=by omega
     rw[this];exact R
  ·show upC S N 1002 _ _<upC S N 1002 x y;have:upC S N 1002 x y=upC S N 1001 (cI N (atF S x y) 7) (cI N (atF S x y) 8)+1:=by
    conv=>lhs;unfold upC
    rw[Re hn]
   rw[this];rcases H with⟨_,f,l⟩| ⟨p,_,C,sp,Q,Z,U⟩;rw[f,l];unfold upC;simp;obtain⟨r,L,O⟩:=d.rank;have:=L p;have:=d.lim;have:=O p sp Q Z c U;have:=L c;rw[MF m d O (r p) C (Ri _) 1002 1001 (by omega) (by omega)];omega
 have yes:¬(x=0/\y=0)->vcAbo2 x i y g j k S fr lv=vcAbo2 x i y g j k S fr lv:=fun _=>rfl;have A:∀c0 o q t u v w z,(x=0/\y=0)\/(x=i/\y=g)->vcAbo0 i g j k S fr lv c0 o q t u v w z st N x y:=by intro c0 o q t u v w z hc;unfold vcAbo0;refine⟨?_,fun _=>trivial⟩;intro D K a b m d n hb;have aa:=(d.u32 n).2.2;simp only[QJ,Rg];rcases hc with⟨rfl,rfl⟩| ⟨rfl,rfl⟩;refine⟨fun h=>by omega,fun E=>?_⟩;rcases hI D K a b ⟨_,_,m⟩ d n hb with⟨_,_,h⟩| ⟨c,h1,_⟩;exact absurd E h;have:=(d.u32 h1).2.2;omega;refine⟨fun _=>?_,fun _=>⟨rfl,rfl⟩⟩;rcases hI D K a b ⟨_,_,m⟩ d n hb with⟨_,h,_⟩| ⟨c,h1,h2⟩;omega;rw[n]at h1;cases h1;exact h2.2 .here
 have P:∀c0 o q t u v w z,¬(x=0/\y=0)->vcAbo2 x i y g j k S fr lv c0 o q t u v w z st N:=by intro c0 o q t u v w z hn;unfold vcAbo2;exact⟨fun f=>⟨fun l=>A _ _ _ _ _ _ _ _ (.inr ⟨f,l⟩),fun l=>B hn (fun h=>l h.2) ..⟩,fun f=>B hn (fun h=>f h.1) ..⟩
 exact⟨fun f=>⟨fun l=>A _ _ _ _ _ _ _ _ (.inl ⟨f,l⟩),fun l=>P _ _ _ _ _ _ _ _ fun h=>l h.2⟩,fun f=>P _ _ _ _ _ _ _ _ fun h=>f h.1⟩
