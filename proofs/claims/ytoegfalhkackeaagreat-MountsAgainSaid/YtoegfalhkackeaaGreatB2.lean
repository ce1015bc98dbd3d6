/- The conditions of contracts, as the engine's printer has written them, and that the kernel comes to the same.
  Conditions: none. -/
import Derived.Test.YtoegfalhkackeaaGreatB0
import Derived.Test.YtoegfalhkackeaaGreatRows
set_option maxRecDepth 100000
set_option linter.all false
noncomputable section
namespace Go.D
open Go Go.Xe Go.Sx
def vcAt :Prop:=
 ∀a c b d f g h i j k l m o p,H8 (.int a::.int c::JE b d f g h i j k l m o p)->Nd ((¬a<0)/\a<18446744073709551616) (Nd ((¬ln b<0)/\ln b<18446744073709551616)<|(a<ln b->Nd (¬a<0) (Nd (a<ln b)<|Nd (a<ln b)<|(cB b a 1=true->Nd (a<ln b) ((cI b a 0=c->Nd (a<ln b) (Nd (G2 (.int a::.int c::JE b d f g h i j k l m o p) [.int (cI b a 3)]) True))/\(¬cI b a 0=c->Nd (G2 (.int a::.int c::JE b d f g h i j k l m o p) [.int (-1)]) True)))/\(¬cB b a 1=true->Nd (G2 (.int a::.int c::JE b d f g h i j k l m o p) [.int (-1)]) True)))/\(¬a<ln b->Nd (G2 (.int a::.int c::JE b d f g h i j k l m o p) [.int (-1)]) True))
def vcAt_eq :kr Go.Proofs.Tryz.prog cAt bD (BQ 0) (uS 0) 68=vcAt:=by kernel_rfl
def vcVld :Prop:=
 ∀a c b d f g h i j k l m o p,V9 (.int a::.int c::JE b d f g h i j k l m o p)->Nd ((¬a<0)/\a<18446744073709551616) (Nd ((¬ln b<0)/\ln b<18446744073709551616)<|(a<ln b->Nd (¬a<0) (Nd (a<ln b)<|Nd (a<ln b)<|(cB b a 1=true->Nd (a<ln b) ((cI b a 0=c->Nd (M5 (.int a::.int c::JE b d f g h i j k l m o p) [.bool true]) True)/\(¬cI b a 0=c->Nd (M5 (.int a::.int c::JE b d f g h i j k l m o p) [.bool false]) True)))/\(¬cB b a 1=true->Nd (M5 (.int a::.int c::JE b d f g h i j k l m o p) [.bool false]) True)))/\(¬a<ln b->Nd (M5 (.int a::.int c::JE b d f g h i j k l m o p) [.bool false]) True))
def vcVld_eq :kr Go.Proofs.Tryz.prog cVld bD (BQ 0) (uS 0) 97=vcVld:=by kernel_rfl
def vcPlc0 (a:Int)(b:Sx.Rows)(c d f:Int):Prop:=
 Nd (I64 (a+1))<|Nd (AV [.lst (cL b c 9),.int d,.int f] [.int (a+1)])<|Nd (Mi [.lst (cL b c 9),.int d,.int f] [.int (a+1)]<Mi [.lst (cL b c 9),.int d,.int f] [.int a]) True
def vcPlc1 (a:Int)(b:Sx.Rows)(d f:Int):Prop:=
 Nd (¬a<0)<|Nd (a<ln b)<|Nd (AV [.lst (cL b a 9),.int d,.int f] [.int 0])<|∀c,AV [.lst (cL b a 9),.int d,.int f] [.int c]->((c<ln (cL b a 9)->Nd (¬c<0) (Nd (c<ln (cL b a 9))<|(d=cI (cL b a 9) c 0->((f=cI (cL b a 9) c 1->Nd (cG [.int a,.int d,.int f,.lst b] [.int c]) True)/\(¬f=cI (cL b a 9) c 1->vcPlc0 c b a d f)))/\(¬d=cI (cL b a 9) c 0->vcPlc0 c b a d f)))/\(¬c<ln (cL b a 9)->Nd (cG [.int a,.int d,.int f,.lst b] [.int (-1)]) True))
def vcPlc :Prop:=
 ∀a b c d,eO [.int a,.int b,.int c,.lst d]->((b=0->((c=0->Nd (¬a<0) (Nd (a<ln d)<|Nd (cG [.int a,.int b,.int c,.lst d] [.int (ln (cL d a 9))]) True))/\(¬c=0->vcPlc1 a d b c)))/\(¬b=0->vcPlc1 a d b c))
def vcPlc_eq :kr Go.Proofs.Tryz.prog cPlc bD (BQ 0) (uS 0) 71=vcPlc:=by kernel_rfl
def vcAbo0 (a b c d:Int)(f:Sx.Rows)(g h i j k l m o p q:Int)(r s:Sx.Rows)(t u:Int):Prop:=
 Nd (Fp (.int a::.int b::.int c::.int d::JD f g h i j k l m o p q r s) [.bool (decide (t=a)&&decide (u=b))]) True
def vcAbo1 (b:Sx.Rows)(d f k l m o p q r s t u:Int)(v a:Sx.Rows)(g h i j:Int):Prop:=
 Ni (ln b)<|Nr (ln b)<|Nd (H8 (.int d::.int f::JE b k l m o p q r s t u v))<|∀c,G2 (.int d::.int f::JE b k l m o p q r s t u v) [.int c]->Nd (¬c<0) (Nd (c<ln a)<|Nd (AD [.lst b,.lst a,.int g,.int h,.int i,.int j] [.int (cI a c 7),.int (cI a c 8)])<|Nd (Ll [.lst b,.lst a,.int g,.int h,.int i,.int j] [.int (cI a c 7),.int (cI a c 8)]<Ll [.lst b,.lst a,.int g,.int h,.int i,.int j] [.int d,.int f]) True)
def vcAbo2 (a b c d f g:Int)(h:Sx.Rows)(i j k l m o p q r s:Int)(t u:Sx.Rows):Prop:=
 (a=b->((c=d->vcAbo0 b d f g h i j k l m o p q r s t u a c)/\(¬c=d->vcAbo1 h a c i j k l m o p q r s t u b d f g)))/\(¬a=b->vcAbo1 h a c i j k l m o p q r s t u b d f g)
def vcAbo :Prop:=
 ∀c d a b f j k l m o p q r s t u g,Fo (.int c::.int d::.int a::.int b::JD f j k l m o p q r s t u g)->Nd (AD [.lst f,.lst g,.int c,.int d,.int a,.int b] [.int a,.int b]) (∀h i,AD [.lst f,.lst g,.int c,.int d,.int a,.int b] [.int h,.int i]->((h=0->((i=0->vcAbo0 c d a b f j k l m o p q r s t u g h i)/\(¬i=0->vcAbo2 h c i d a b f j k l m o p q r s t u g)))/\(¬h=0->vcAbo2 h c i d a b f j k l m o p q r s t u g)))
def vcAbo_eq :kr Go.Proofs.Tryz.prog cAbo bD (BQ 1) (uS 1) 69=vcAbo:=by kernel_rfl
def vcAt_ok :vcAt:=by unfold vcAt;intro i g S _ _ _ _ _ _ _ _ _ _ _ h;obtain⟨h1,h2,h3⟩:=h;obtain⟨h1,h4⟩:=h1;simp only[Nd,G2,atF,K0,uM,uL,Ux,UG,UC,Uf,ln];refine⟨⟨by omega,by omega⟩,fun _=>⟨⟨by omega,by omega⟩,fun _=>⟨fun h5=>⟨by omega,fun _=>⟨h5,fun _=>⟨fun a=>⟨h5,fun _=>⟨fun b=>⟨h5,?_⟩,fun b=>?_⟩⟩,fun a=>?_⟩⟩⟩,fun h5=>?_⟩⟩⟩;simp only[cB]at a;simp[h1,h5,a,b];simp only[cI]at b;simp[b];simp only[cB]at a;simp[a];simp[h5]
def vcVld_ok :vcVld:=by unfold vcVld;intro i g S _ _ _ _ _ _ _ _ _ _ _ h;obtain⟨h1,h2,h3⟩:=h;obtain⟨h1,h4⟩:=h1;simp only[Nd,M5,K0,uM,uL,Ux,UG,UC,Uf,ln];refine⟨⟨by omega,by omega⟩,fun _=>⟨⟨by omega,by omega⟩,fun _=>⟨fun h5=>⟨by omega,fun _=>⟨h5,fun _=>⟨fun a=>⟨h5,fun _=>⟨fun b=>?_,fun b=>?_⟩⟩,fun a=>?_⟩⟩⟩,fun h5=>?_⟩⟩⟩;simp only[cB]at a;simp[h1,h5,a,b];simp only[cI]at b;simp[b];simp only[cB]at a;simp[a];simp[h5]
def Pi {i g:Int}:∀ {C:Sx.Rows} {k:Int},C=[]->ixF C i g k= -1
 |_,_,rfl=>rfl
variable {C:Sx.Rows}
def CR {k:Int}(h0:0<=k)(h1:k<C.length):∃r,C.drop k.toNat=r::C.drop (k+1).toNat/\ ∀j,D6 C k j=r.getD j (.int 0):=by have h:C[k.toNat]? =some (C[k.toNat]'(by omega)):=Tx (by omega);refine⟨_,by rw[HJ h,fA h0],fun j=>?_⟩;unfold D6;rw[List.getD_eq_getElem?_getD (l:=C),h];rfl
def tS {r:Ar}{i g k:Int}:ixF (r::C) i g k=if(r.getD 0 (.int 0)).toInt=i/\(r.getD 1 (.int 0)).toInt=g then k else ixF C i g (k+1):=rfl
def vcPlc_ok :vcPlc:=by
 unfold vcPlc;intro p i g N h;obtain⟨hi,hg,h0,h1,h2⟩:=h;have d:vcPlc1 p N i g\/(i=0/\g=0):=by
  by_cases e:i=0/\g=0;exact .inr e
  ·left;have e2:plF (cL N p 9) i g=ixF (cL N p 9) i g 0:=by unfold plF;rw[TH e]
   unfold vcPlc1;refine⟨by omega,fun _=>⟨h1,fun _=>⟨⟨by omega,by omega,by simp⟩,fun _ k hk=>?_⟩⟩⟩;obtain⟨k0,k1,k2⟩:=hk;have f:∀h5:k<ln (cL N p 9),(¬i=cI (cL N p 9) k 0\/ ¬g=cI (cL N p 9) k 1)->vcPlc0 k N p i g:=by intro h5 c;have h5:k<((cL N p 9).length:Int):=h5;obtain⟨r,r1,m⟩:=CR k0 h5;unfold vcPlc0;refine⟨⟨by omega,by omega⟩,fun _=>⟨⟨by omega,by omega,?_⟩,fun _=>⟨?_,fun _=>trivial⟩⟩⟩;rw[k2,r1];simp only[cI,m]at c;rw[tS,TH (by rintro ⟨a,b⟩;rcases c with h|h;exact h a.symm;exact h b.symm)];simp only[Mi,J9];omega
   refine⟨fun h5=>⟨by omega,fun _=>⟨h5,fun _=>⟨fun j=>⟨fun l=>⟨?_,fun _=>trivial⟩,fun l=>f h5 (.inr l)⟩,fun j=>f h5 (.inl j)⟩⟩⟩,fun h5=>⟨?_,fun _=>trivial⟩⟩;show k=_;obtain⟨r,r1,m⟩:=CR k0 h5;simp only[cI,m]at j l;rw[e2,k2,r1];rw[tS,TJ ⟨j.symm,l.symm⟩];have h5:¬k<((cL N p 9).length:Int):=h5;show(-1:Int)=_;rw[e2,k2,Pi (List.drop_eq_nil_of_le (by omega))]
 refine⟨fun e1=>⟨fun e2=>⟨by omega,fun _=>⟨h1,fun _=>⟨?_,fun _=>trivial⟩⟩⟩,fun e2=>d.resolve_right fun h=>e2 h.2⟩,fun e1=>d.resolve_right fun h=>e1 h.1⟩;show _=plF _ _ _;unfold plF;rw[TJ ⟨e1,e2⟩]
end Go.D
namespace Go.D
open Go Go.Xe Go.Sx
section
variable {D :DM}{S N:Sx.Rows}{fr lv i g x y:Int}{K a b c p:Nat}
def Rl.node {G:Nat->Nat}(h:Rl G D S N fr lv)(hk:D.at x y=some c):∃s,D.L[c]? =some s/\x=c/\s.used=true/\(s.g:Int)=y/\0<=atF S x y/\atF S x y<N.length/\ ∀j,D6 N (atF S x y) j=(s.n.rn G).row.getD j (.int 0):=by obtain⟨T,M,rfl,rfl,h⟩:=h;obtain⟨s,r,h1,h2,h3,h4,h5,e,f,d⟩:=h.at_ hk;have:=(Tn.1 d).1;refine⟨s,h2,h1,h3,h4,by omega,by rw[TG];omega,fun j=>?_⟩;rw[e,i9 d]
def DM.at_of {s:Sl}(hs:D.L[c]? =some s)(d:s.used=true):D.at c (D.gen c)=some c:=by unfold DM.at DM.gen;simp[hs,d]
def Vn:type_of% @DM.at_of:=@DM.at_of
def DM.at_gen (h:D.at x y=some c):∃s,D.L[c]? =some s/\s.used=true/\x=c/\y=s.g:=by unfold DM.at at h;split at h;split at h;rename_i h0 s hs;split at h;rename_i d;cases h;exact⟨s,hs,d.1,by omega,d.2.symm⟩;cases h;cases h;cases h
def Vm:type_of% @DM.at_gen:=@DM.at_gen
def WF.u32 (w:WF D K)(h:D.at x y=some c):U32 x/\U32 y/\1<=y:=by obtain⟨s,h1,h2,rfl,rfl⟩:=Vm h;have:=w.lim;have:=w.gen s (Tv h1);have:=(Tn.1 h1).1;unfold U32;omega
def IZ (h:Rl D.gen D S N fr lv)(w:WF D K)(hk:D.at x y=some c):∃s,D.L[c]? =some s/\s.used=true/\0<=atF S x y/\atF S x y<N.length/\((s.n.par= -1/\cI N (atF S x y) 7=0/\cI N (atF S x y) 8=0)\/ ∃p:Nat,s.n.par=p/\D.at (cI N (atF S x y) 7) (cI N (atF S x y) 8)=some p/\ ∃sp,D.L[p]? =some sp/\sp.used=true/\c∈sp.n.ch):=by
 obtain⟨s,h1,h2,h3,h4,h5,o,f⟩:=h.node hk;have l:cI N (atF S x y) 7=hI s.n.par:=by unfold cI;rw[f];rfl
 have m:cI N (atF S x y) 8=hG' D.gen s.n.par:=by unfold cI;rw[f];rfl
 refine⟨s,h1,h3,h5,o,?_⟩;rw[l,m];rcases w.par c s h1 h3 with e| ⟨p,sp,e,j,k,d⟩;rw[e];exact .inl ⟨rfl,rfl,rfl⟩
 ·refine .inr ⟨p,e,?_,sp,j,k,d⟩;rw[e];have:hI (p:Int)=p:=by unfold hI;rw[TH (by omega)]
  rw[this];have:hG' D.gen (p:Int)=D.gen p:=by unfold hG';rw[TH (by omega)];rfl
  rw[this];exact Vn j k
def Oo (h:Rl D.gen D S N fr lv)(w:WF D K){r:Nat->Nat}(hr:∀(i:Nat) s,D.L[i]? =some s->s.used=true-> ∀j∈s.n.ch,r i<r j):∀(n:Nat) {x y:Int} {c:Nat},D.at x y=some c->r c<=n-> ∀f d,n+1<f->n+1<d->upC S N f x y=upC S N d x y:=by
 intro n;induction n using Nat.strongRecOn with
 |ind n q=>
  intro x y c hk hn f d hf o;obtain⟨f,rfl⟩:∃k,f=k+1:=⟨f-1,by omega⟩
  obtain⟨d,rfl⟩:∃k,d=k+1:=⟨d-1,by omega⟩
  have hy:=(w.u32 hk).2.2;unfold upC;rw[TH (by omega),TH (by omega)];obtain⟨s,h1,h2,_,_,⟨_,e1,e2⟩| ⟨p,h3,h4,sp,h5,e,l⟩⟩:=IZ h w hk
  ·rw[e1,e2];have:∀m,0<m->upC S N m 0 0=0:=fun m hm=>by
    obtain⟨m,rfl⟩:∃k,m=k+1:=⟨m-1,by omega⟩
    unfold upC;simp
   rw[this f (by omega),this d (by omega)]
  have:=hr p sp h5 e c l;rw[q (r p) (by omega) h4 (TK _) f d (by omega) (by omega)]
def Abv.inv (h:Abv D a b):a=b\/ ∃(p:Nat) (s:Sl),D.L[b]? =some s/\s.n.par=p/\Abv D a p:=by
 cases h with
 |here=>exact .inl rfl|up _ p s h hp k=>exact .inr ⟨p,s,h,hp,k⟩
def vcAbo_ok :vcAbo:=by
 unfold vcAbo;intro i g j k S fr lv _ _ _ _ _ _ _ _ st N h;obtain⟨hi,hg,hj,hk,D,K,a,b,f,d,l,hb⟩:=h;have G:S.length<=1000:=by obtain⟨T,M,rfl,rfl,h⟩:=f;rw[TG,h.len];have:=d.lim;omega
 refine⟨⟨hj,hk,fun D K a b _ _ _ hb=>.inr ⟨b,hb,Iff.rfl⟩⟩,fun _ x y hI=>?_⟩;obtain⟨ux,uy,hI⟩:=hI;have C:(¬(x=0/\y=0)-> ∀D K a b,RlE D S N->WF D K->D.at i g=some a->D.at j k=some b-> ∃c,D.at x y=some c/\(Abv D a b↔Abv D a c)):=fun hn D K a b h1 h2 h3 h4=>(hI D K a b h1 h2 h3 h4).resolve_left fun h=>hn ⟨h.1,h.2.1⟩;have w:¬(x=0/\y=0)-> ¬(x=i/\y=g)-> ∀c0 m n c3 o q t u,vcAbo1 S x y fr lv c0 m n c3 o q t u st N i g j k:=by
  intro hn Q c0 m n c3 o q t u;unfold vcAbo1;refine⟨by omega,fun _=>⟨rfl,fun _=>⟨⟨ux,uy,G⟩,fun _ p hp=>?_⟩⟩⟩;have hp:p=atF S x y:=hp;subst hp;obtain⟨c,h1,_⟩:=C hn D K a b ⟨_,_,f⟩ d l hb;obtain⟨s,h2,h3,h4,h5,E⟩:=IZ f d h1;refine⟨by omega,fun _=>⟨h5,fun _=>⟨⟨?_,?_,?_⟩,fun _=>⟨?_,fun _=>trivial⟩⟩⟩⟩;rcases E with⟨_,e1,e2⟩| ⟨p,_,z,_⟩;rw[e1];exact⟨by omega,by omega⟩;exact(d.u32 z).1;rcases E with⟨_,e1,e2⟩| ⟨p,_,z,_⟩;rw[e2];exact⟨by omega,by omega⟩;exact(d.u32 z).2.1
  ·intro D K a b f d l hb;obtain⟨c,h1,L⟩:=C hn D K a b f d l hb;obtain⟨U,X,f⟩:=f;obtain⟨s,h2,h3,h4,h5,E⟩:=IZ f d h1;have F:a≠c:=fun e=>by subst e;obtain⟨s1,B,R,rfl,rfl⟩:=Vm h1;obtain⟨s2,O,Y,rfl,rfl⟩:=Vm l;rw[B]at O;cases O;exact Q ⟨rfl,rfl⟩
   rcases E with⟨e0,e1,e2⟩| ⟨p,hp,z,_⟩;refine .inl ⟨e1,e2,fun A=>?_⟩;rcases(L.1 A).inv with h| ⟨p,s',B,R,_⟩;exact F h;rw[h2]at B;cases B;omega
   ·refine .inr ⟨p,z,L.trans ⟨fun A=>?_,fun A=>.up c p s h2 hp A⟩⟩;rcases A.inv with h| ⟨p',s',B,R,O⟩;exact absurd h F
    ·rw[h2]at B;cases B;have:p=p':=by omega
     rw[this];exact O
  ·show upC S N 1002 _ _<upC S N 1002 x y;have:upC S N 1002 x y=upC S N 1001 (cI N (atF S x y) 7) (cI N (atF S x y) 8)+1:=by
    conv=>lhs;unfold upC
    rw[TH hn]
   rw[this];rcases E with⟨_,e1,e2⟩| ⟨p,_,z,sp,L,V,P⟩;rw[e1,e2];unfold upC;simp;obtain⟨r,H,I⟩:=d.rank;have:=H p;have:=d.lim;have:=I p sp L V c P;have:=H c;rw[Oo f d I (r p) z (TK _) 1002 1001 (by omega) (by omega)];omega
 have yes:¬(x=0/\y=0)->vcAbo2 x i y g j k S fr lv=vcAbo2 x i y g j k S fr lv:=fun _=>rfl;have v:∀c0 m n c3 o q t u,(x=0/\y=0)\/(x=i/\y=g)->vcAbo0 i g j k S fr lv c0 m n c3 o q t u st N x y:=by intro c0 m n c3 o q t u hc;unfold vcAbo0;refine⟨?_,fun _=>trivial⟩;intro D K a b f d l hb;have W:=(d.u32 l).2.2;simp only[Tl,TI];rcases hc with⟨rfl,rfl⟩| ⟨rfl,rfl⟩;refine⟨fun h=>by omega,fun A=>?_⟩;rcases hI D K a b ⟨_,_,f⟩ d l hb with⟨_,_,h⟩| ⟨c,h1,_⟩;exact absurd A h;have:=(d.u32 h1).2.2;omega;refine⟨fun _=>?_,fun _=>⟨rfl,rfl⟩⟩;rcases hI D K a b ⟨_,_,f⟩ d l hb with⟨_,h,_⟩| ⟨c,h1,h2⟩;omega;rw[l]at h1;cases h1;exact h2.2 .here
 have J:∀c0 m n c3 o q t u,¬(x=0/\y=0)->vcAbo2 x i y g j k S fr lv c0 m n c3 o q t u st N:=by intro c0 m n c3 o q t u hn;unfold vcAbo2;exact⟨fun e1=>⟨fun e2=>v _ _ _ _ _ _ _ _ (.inr ⟨e1,e2⟩),fun e2=>w hn (fun h=>e2 h.2) ..⟩,fun e1=>w hn (fun h=>e1 h.1) ..⟩
 exact⟨fun e1=>⟨fun e2=>v _ _ _ _ _ _ _ _ (.inl ⟨e1,e2⟩),fun e2=>J _ _ _ _ _ _ _ _ fun h=>e2 h.2⟩,fun e1=>J _ _ _ _ _ _ _ _ fun h=>e1 h.1⟩
