/- The conditions of contracts, as the engine's printer has written them, and that the kernel comes to the same.
  Conditions: none. -/
import Derived.Test.YtoegfalhkackeaaGreatN8
set_option maxRecDepth 100000
set_option linter.all false
noncomputable section
namespace Go.D
open Go Go.Xe Go.Sx
def vcMag0 (p:Sx.Rows)(x1 x2 D F G H I J K L M N:Int)(O P:Sx.Rows)(x22 x23 r:Int)(s t:Ae)(u:Sx.Rows)(v:Ae)(w:Sx.Rows)(f g:Int)(h:Sx.Rows)(i j:Int)(k l:Sx.Rows)(x79:Int)(x80 x81:Ae)(x82:Sx.Rows)(x83:Ae)(x84:Sx.Rows)(x87 x88:Int):Prop:=
 Nq (ln p)<|Cg vT iJ (.int x1::.int x2::JD p D F G H I J K L M N O P) fun R=>∀x15 x16 x17 Q x19 x20 m,R [.int x15,.str x16,.str x17,.lst Q,.str x19,.lst x20,.int m]->Nq (ln p) (Cg AT tO (.int x22::.int x23::JD p D F G H I J K L M N O P) fun R=>∀a o,R [.lst a,.int o]->Nq (ln p) (Cg FE tD (.int x22::.int x23::JD p D F G H I J K L M N O P) fun R=>∀q S x28 x29 x30 x31 x32 x33 x34 x35 x36 x37 x38 x39,R (.int q::JD S x28 x29 x30 x31 x32 x33 x34 x35 x36 x37 x38 x39)->Nq (ln S) (Cg pL lK (.int r::.str s::.str t::.lst u::.str v::.lst w::JD S x28 x29 x30 x31 x32 x33 x34 x35 x36 x37 x38 x39) fun R=>∀x46 x47 x y T U z V W X Y Z x58 x59 x60 d,R (.int x46::.int x47::.int x::JD y T U z V W X Y Z x58 x59 x60 d)->Nq (ln y) (Cg AT tO (.int x46::.int x47::JD y T U z V W X Y Z x58 x59 x60 d) fun R=>∀c B,R [.lst c,.int B]->Nd (I64 (m+o)) (Nd (I64 ((m+o)+q))<|Nd (I64 (((m+o)+q)+x))<|Nd (I64 ((((m+o)+q)+x)+B))<|((((m+o)+q)+x)+B=0->Cg pV lR [.int r,.str s,.str t,.lst u,.str v,.lst w] (fun R=>∀x64 x65 x66 x67 x68 x69,R [.int x64,.str x65,.str x66,.lst x67,.str x68,.lst x69]->Nq (ln Q) (Cg BB lU [.int x15,.str x16,.str x17,.lst Q,.str x19,.lst x20,.int x64,.str x65,.str x66,.lst x67,.str x68,.lst x69] fun R=>∀x70,R [.int x70]->((x70=0->Nd (P1 [.int f,.int g,.lst h,.int i,.int j,.lst k,.lst l] [.bool false,.lst d]) True)/\(¬x70=0->((ln a=ln c->Cg AJ oZ [.int r,.str s,.str t,.lst u,.str v,.lst w] (fun R=>∀A,R [.int A]->Nd (I64 (2*A)) (Cg AJ oZ [.int x79,.str x80,.str x81,.lst x82,.str x83,.lst x84] fun R=>∀C,R [.int C]->Nd (I64 (2*A+C)) ((z=2*A+C->Nd (uE [.lst a,.lst c] [.int 0]) (∀b,uE [.lst a,.lst c] [.int b]->((b<ln a->Nb b (ln c) (Nd (I64 (ln a+(-1)))<|Nd (I64 ((ln a+(-1))-b))<|Nb ((ln a+(-1))-b) (ln a)<|(cI c b 0=cI a ((ln a+(-1))-b) 0->Nb b (ln c) ((cI c b 1=2->Nd (I64 (b+1)) (Nd (uE [.lst a,.lst c] [.int (b+1)])<|Nd (HW [.lst a,.lst c] [.int (b+1)]<HW [.lst a,.lst c] [.int b]) True))/\(¬cI c b 1=2->Nd (P1 [.int f,.int g,.lst h,.int i,.int j,.lst k,.lst l] [.bool false,.lst d]) True)))/\(¬cI c b 0=cI a ((ln a+(-1))-b) 0->Nd (P1 [.int f,.int g,.lst h,.int i,.int j,.lst k,.lst l] [.bool false,.lst d]) True)))/\(¬b<ln a->Nq (ln y) (Cg Mo Dl (.int x87::.int x88::.int r::.str s::.str t::.lst u::.str v::.lst w::JD y T U z V W X Y Z x58 x59 x60 d) fun R=>∀x89 x90,R [.bool x89,.int x90]->((x90=0->Cg pV lR [.int r,.str s,.str t,.lst u,.str v,.lst w] (fun R=>∀x91 x92 x93 x94 x95 x96,R [.int x91,.str x92,.str x93,.lst x94,.str x95,.lst x96]->Cg pV lR [.int x79,.str x80,.str x81,.lst x82,.str x83,.lst x84] (fun R=>∀x97 x98 x99 x100 x101 x102,R [.int x97,.str x98,.str x99,.lst x100,.str x101,.lst x102]->Cg BB lU [.int x91,.str x92,.str x93,.lst x94,.str x95,.lst x96,.int x97,.str x98,.str x99,.lst x100,.str x101,.lst x102] (fun R=>∀x103,R [.int x103]->(((x89==decide (x103=1))=true->Nd (Mu []) (∀x104,Dq [] [.bool x104]->Nd (P1 [.int f,.int g,.lst h,.int i,.int j,.lst k,.lst l] [.bool x104,.lst d]) True))/\(¬(x89==decide (x103=1))=true->Nd (P1 [.int f,.int g,.lst h,.int i,.int j,.lst k,.lst l] [.bool false,.lst d]) True))))))/\(¬x90=0->Nd (P1 [.int f,.int g,.lst h,.int i,.int j,.lst k,.lst l] [.bool false,.lst d]) True)))))))/\(¬z=2*A+C->Nd (P1 [.int f,.int g,.lst h,.int i,.int j,.lst k,.lst l] [.bool false,.lst d]) True)))))/\(¬ln a=ln c->Nd (P1 [.int f,.int g,.lst h,.int i,.int j,.lst k,.lst l] [.bool false,.lst d]) True)))))))/\(¬(((m+o)+q)+x)+B=0->Nd (P1 [.int f,.int g,.lst h,.int i,.int j,.lst k,.lst l] [.bool false,.lst d]) True))))))
def vcMag1 (a b c d f g:Int)(h:Sx.Rows)(i j:Int)(k l m o:Sx.Rows)(p q r s t u v w x y:Int)(z:Sx.Rows)(A B C:Int)(D F:Ae)(G:Sx.Rows)(H:Ae)(I:Sx.Rows)(J:Int)(K L:Ae)(M:Sx.Rows)(N:Ae)(O:Sx.Rows):Prop:=
 (a=b->((c=d->Nd (P1 [.int f,.int g,.lst h,.int i,.int j,.lst k,.lst l] [.bool false,.lst m]) True)/\(¬c=d->vcMag0 o b d p q r s t u v w x y z m A B C D F G H I f g h i j k l J K L M N O a c)))/\(¬a=b->vcMag0 o b d p q r s t u v w x y z m A B C D F G H I f g h i j k l J K L M N O a c)
def vcMag2 (a b c d f g:Int)(h:Sx.Rows)(i j:Int)(k l m:Sx.Rows)(o p:Int)(q:Sx.Rows)(r s t u v w x y z A:Int)(B:Sx.Rows)(C:Int)(D F:Ae)(G:Sx.Rows)(H:Ae)(I:Sx.Rows)(J:Int)(K L:Ae)(M:Sx.Rows)(N:Ae)(O:Sx.Rows):Prop:=
 (a=b->((c=d->Nd (P1 [.int f,.int g,.lst h,.int i,.int j,.lst k,.lst l] [.bool false,.lst m]) True)/\(¬c=d->vcMag1 o b p d f g h i j k l m q r s t u v w x y z A B a c C D F G H I J K L M N O)))/\(¬a=b->vcMag1 o b p d f g h i j k l m q r s t u v w x y z A B a c C D F G H I J K L M N O)
def vcMag :Prop:=
 ∀a b c d f g h,Mx [.int a,.int b,.lst c,.int d,.int f,.lst g,.lst h]->Nd (Gn []) (∀D W X Y Z x12 x13 x14 x15 x16 x17 x18,Gp [] (JE D W X Y Z x12 x13 x14 x15 x16 x17 x18)->Cg Cc qB [.int a,.int b,.lst c] (fun R=>∀q r s t u v,R [.int q,.str r,.str s,.lst t,.str u,.lst v]->Cg Cc qB [.int d,.int f,.lst g] (fun R=>∀w x y z A B,R [.int w,.str x,.str y,.lst z,.str A,.lst B]->Nq (ln D) (Cg pL lK (.int q::.str r::.str s::.lst t::.str u::.lst v::JD D W X Y Z x12 x13 x14 x15 x16 x17 x18 h) fun R=>∀i j k F x35 x36 x37 x38 x39 x40 x41 x42 x43 x44 x45 x46,R (.int i::.int j::.int k::JD F x35 x36 x37 x38 x39 x40 x41 x42 x43 x44 x45 x46)->Nq (ln F) (Cg pL lK (.int w::.str x::.str y::.lst z::.str A::.lst B::JD F x35 x36 x37 x38 x39 x40 x41 x42 x43 x44 x45 x46) fun R=>∀l m o G x51 x52 x53 x54 x55 x56 x57 x58 x59 x60 x61 x62,R (.int l::.int m::.int o::JD G x51 x52 x53 x54 x55 x56 x57 x58 x59 x60 x61 x62)->Nq (ln G) (Cg Fz AI (.int i::.int j::JD G x51 x52 x53 x54 x55 x56 x57 x58 x59 x60 x61 x62) fun R=>∀H I C J K L M N O P Q S T U V p,R (.int H::.int I::.int C::JD J K L M N O P Q S T U V p)->Nd (I64 (k+o)) (Nd (I64 ((k+o)+C))<|((k+o)+C=0->((i=l->((j=m->Nd (P1 [.int a,.int b,.lst c,.int d,.int f,.lst g,.lst h] [.bool false,.lst p]) True)/\(¬j=m->vcMag2 i H j I a b c d f g h p l m J K L M N O P Q S T U V q r s t u v w x y z A B)))/\(¬i=l->vcMag2 i H j I a b c d f g h p l m J K L M N O P Q S T U V q r s t u v w x y z A B)))/\(¬(k+o)+C=0->Nd (P1 [.int a,.int b,.lst c,.int d,.int f,.lst g,.lst h] [.bool false,.lst p]) True))))))))
def vcMag_eq :kq Go.Proofs.Tryz.prog cMag Lv (IU 0) (Io 0) 3=vcMag:=by kernel_rfl
def nx :Ah->Nat->Nat->Ah
 |_,_,0=>[]
 |i::f,n,k+1=>i::nx f n k| [],n,k+1=>n::nx [] (n+1) k
def Gq :∀ {f:Ah} {n a b:Nat},nx f n (a+b)=nx f n a++nx (f.drop a) (n+(a-f.length)) b
 |f,n,0,b=>by cases f<;>simp[nx]
 |i::f,n,a+1,b=>by rw[show a+1+b=a+b+1 by omega];simp only[nx,Uw,Gq (f:=f) (a:=a),List.drop_succ_cons,Ue];rw[show a+1-(f.length+1)=a-f.length by omega]| [],n,a+1,b=>by rw[show a+1+b=a+b+1 by omega];simp only[nx,Uw,Gq (f:=[]) (n:=n+1) (a:=a),List.drop_nil,Vh];rw[show n+1+(a-0)=n+(a+1-0) by omega]
def Bk :∀ {f:Ah} {n k:Nat},(nx f n k).length=k
 |f,n,0=>by cases f<;>rfl
 |i::f,n,k+1=>by simp only[nx,Ue,Bk]| [],n,k+1=>by simp only[nx,Ue,Bk]
def Ii :∀ {f l:Ah} {n:Nat},nx (f++l) n f.length=f
 | [],l,n=>by cases l<;>rfl
 |i::f,l,n=>by simp only[Uw,Ue,nx,Ii]
def Gr :∀ {f:Ah} {n k j:Nat},j∈nx f n k->j∈f\/n<=j/\j<n+(k-f.length)
 |f,n,0,j,h=>by cases f<;>simp[nx]at h
 |i::f,n,k+1,j,h=>by rcases TZ.1 h with rfl|h;exact .inl List.mem_cons_self;rcases Gr h with h|h;exact .inl (Ut _ h);exact .inr (by simp only[Ue];omega)
 | [],n,k+1,j,h=>by rcases TZ.1 h with rfl|h;exact .inr (by simp);rcases Gr h with h|h;simp at h;exact .inr (by simp at h⊢;omega)
abbrev DM.nx (D:DM)(k:Nat):Ah:=Go.D.nx D.free D.L.length k
def vw (D:DM)(j:Nat):Bb (Bool×Int×Str×List Att×Str×Ah):=D.L[j]?.map fun s=>(s.used,s.n.kind,s.n.tag,s.n.atts,s.n.text,s.n.ch)
mutual
def TA (D:DM):a9->Nat->Ah->Prop
 | .mk k t y a x c,i,l=>∃ks l',vw D i=some (true,k,t,a,x,ks)/\l=i::l'/\TAs D c ks l'
def TAs (D:DM):List a9->Ah->Ah->Prop
 | [],ks,l=>ks=[]/\l=[]
 |s::c,ks,l=>∃k ks' l1 l2,ks=k::ks'/\l=l1++l2/\TA D s k l1/\TAs D c ks' l2
end
section
variable {D D' D1 D2:DM}{K i j k r n m:Nat}{ex ex' ex2:Nat->Prop}{l ks:Ah}{s:a9}{c:List a9}
mutual
def TA.frame :∀(s:a9) {i:Nat} {l:Ah},TA D s i l->(∀j∈l,vw D' j=vw D j)->TA D' s i l
 | .mk k t y a x c,i,l,h,hv=>by unfold TA at h⊢;obtain⟨ks,l',h1,rfl,h3⟩:=h;exact⟨ks,l',(hv i List.mem_cons_self).trans h1,rfl,TAs.frame c h3 fun j hj=>hv j (Ut _ hj)⟩
def TAs.frame :∀(c:List a9) {ks l:Ah},TAs D c ks l->(∀j∈l,vw D' j=vw D j)->TAs D' c ks l
 | [],ks,l,h,hv=>by unfold TAs at h⊢;exact h|s::c,ks,l,h,hv=>by unfold TAs at h⊢;obtain⟨k,a,b,d,rfl,rfl,h3,h4⟩:=h;exact⟨k,a,b,d,rfl,rfl,TA.frame s h3 fun j hj=>hv j (Va _ hj),TAs.frame c h4 fun j hj=>hv j (UQ _ hj)⟩
end
mutual
def TA.used :∀(s:a9) {i:Nat} {l:Ah},TA D s i l-> ∀j∈l,∃sl,D.L[j]? =some sl/\sl.used=true
 | .mk k t y a x c,i,l,h,j,hj=>by unfold TA at h;obtain⟨ks,l',h1,rfl,h3⟩:=h;rcases TZ.1 hj with rfl|hj;unfold vw at h1;obtain⟨sl,h4,h5⟩:=UP.1 h1;exact⟨sl,h4,(Prod.mk.inj h5).1⟩;exact TAs.used c h3 j hj
def TAs.used :∀(c:List a9) {ks l:Ah},TAs D c ks l-> ∀j∈l,∃sl,D.L[j]? =some sl/\sl.used=true
 | [],ks,l,h,j,hj=>by unfold TAs at h;rw[h.2]at hj;cases hj
 |s::c,ks,l,h,j,hj=>by unfold TAs at h;obtain⟨k,a,b,d,rfl,rfl,h3,h4⟩:=h;rcases TY.1 hj with hj|hj;exact TA.used s h3 j hj;exact TAs.used c h4 j hj
end
def TA.head (h:TA D s i l):∃l',l=i::l':=by cases s;unfold TA at h;obtain⟨_,l',_,h,_⟩:=h;exact⟨l',h⟩
def Ot {v:Bool×Int×Str×List Att×Str×Ah}(h:vw D i=some v):(D.nod i).kind=v.2.1/\(D.nod i).tag=v.2.2.1/\(D.nod i).atts=v.2.2.2.1/\(D.nod i).text=v.2.2.2.2.1/\(D.nod i).ch=v.2.2.2.2.2:=by unfold vw at h;obtain⟨sl,h4,rfl⟩:=UP.1 h;rw[Vp h4];exact⟨rfl,rfl,rfl,rfl,rfl⟩
mutual
def TA.bel :∀(s:a9) {i:Nat} {l:Ah} {f:Nat},TA D s i l->s.depth<=f+1->bel D f i=l
 | .mk k t y a x c,i,l,f,h,hf=>by
  unfold TA at h;obtain⟨ks,l',h1,rfl,h3⟩:=h;simp only[a9.depth]at hf;cases f with
  |zero=>
   cases c with
   |nil=>unfold TAs at h3;rw[h3.2];rfl|cons s c=>cases s;simp only[a9.depths,a9.depth]at hf;omega
  |succ f=>unfold Go.D.bel;rw[(Ot h1).2.2.2.2];congr 1;exact TAs.bel c h3 (by omega)
def TAs.bel :∀(c:List a9) {ks l:Ah} {f:Nat},TAs D c ks l->a9.depths c<=f+1->ks.flatMap (Go.D.bel D f)=l
 | [],ks,l,f,h,hf=>by unfold TAs at h;rw[h.1,h.2];rfl|s::c,ks,l,f,h,hf=>by unfold TAs at h;obtain⟨k,a,b,d,rfl,rfl,h3,h4⟩:=h;simp only[a9.depths]at hf;rw[List.flatMap_cons,TA.bel s h3 (by omega),TAs.bel c h4 (by omega)]
end
mutual
def TA.tre :∀(s:a9) {i:Nat} {l:Ah} {f:Nat},TA D s i l->J3 s->s.depth<=f->J1 D f i=strip false s
 | .mk k t y a x c,i,l,f,h,b,hf=>by
  unfold TA at h;obtain⟨ks,l',h1,rfl,h3⟩:=h;simp only[a9.depth]at hf;unfold J3 at b;obtain⟨f,rfl⟩:∃q,f=q+1:=⟨f-1,by omega⟩
  obtain⟨e1,e2,e3,e4,e5⟩:=Ot h1;have hc:c.length<=16:=by rcases b.1 with h|h;have:c=[]:=h.2.2.2.2.2;simp[this];exact h.2.2.2.2.2.1
  obtain⟨d,e⟩:=TAs.tre c (f:=f) h3 b.2 (by omega);unfold J1;rw[e5];simp only at*;rw[TH (by omega),e1,e2,e3,e4,d];simp[strip]
def TAs.tre :∀(c:List a9) {ks l:Ah} {f:Nat},TAs D c ks l->AllAs c->a9.depths c<=f->ks.map (J1 D f)=strips false c/\ks.length=c.length
 | [],ks,l,f,h,a,hf=>by unfold TAs at h;rw[h.1];exact⟨rfl,rfl⟩|s::c,ks,l,f,h,a,hf=>by unfold TAs at h;obtain⟨k,b,g,o,rfl,rfl,h3,h4⟩:=h;simp only[a9.depths]at hf;unfold AllAs at a;obtain⟨d,e⟩:=TAs.tre c (f:=f) h4 a.2 (by omega);rw[Um,TA.tre s h3 a.1 (by omega),d];exact⟨rfl,by simp[e]⟩
end
structure Gw (D D':DM)(k:Nat)(ex:Nat->Prop):Prop where
 old:∀(j:Nat) sl,D.L[j]? =some sl->sl.used=true-> ¬ex j->D'.L[j]? =some sl
 free:D'.free=D.free.drop k
 len:D'.L.length=D.L.length+(k-D.free.length)
 cnt:D'.C.headD 0=D.C.headD 0+k
 gen:∀j,j<D.L.length->D'.gen j=D.gen j
 new:∀j,D.L.length<=j->j<D'.L.length->D'.gen j=1
def Gw.trans (h:Gw D D1 n ex)(h':Gw D1 D2 m ex')(hx:∀(j:Nat) sl,D.L[j]? =some sl->sl.used=true-> ¬ex2 j-> ¬ex j/\ ¬ex' j):Gw D D2 (n+m) ex2:=by
 have hl:=h.len;have b:=h'.len;have hf:D1.free.length=D.free.length-n:=by rw[h.free,Un]
 refine⟨fun j sl hj a he=>?_,?_,by omega,by rw[h'.cnt,h.cnt];omega,fun j hj=>(h'.gen j (by omega)).trans (h.gen j hj),fun j h1 h2=>?_⟩;obtain⟨e1,e2⟩:=hx j sl hj a he;exact h'.old j sl (h.old j sl hj a e1) a e2;rw[h'.free,h.free,List.drop_drop];by_cases hj:j<D1.L.length;rw[h'.gen j hj];exact h.new j h1 hj;exact h'.new j (by omega) h2
def Ij (w:WF D K)(h:j∈D.nx k){sl:Sl}(hs:D.L[j]? =some sl):sl.used=false:=by rcases Gr h with h|h;obtain⟨s,h1,h2⟩:=w.free.2 j h;rw[hs]at h1;cases h1;exact h2;have:=(Tn.1 hs).1;omega
def Gw.nx (h:Gw D D1 n ex):D.nx (n+m)=D.nx n++D1.nx m:=by show Go.D.nx _ _ _=_++Go.D.nx _ _ _;rw[Gq,h.free,h.len]
def Gw.vw (h:Gw D D' k ex){sl:Sl}(hs:D.L[j]? =some sl)(a:sl.used=true)(he:¬ex j):Go.D.vw D' j=Go.D.vw D j:=by unfold Go.D.vw;rw[h.old j sl hs a he,hs]
def Gw.ta (h:Gw D D' k ex)(ht:TA D s i l)(he:∀j∈l,¬ex j):TA D' s i l:=ht.frame s fun j hj=>by obtain⟨sl,h1,h2⟩:=ht.used s j hj;exact h.vw h1 h2 (he j hj)
