/- The conditions of contracts, as the engine's printer has written them, and that the kernel comes to the same.
  Conditions: none. -/
import Derived.Test.YtgmiikiinbaapaaGreatG3
import Derived.Test.YtgmiikiinbaapaaGreatRows
import Derived.KernelRfl
set_option linter.all false
set_option maxRecDepth 100000
namespace Go.D
open Go Go.Xe Go.Sx
def vcFrc0 (n:Nat)(a:Sx.Rows)(d:Bool)(b c:Sx.Rows)(f g:Int)(h:Sx.Rows)(i j k l m o p q r s:Int)(t u v w:Sx.Rows)(x y z A B C D F G H:Int)(I J:Sx.Rows):Prop:=
 Nq (ln a)<|Nd (¬d=true)<|Nq (ln b)<|Nq (ln c)<|Nd (rL (.int f::.int g::.lst h::J10 i j k l m o p q r s [.lst t,.lst u,.lst v,.lst w]) (.lst a::J10 x y z A B C D F G H [.lst I,.lst J,.lst b,.lst c])) True
def vcFrc (n:Nat):Prop:=
 ∀a h b j i k l m o p q r s Z c d f,(rK (.int a::.int h::.lst b::J10 j i k l m o p q r s [.lst Z,.lst c,.lst d,.lst f])/\wK (.int a::.int h::.lst b::J10 j i k l m o p q r s [.lst Z,.lst c,.lst d,.lst f])<n+1)->Nd ((¬a<0)/\a<18446744073709551616) (Nd ((¬ln b<0)/\ln b<18446744073709551616)<|(a<ln b->Nb a (ln b) (Nd (a<ln b)<|(cB b a 1=true->Nd (a<ln b) ((cI b a 0=h->Nd (a<ln b) (Nd (a<ln b)<|Nd (a<ln b)<|Nd (I64 (i+(-1)))<|Nd (a<ln b)<|(cI b a 0<4294967295->Nd (a<ln b) (Nd (a<ln b)<|Nb a (ln b)<|Nd (a<ln b)<|Nd (I64 a)<|Nd (I64 (a+1))<|Ni (ln d)<|Nd (ln d+1<67108865)<|Nr (ln d)<|Ni (ln f)<|Nd (ln f+1<67108865)<|Nr (ln f)<|Nb (cI b a 3) (ln c)<|Nq (ln b)<|Nq (ln d+1)<|Nq (ln f+1)<|Nd (iN (.lst c::.lst (cL c (cI b a 3) 9)::.lst (a8 (a8 (a8 (a8 b a 1 (.bool false)) a 3 (.int (-1))) a 0 (.int (IntKind.wrap .u32 (cI b a 0+1)))) a 2 (.int j))::J10 (a+1) (i+(-1)) k l m o p q r s [.lst (d++b8 2 1 [.int a,.int h]),.lst (f++b8 1 1 [.int (cI b a 3)])]) (.lst c::.int 0::.lst (a8 (a8 (a8 (a8 b a 1 (.bool false)) a 3 (.int (-1))) a 0 (.int (IntKind.wrap .u32 (cI b a 0+1)))) a 2 (.int j))::J10 (a+1) (i+(-1)) k l m o p q r s [.bool false,.lst Z,.lst (d++b8 2 1 [.int a,.int h]),.lst (f++b8 1 1 [.int (cI b a 3)])]))<|
 ∀w g t x y z A B C D F G H J I u v,iN (.lst c::.lst (cL c (cI b a 3) 9)::.lst (a8 (a8 (a8 (a8 b a 1 (.bool false)) a 3 (.int (-1))) a 0 (.int (IntKind.wrap .u32 (cI b a 0+1)))) a 2 (.int j))::J10 (a+1) (i+(-1)) k l m o p q r s [.lst (d++b8 2 1 [.int a,.int h]),.lst (f++b8 1 1 [.int (cI b a 3)])]) (.lst w::.int g::.lst t::J10 x y z A B C D F G H [.bool J,.lst I,.lst u,.lst v])->((g<ln (cL c (cI b a 3) 9)->Nb g (ln (cL c (cI b a 3) 9)) (Nq (ln t)<|Nd (¬J=true)<|Nq (ln u)<|Nq (ln v)<|Nd (rK (.int (cI (cL c (cI b a 3) 9) g 0)::.int (cI (cL c (cI b a 3) 9) g 1)::.lst t::J10 x y z A B C D F G H [.lst I,.lst w,.lst u,.lst v])/\wK (.int (cI (cL c (cI b a 3) 9) g 0)::.int (cI (cL c (cI b a 3) 9) g 1)::.lst t::J10 x y z A B C D F G H [.lst I,.lst w,.lst u,.lst v])<n)<|
 ∀K N O P Q R S T U V W X Y L M,rL (.int (cI (cL c (cI b a 3) 9) g 0)::.int (cI (cL c (cI b a 3) 9) g 1)::.lst t::J10 x y z A B C D F G H [.lst I,.lst w,.lst u,.lst v]) (.lst K::J10 N O P Q R S T U V W [.lst X,.lst Y,.lst L,.lst M])->Nd (I64 (g+1)) (Nq (ln K)<|Nq (ln L)<|Nq (ln M)<|Nd (iN (.lst c::.lst (cL c (cI b a 3) 9)::.lst (a8 (a8 (a8 (a8 b a 1 (.bool false)) a 3 (.int (-1))) a 0 (.int (IntKind.wrap .u32 (cI b a 0+1)))) a 2 (.int j))::J10 (a+1) (i+(-1)) k l m o p q r s [.lst (d++b8 2 1 [.int a,.int h]),.lst (f++b8 1 1 [.int (cI b a 3)])]) (.lst Y::.int (g+1)::.lst K::J10 N O P Q R S T U V W [.bool false,.lst X,.lst L,.lst M]))<|
 Nd (Cf (.lst c::.lst (cL c (cI b a 3) 9)::.lst (a8 (a8 (a8 (a8 b a 1 (.bool false)) a 3 (.int (-1))) a 0 (.int (IntKind.wrap .u32 (cI b a 0+1)))) a 2 (.int j))::J10 (a+1) (i+(-1)) k l m o p q r s [.lst (d++b8 2 1 [.int a,.int h]),.lst (f++b8 1 1 [.int (cI b a 3)])]) (.lst Y::.int (g+1)::.lst K::J10 N O P Q R S T U V W [.bool false,.lst X,.lst L,.lst M])<Cf (.lst c::.lst (cL c (cI b a 3) 9)::.lst (a8 (a8 (a8 (a8 b a 1 (.bool false)) a 3 (.int (-1))) a 0 (.int (IntKind.wrap .u32 (cI b a 0+1)))) a 2 (.int j))::J10 (a+1) (i+(-1)) k l m o p q r s [.lst (d++b8 2 1 [.int a,.int h]),.lst (f++b8 1 1 [.int (cI b a 3)])]) (.lst w::.int g::.lst t::J10 x y z A B C D F G H [.bool J,.lst I,.lst u,.lst v])) True)))/\(¬g<ln (cL c (cI b a 3) 9)->vcFrc0 n t J u v a h b j i k l m o p q r s Z c d f x y z A B C D F G H I w))))/\(¬cI b a 0<4294967295->Ni (ln d) (Nd (ln d+1<67108865)<|Nr (ln d)<|Ni (ln f)<|Nd (ln f+1<67108865)<|Nr (ln f)<|Nb (cI b a 3) (ln c)<|Nq (ln b)<|Nq (ln d+1)<|Nq (ln f+1)<|Nd (iN (.lst c::.lst (cL c (cI b a 3) 9)::.lst (a8 (a8 b a 1 (.bool false)) a 3 (.int (-1)))::J10 j (i+(-1)) k l m o p q r s [.lst (d++b8 2 1 [.int a,.int h]),.lst (f++b8 1 1 [.int (cI b a 3)])]) (.lst c::.int 0::.lst (a8 (a8 b a 1 (.bool false)) a 3 (.int (-1)))::J10 j (i+(-1)) k l m o p q r s [.bool false,.lst Z,.lst (d++b8 2 1 [.int a,.int h]),.lst (f++b8 1 1 [.int (cI b a 3)])]))<|
 ∀w g t x y z A B C D F G H J I u v,iN (.lst c::.lst (cL c (cI b a 3) 9)::.lst (a8 (a8 b a 1 (.bool false)) a 3 (.int (-1)))::J10 j (i+(-1)) k l m o p q r s [.lst (d++b8 2 1 [.int a,.int h]),.lst (f++b8 1 1 [.int (cI b a 3)])]) (.lst w::.int g::.lst t::J10 x y z A B C D F G H [.bool J,.lst I,.lst u,.lst v])->((g<ln (cL c (cI b a 3) 9)->Nb g (ln (cL c (cI b a 3) 9)) (Nq (ln t)<|Nd (¬J=true)<|Nq (ln u)<|Nq (ln v)<|Nd (rK (.int (cI (cL c (cI b a 3) 9) g 0)::.int (cI (cL c (cI b a 3) 9) g 1)::.lst t::J10 x y z A B C D F G H [.lst I,.lst w,.lst u,.lst v])/\wK (.int (cI (cL c (cI b a 3) 9) g 0)::.int (cI (cL c (cI b a 3) 9) g 1)::.lst t::J10 x y z A B C D F G H [.lst I,.lst w,.lst u,.lst v])<n)<|
 ∀K N O P Q R S T U V W X Y L M,rL (.int (cI (cL c (cI b a 3) 9) g 0)::.int (cI (cL c (cI b a 3) 9) g 1)::.lst t::J10 x y z A B C D F G H [.lst I,.lst w,.lst u,.lst v]) (.lst K::J10 N O P Q R S T U V W [.lst X,.lst Y,.lst L,.lst M])->Nd (I64 (g+1)) (Nq (ln K)<|Nq (ln L)<|Nq (ln M)<|Nd (iN (.lst c::.lst (cL c (cI b a 3) 9)::.lst (a8 (a8 b a 1 (.bool false)) a 3 (.int (-1)))::J10 j (i+(-1)) k l m o p q r s [.lst (d++b8 2 1 [.int a,.int h]),.lst (f++b8 1 1 [.int (cI b a 3)])]) (.lst Y::.int (g+1)::.lst K::J10 N O P Q R S T U V W [.bool false,.lst X,.lst L,.lst M]))<|
 Nd (Cf (.lst c::.lst (cL c (cI b a 3) 9)::.lst (a8 (a8 b a 1 (.bool false)) a 3 (.int (-1)))::J10 j (i+(-1)) k l m o p q r s [.lst (d++b8 2 1 [.int a,.int h]),.lst (f++b8 1 1 [.int (cI b a 3)])]) (.lst Y::.int (g+1)::.lst K::J10 N O P Q R S T U V W [.bool false,.lst X,.lst L,.lst M])<Cf (.lst c::.lst (cL c (cI b a 3) 9)::.lst (a8 (a8 b a 1 (.bool false)) a 3 (.int (-1)))::J10 j (i+(-1)) k l m o p q r s [.lst (d++b8 2 1 [.int a,.int h]),.lst (f++b8 1 1 [.int (cI b a 3)])]) (.lst w::.int g::.lst t::J10 x y z A B C D F G H [.bool J,.lst I,.lst u,.lst v])) True)))/\(¬g<ln (cL c (cI b a 3) 9)->vcFrc0 n t J u v a h b j i k l m o p q r s Z c d f x y z A B C D F G H I w))))))/\(¬cI b a 0=h->Ni (ln d) (Nd (ln d+1<67108865)<|Nr (ln d)<|Ni (ln f)<|Nd (ln f+1<67108865)<|Nr (ln f) False))))/\(¬cB b a 1=true->Ni (ln d) (Nd (ln d+1<67108865)<|Nr (ln d)<|Ni (ln f)<|Nd (ln f+1<67108865)<|Nr (ln f) False))))/\(¬a<ln b->Ni (ln d) (Nd (ln d+1<67108865)<|Nr (ln d)<|Ni (ln f)<|Nd (ln f+1<67108865)<|Nr (ln f) False)))
def vcFrc_eq (n:Nat):kq Go.Proofs.Tryz.prog (cFrc.below wK (n+1)) MN ((53,cFrc.below wK n)::Ot 0) (Oi 0) 53=vcFrc n:=by kernel_rfl
end Go.D
noncomputable section
namespace Go.D
open Go Go.Xe Go.Sx
section
variable {D :DM}{S N:Sx.Rows}{fr lv i g:Int}{K c:Nat}{G:Nat->Nat}{T:List RS}{M:List RN}
def Ja (w:WF D K){r:Nat->Nat}(h1:∀i,r i<=K)(hr:∀(i:Nat) s,D.L[i]? =some s->s.used=true-> ∀j∈s.n.ch,r i<r j):∀(n:Nat) {c:Nat} {s:Sl},D.L[c]? =some s->s.used=true->K-r c<=n-> ∀f b,n<f->n<b->bel D f c=bel D b c:=by
 intro n;induction n with
 |zero=>
  intro c s hs d hn f b hf h;obtain⟨f,rfl⟩:∃k,f=k+1:=⟨f-1,by omega⟩
  obtain⟨b,rfl⟩:∃k,b=k+1:=⟨b-1,by omega⟩
  unfold bel;rw[QK hs];cases e:s.n.ch with
  |nil=>rfl|cons a l=>have:=hr c s hs d a (by simp[e]);have:=h1 a;omega
 |succ n m=>
  intro c s hs d hn f b hf h;obtain⟨f,rfl⟩:∃k,f=k+1:=⟨f-1,by omega⟩
  obtain⟨b,rfl⟩:∃k,b=k+1:=⟨b-1,by omega⟩
  unfold bel;rw[QK hs];congr 1;rw[List.flatMap_def,List.flatMap_def];congr 1;refine List.map_congr_left fun j hj=>?_;obtain⟨sj,k1,k2,_⟩:=(w.ch c s hs d).2 j hj;have:=hr c s hs d j hj;have:=h1 j;exact m k1 k2 (by omega) f b (by omega) (by omega)
def aJ (w:WF D K){s:Sl}(hs:D.L[c]? =some s)(a:s.used=true):bel D 1001 c=c::s.n.ch.flatMap (bel D 1001):=by
 obtain⟨r,h1,hr⟩:=w.rank;have lim:=w.lim;rw[Ja w h1 hr K hs a (by omega) 1001 1002 (by omega) (by omega)]
 conv=>lhs;unfold bel
 rw[QK hs]
def sH {L:List Sl}{q:Sl->Sl}(hq:∀s,(q s).used=false):∀ {c:Nat} {s:Sl},L[c]? =some s->s.used=true->(L.modify c q).countP (·.used)+1=L.countP (·.used):=by
 induction L with
 |nil=>intro c s h;simp at h
 |cons a L d=>
  intro c s h b;cases c with
  |zero=>simp at h;subst h;simp[List.countP_cons,b,hq]|succ c=>simp at h;have:=d h b;simp[List.countP_cons];omega
def RlT.lose (h:RlT G D T M fr lv){s:Sl}(hs:D.L[c]? =some s)(n:s.used=true):RlT G (z7 D c) (T.modify c fun r=>⟨r.g+1,false,fr, -1⟩) M (c+1) (lv-1):=by
 obtain⟨r,hr,hg,l,_⟩:=h.row c s hs;have hc:c∉D.free:=fun m=>by obtain⟨u,k1,k2⟩:=h.free.unused c m;rw[hr]at k1;cases k1;rw[l,n]at k2;cases k2
 have get:∀j,(z7 D c).L[j]? =if c=j then D.L[j]?.map (fun s=>⟨s.g+1,false,C0 0 [] []⟩)else D.L[j]? :=fun j=>j8 ..
 refine⟨by unfold z7;simpa using h.len,fun j sj hj=>?_,fun a b t rb d hb o p e=>?_,⟨rfl,⟨r.g+1,false,fr, -1⟩,by rw[j8,OY rfl,hr];rfl,rfl,h.free.mod hc⟩,List.nodup_cons.2 ⟨hc,h.nodup⟩,fun j sj hj hn=>?_,?_⟩
 ·rw[get]at hj;simp only[j8];by_cases e:c=j
  ·subst e;rw[OY rfl,hs]at hj;cases hj;exact⟨⟨r.g+1,false,fr, -1⟩,by rw[OY rfl,hr];rfl,by simp[hg],rfl,fun h=>by simp at h⟩
  ·rw[OW e]at hj⊢;exact h.row j sj hj
 ·simp only[j8]at d hb;by_cases f:c=a
  ·rw[OY f]at d;subst f;rw[hr]at d;cases d;simp at o
  ·by_cases k:c=b
   ·rw[OY k]at hb;subst k;rw[hr]at hb;cases hb;simp at p
   ·rw[OW f]at d;rw[OW k]at hb;exact h.inj a b t rb d hb o p e
 ·rw[get]at hj;by_cases e:c=j
  ·subst e;exact List.mem_cons_self
  ·rw[OW e]at hj;exact PL _ (h.all j sj hj hn)
 ·rw[h.lv];have:=sH (q:=fun s=>⟨s.g+1,false,C0 0 [] []⟩) (fun _=>rfl) hs n;unfold z7;simp only;omega
end
end Go.D
