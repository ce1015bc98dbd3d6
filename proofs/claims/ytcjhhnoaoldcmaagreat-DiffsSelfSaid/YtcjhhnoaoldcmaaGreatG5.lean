/- The reference's Check, weigh, the diff of any two trees: the conditions hold.
  Conditions: none. -/
import Derived.Test.YtcjhhnoaoldcmaaGreatG3
import Derived.Test.YtcjhhnoaoldcmaaGreatD8
set_option linter.unusedVariables false
set_option linter.unusedSimpArgs false
namespace Go.D
open Go Go.Xe Go.Sx
open Go.C36 (row j0 lis cLong cRlong longPre longRel rlongPre rlongRel)
variable {c:List Tree}
theorem ct_inv {lv i n:Int}:ctInv [.lst (rows c),.int lv] [.int i,.int n]↔0<=i/\i<=(c.length:Int)/\1<=lv/\1<=n/\n<=1000+64*lv/\(n<=64↔AllAs (c.take i.toNat)/\(Tree.depths (c.take i.toNat):Int)+1<=lv/\Tree.sizes (c.take i.toNat)+1<=64)/\(n<=64->n=Tree.sizes (c.take i.toNat)+1):=by
 simp only[ctInv,ln,bH0,rows_eq,bO9]
theorem ct_step {lv i n m:Int}{a:Tree}(h:ctInv [.lst (rows c),.int lv] [.int i,.int n])(d:c[i.toNat]? =some a)(hn:¬64<n)(r:1<=m)(s:m<=1000+64*(lv+(-1)))(hm:m<=64↔Fits a (lv+(-1)))(b:m<=64->m=a.size):ctInv [.lst (rows c),.int lv] [.int (i+1),.int (n+m)]:=by
 obtain⟨h0,h1,h2,h3,h4,g,j⟩:=ct_inv.1 h
 have hi:=(bF4.1 d).1
 have en:=j (by omega)
 obtain⟨f,o,p⟩:=g.1 (by omega)
 refine ct_inv.2 ⟨by omega,by omega,h2,by omega,by omega,?_,?_⟩
 ·rw[take_step h0 d,AllAs_app,depths_app,sizes_app,one_s,one_d]
  constructor
  ·intro hs
   obtain⟨e,k,l⟩:=hm.1 (by omega)
   have:=b (by omega)
   refine⟨⟨f,e,trivial⟩,by omega,by omega⟩
  ·rintro ⟨⟨k1,k2,_⟩,k3,q⟩
   have:=b (hm.2 ⟨k2,by omega,by omega⟩)
   omega
 ·intro hs
  have:=b (by omega)
  rw[take_step h0 d,sizes_app,one_s];omega
theorem vcRcnt_ok (N:Nat):vcRcnt N:=by
 unfold vcRcnt
 rintro _ _ _ _ _ _ lv ⟨⟨h0,F,s,rfl,rfl,rfl,rfl,rfl,rfl⟩,l⟩
 have l:lv.toNat<N+1:=l
 have G:=depth_def s
 have hz:=size_def s
 have no:∀n:Int,64<n->n<=1000+64*lv-> ¬Fits s lv->rcntRel [.int s.k,.str s.t,.str s.y,.lst (s.a.map Att.row),.str s.x,.lst (rows s.c),.int lv] [.int n]:=fun n h1 h2 h3=>by
  refine⟨by omega,h2,fun a d=>?_⟩
  rw[isT_self]at d
  subst d
  exact⟨⟨fun c=>by omega,fun c=>absurd c h3⟩,fun c=>by omega⟩
 simp only[Nd,oneRel,isT_self,forall_eq,I64]
 refine⟨fun hl=>⟨no _ (by omega) (by omega) fun f=>by have:=f.2.1;omega,fun _=>trivial⟩,fun hl=>⟨⟨s,rfl,rfl,rfl,rfl,rfl,rfl⟩,fun _ b hb=>⟨fun q=>?_,fun p=>⟨no _ (by omega) (by omega) fun f=>p (hb.2 ((AllA_iff s).1 f.1).1),fun _=>trivial⟩⟩⟩⟩
 have j:=hb.1 q
 have v:=(alone_c j).1
 refine⟨ct_inv.2 ⟨by omega,by omega,by omega,by omega,by omega,by simp[AllAs,Tree.depths,Tree.sizes];omega,by simp[Tree.sizes]⟩,fun _ i n hi=>?_⟩
 obtain⟨i0,i1,H,z,r,o,u⟩:=ct_inv.1 hi
 have E:ln (rows s.c)=(s.c.length:Int):=by simp[ln]
 simp only[E]
 refine⟨fun g=>⟨fun e=>⟨no n e r fun f=>?_,fun _=>trivial⟩,fun e=>?_⟩,fun g=>⟨?_,fun _=>trivial⟩⟩
 ·have w:=((AllA_iff s).1 f.1).2
  have:=depths_le s.c i.toNat
  have:=sizes_le s.c i.toNat
  have:=o.2 ⟨AllAs_take w _,by have:=f.2.1;omega,by have:=f.2.2;omega⟩
  omega
 ·obtain⟨a,d⟩:=Sx.get_at i0 g
  simp only[cI,cS,cL,cell_rows d,t0,t1,t2,t3,t4,t5,i5,j7,I7,rcntRel,rcntPre,rcntMu,isT_self,forall_eq,exists_eq,bM4,bL9]
  refine⟨by omega,fun _=>⟨g,fun _=>⟨⟨by omega,by omega⟩,fun _=>⟨⟨⟨by omega,by omega⟩,by omega⟩,fun _ m ⟨A,B,C,D⟩=>⟨⟨by omega,by omega⟩,fun _=>⟨⟨by omega,by omega⟩,fun _=>⟨ct_step hi d e A B C D,fun _=>⟨?_,fun _=>trivial⟩⟩⟩⟩⟩⟩⟩⟩
  show(((rows s.c).length:Int)-(i+1)).toNat<(((rows s.c).length:Int)-i).toNat
  rw[bH0];omega
 ·rw[take_full (by omega)]at o u
  refine⟨z,r,fun a d=>?_⟩
  rw[isT_self]at d
  subst d
  refine⟨⟨fun h=>?_,fun f=>?_⟩,fun h=>by have:=u h;omega⟩
  ·obtain⟨k1,k2,k3⟩:=o.1 h
   exact⟨(AllA_iff _).2 ⟨j,k1⟩,by omega,by omega⟩
  ·exact o.2 ⟨((AllA_iff _).1 f.1).2,by have:=f.2.1;omega,by have:=f.2.2;omega⟩
theorem vcRchk_ok :vcRchk:=by
 unfold vcRchk
 rintro _ _ _ _ _ _ ⟨s,rfl,rfl,rfl,rfl,rfl,rfl⟩
 simp only[Nd,rcntRel,rcntPre,rchkRel,chkRel,isT_self,forall_eq,exists_eq,bM4,bL9,bL4]
 have V:Fits s 6↔Valid s:=⟨fun f=>⟨f.1,f.2.2,by have:=f.2.1;omega⟩,fun v=>⟨v.1,by have:=v.2.2;omega,v.2.1⟩⟩
 refine⟨⟨by omega,by omega⟩,fun _ n ⟨b,d,a,e⟩=>⟨fun h=>⟨no14 fun v=>?_,.inr trivial⟩,fun h=>⟨fun h0=>by omega,fun h0=>?_⟩⟩⟩
 ·have:=a.2 (V.2 v);omega
 ·exact⟨⟨fun _=>V.1 (a.1 (by omega)),fun _=>trivial⟩,.inl trivial⟩
end Go.D
noncomputable section
namespace Go.D
open Go.Xe Go.Sx
open Go.C36 (row j0 lis cLong cRlong longPre longRel rlongPre rlongRel)
def equPre :List Dat->Prop
 | [.int k,.str t,.str y,.lst a,.str x,.lst c,.int k',.str t',.str y',.lst a',.str x',.lst c']=>(∃s:Tree,isT s k t y a x c/\AllA s)/\ ∃s':Tree,isT s' k' t' y' a' x' c'/\AllA s'
 |_=>False
def equRel :List Dat->List Dat->Prop
 | [.int k,.str t,.str y,.lst a,.str x,.lst c,.int k',.str t',.str y',.lst a',.str x',.lst c'],[.int n]=>∀s s':Tree,isT s k t y a x c->isT s' k' t' y' a' x' c'->(s=s'->n=1)/\(s≠s'->n=0)
 |_,_=>False
def equMu :List Dat->Nat
 | [_,_,_,_,_,.lst c,_,_,_,_,_,_]=>szRs c
 |_=>0
def cEqu:=mkC "equ" [nV,nV] equPre [iV] equRel
def samPre:=t2Pre
def samRel :List Dat->List Dat->Prop
 | [.int k,.str t,.str y,.lst a,.str x,.lst c,.int k',.str t',.str y',.lst a',.str x',.lst c'],[.int n]=>∀s s':Tree,isT s k t y a x c->isT s' k' t' y' a' x' c'->(Valid s/\s=s'->n=1)/\(¬(Valid s/\s=s')->n=0)
 |_,_=>False
def cSam:=mkC "sam" [nV,nV] samPre [iV] samRel
def eaInv :List Dat->List Dat->Prop
 | [.lst L,.lst M],[.int i]=>0<=i/\i<=ln L/\ln L=ln M/\L.take i.toNat=M.take i.toNat
 |_,_=>False
def eaMu:=slMu
def ecInv:=eaInv
def ecMu:=slMu
def annsH :FuncId->List (Nat×(Fm->SS->M1))
 |36=>[(0,y5 U0 "ea" (y7 [(5,.int .i64)] nob) (gh2 (ghCell 2 3) (ghCell 3 3)) eaInv eaMu),(2,y5 U0 "ec" (y7 [(6,.int .i64)] nob) (gh2 (ghCell 2 5) (ghCell 3 5)) ecInv ecMu)]
 |_=>[]
def stageH :Nat->List (FuncId×Con)
 |0=>[(LVn,D1 "lives")]
 |_=>[(15,cRchk),(36,cEqu),(LVn,D1 "lives")]
def primsH (P:Program):P7:=[]
end Go.D
