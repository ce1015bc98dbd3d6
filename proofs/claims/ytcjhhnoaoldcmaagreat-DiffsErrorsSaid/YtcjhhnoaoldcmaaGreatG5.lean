/- The reference's Check, weigh, the diff of any two trees: the conditions hold.
  Conditions: none. -/
import Derived.Test.YtcjhhnoaoldcmaaGreatG4
set_option linter.unusedVariables false
set_option linter.unusedSimpArgs false
namespace Go.D
open Go Go.Xe Go.Sx
open Go.C36 (row t6 lis cLong cRlong longPre longRel rlongPre rlongRel)
theorem ct_inv {c:List Tree}{lv i n:Int}:ctInv [.lst (rows c),.int lv] [.int i,.int n]↔0<=i/\i<=(c.length:Int)/\1<=lv/\1<=n/\n<=1000+64*lv/\(n<=64↔AllAs (c.take i.toNat)/\(Tree.depths (c.take i.toNat):Int)+1<=lv/\Tree.sizes (c.take i.toNat)+1<=64)/\(n<=64->n=Tree.sizes (c.take i.toNat)+1):=by
 simp only[ctInv,ln,bJ8,rows_eq,bR7]
theorem ct_step {c:List Tree}{lv i n m:Int}{a:Tree}(h:ctInv [.lst (rows c),.int lv] [.int i,.int n])(ha:c[i.toNat]? =some a)(hn:¬64<n)(m1:1<=m)(m2:m<=1000+64*(lv+(-1)))(hm:m<=64↔Fits a (lv+(-1)))(hm2:m<=64->m=a.size):ctInv [.lst (rows c),.int lv] [.int (i+1),.int (n+m)]:=by
 obtain⟨h0,h1,h2,h3,h4,h5,h6⟩:=ct_inv.1 h
 have hi:=(bI2.1 ha).1
 have en:=h6 (by omega)
 obtain⟨g1,g2,g3⟩:=h5.1 (by omega)
 refine ct_inv.2 ⟨by omega,by omega,h2,by omega,by omega,?_,?_⟩
 ·rw[take_step h0 ha,AllAs_app,depths_app,sizes_app,one_s,one_d]
  constructor
  ·intro hs
   obtain⟨f1,f2,f3⟩:=hm.1 (by omega)
   have:=hm2 (by omega)
   refine⟨⟨g1,f1,trivial⟩,by omega,by omega⟩
  ·rintro ⟨⟨k1,k2,_⟩,k3,k4⟩
   have:=hm2 (hm.2 ⟨k2,by omega,by omega⟩)
   omega
 ·intro hs
  have:=hm2 (by omega)
  rw[take_step h0 ha,sizes_app,one_s];omega
theorem vcRcnt_ok (N:Nat):vcRcnt N:=by
 unfold vcRcnt
 rintro _ _ _ _ _ _ lv ⟨⟨h0,h6,s,rfl,rfl,rfl,rfl,rfl,rfl⟩,hmu⟩
 have hmu:lv.toNat<N+1:=hmu
 have hd:=depth_def s
 have hz:=size_def s
 have no:∀n:Int,64<n->n<=1000+64*lv-> ¬Fits s lv->rcntRel [.int s.k,.str s.t,.str s.y,.lst (s.a.map Att.row),.str s.x,.lst (rows s.c),.int lv] [.int n]:=fun n h1 h2 h3=>by
  refine⟨by omega,h2,fun a ha=>?_⟩
  rw[isT_self]at ha
  subst ha
  exact⟨⟨fun c=>by omega,fun c=>absurd c h3⟩,fun c=>by omega⟩
 simp only[Nd,oneRel,isT_self,forall_eq,I64]
 refine⟨fun hl=>⟨no _ (by omega) (by omega) fun f=>by have:=f.2.1;omega,fun _=>trivial⟩,fun hl=>⟨⟨s,rfl,rfl,rfl,rfl,rfl,rfl⟩,fun _ b hb=>⟨fun hbt=>?_,fun hbf=>⟨no _ (by omega) (by omega) fun f=>hbf (hb.2 ((AllA_iff s).1 f.1).1),fun _=>trivial⟩⟩⟩⟩
 have hal:=hb.1 hbt
 have c16:=(alone_c hal).1
 refine⟨ct_inv.2 ⟨by omega,by omega,by omega,by omega,by omega,by simp[AllAs,Tree.depths,Tree.sizes];omega,by simp[Tree.sizes]⟩,fun _ i n hi=>?_⟩
 obtain⟨i0,i1,i2,i3,i4,i5,i6⟩:=ct_inv.1 hi
 have rl:ln (rows s.c)=(s.c.length:Int):=by simp[ln]
 simp only[rl]
 refine⟨fun hil=>⟨fun h64=>⟨no n h64 i4 fun f=>?_,fun _=>trivial⟩,fun h64=>?_⟩,fun hil=>⟨?_,fun _=>trivial⟩⟩
 ·have hA:=((AllA_iff s).1 f.1).2
  have:=depths_le s.c i.toNat
  have:=sizes_le s.c i.toNat
  have:=i5.2 ⟨AllAs_take hA _,by have:=f.2.1;omega,by have:=f.2.2;omega⟩
  omega
 ·obtain⟨a,ha⟩:=Sx.get_at i0 hil
  simp only[cI,cS,cL,cell_rows ha,t0,t1,t2,t3,t4,t5,f9,p9,I8,rcntRel,rcntPre,rcntMu,isT_self,forall_eq,exists_eq,bP2,bO7]
  refine⟨by omega,fun _=>⟨hil,fun _=>⟨⟨by omega,by omega⟩,fun _=>⟨⟨⟨by omega,by omega⟩,by omega⟩,fun _ m ⟨m1,m2,m3,m4⟩=>⟨⟨by omega,by omega⟩,fun _=>⟨⟨by omega,by omega⟩,fun _=>⟨ct_step hi ha h64 m1 m2 m3 m4,fun _=>⟨?_,fun _=>trivial⟩⟩⟩⟩⟩⟩⟩⟩
  show(((rows s.c).length:Int)-(i+1)).toNat<(((rows s.c).length:Int)-i).toNat
  rw[bJ8];omega
 ·rw[take_full (by omega)]at i5 i6
  refine⟨i3,i4,fun a ha=>?_⟩
  rw[isT_self]at ha
  subst ha
  refine⟨⟨fun h=>?_,fun f=>?_⟩,fun h=>by have:=i6 h;omega⟩
  ·obtain⟨k1,k2,k3⟩:=i5.1 h
   exact⟨(AllA_iff _).2 ⟨hal,k1⟩,by omega,by omega⟩
  ·exact i5.2 ⟨((AllA_iff _).1 f.1).2,by have:=f.2.1;omega,by have:=f.2.2;omega⟩
theorem vcRchk_ok :vcRchk:=by
 unfold vcRchk
 rintro _ _ _ _ _ _ ⟨s,rfl,rfl,rfl,rfl,rfl,rfl⟩
 simp only[Nd,rcntRel,rcntPre,rchkRel,chkRel,isT_self,forall_eq,exists_eq,bP2,bO7,bO2]
 have V:Fits s 6↔Valid s:=⟨fun f=>⟨f.1,f.2.2,by have:=f.2.1;omega⟩,fun v=>⟨v.1,by have:=v.2.2;omega,v.2.1⟩⟩
 refine⟨⟨by omega,by omega⟩,fun _ n ⟨n1,n2,n3,n4⟩=>⟨fun h=>⟨no14 fun v=>?_,.inr trivial⟩,fun h=>⟨fun h0=>by omega,fun h0=>?_⟩⟩⟩
 ·have:=n3.2 (V.2 v);omega
 ·exact⟨⟨fun _=>V.1 (n3.1 (by omega)),fun _=>trivial⟩,.inl trivial⟩
theorem vcWgh_ok (N:Nat):vcWgh N:=by
 unfold vcWgh
 rintro _ _ _ _ _ _ lv ⟨⟨h0,h8,s,rfl,rfl,rfl,rfl,rfl,rfl⟩,hmu⟩
 have hmu:lv.toNat<N+1:=hmu
 have rl:ln (rows s.c)=(s.c.length:Int):=by simp[ln]
 simp only[Nd,wghRel,wghPre,wghMu,wgInv,I64,rl,bP2,bO2]
 refine⟨fun h=>by omega,fun h=>⟨fun h2=>by omega,fun h2=>⟨fun h3=>by omega,fun h3=>⟨by omega,fun _ i n ⟨i0,i1,i2,i3,i4⟩=>⟨fun hil=>⟨fun h150=>by omega,fun h150=>?_⟩,fun hil=>by omega⟩⟩⟩⟩⟩
 obtain⟨a,ha⟩:=Sx.get_at i0 hil
 simp only[cI,cS,cL,cell_rows ha,t0,t1,t2,t3,t4,t5,f9,p9,I8,isT_self,exists_eq,bP2,bO7]
 refine⟨by omega,fun _=>⟨hil,fun _=>⟨⟨by omega,by omega⟩,fun _=>⟨⟨⟨by omega,by omega⟩,by omega⟩,fun _ m ⟨m1,m2⟩=>⟨⟨by omega,by omega⟩,fun _=>⟨⟨by omega,by omega⟩,fun _=>⟨by omega,fun _=>?_⟩⟩⟩⟩⟩⟩⟩
 show(((rows s.c).length:Int)-(i+1)).toNat<(((rows s.c).length:Int)-i).toNat
 rw[bJ8];omega
end Go.D
