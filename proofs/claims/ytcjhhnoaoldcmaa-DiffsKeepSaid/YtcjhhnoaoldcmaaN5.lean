/- The reference's Check, weigh, the diff of any two trees: the conditions hold.
  Conditions: none. -/
import Derived.Test.YtcjhhnoaoldcmaaN3
import Derived.Test.YtcjhhnoaoldcmaaN2
import Derived.Test.YtcjhhnoaoldcmaaC3
set_option linter.unusedVariables false
set_option linter.unusedSimpArgs false
namespace Go.D
open Go Go.Xe Go.Sx
open Go.C36 (row j8 lis cLong cRlong longPre longRel rlongPre rlongRel)
variable {c:List Tree}
theorem ct_inv {lv i n:Int}:ctInv [.lst (rows c),.int lv] [.int i,.int n]↔0<=i/\i<=(c.length:Int)/\1<=lv/\1<=n/\n<=1000+64*lv/\(n<=64↔AllAs (c.take i.toNat)/\(Tree.depths (c.take i.toNat):Int)+1<=lv/\Tree.sizes (c.take i.toNat)+1<=64)/\(n<=64->n=Tree.sizes (c.take i.toNat)+1):=by
 simp only[ctInv,ln,bC0,rows_eq,bJ1]
theorem ct_step {lv i n m:Int}{a:Tree}(h:ctInv [.lst (rows c),.int lv] [.int i,.int n])(d:c[i.toNat]? =some a)(hn:¬64<n)(q:1<=m)(r:m<=1000+64*(lv+(-1)))(hm:m<=64↔Fits a (lv+(-1)))(b:m<=64->m=a.size):ctInv [.lst (rows c),.int lv] [.int (i+1),.int (n+m)]:=by
 obtain⟨h0,h1,h2,h3,h4,h5,g⟩:=ct_inv.1 h
 have hi:=(bA4.1 d).1
 have en:=g (by omega)
 obtain⟨f,l,o⟩:=h5.1 (by omega)
 refine ct_inv.2 ⟨by omega,by omega,h2,by omega,by omega,?_,?_⟩
 ·rw[take_step h0 d,AllAs_app,depths_app,sizes_app,one_s,one_d]
  constructor
  ·intro hs
   obtain⟨e,j,k⟩:=hm.1 (by omega)
   have:=b (by omega)
   refine⟨⟨f,e,trivial⟩,by omega,by omega⟩
  ·rintro ⟨⟨k1,k2,_⟩,k3,p⟩
   have:=b (hm.2 ⟨k2,by omega,by omega⟩)
   omega
 ·intro hs
  have:=b (by omega)
  rw[take_step h0 d,sizes_app,one_s];omega
theorem vcRcnt_ok (N:Nat):vcRcnt N:=by
 unfold vcRcnt
 rintro _ _ _ _ _ _ lv ⟨⟨h0,E,s,rfl,rfl,rfl,rfl,rfl,rfl⟩,l⟩
 have l:lv.toNat<N+1:=l
 have hd:=depth_def s
 have hz:=size_def s
 have no:∀n:Int,64<n->n<=1000+64*lv-> ¬Fits s lv->rcntRel [.int s.k,.str s.t,.str s.y,.lst (s.a.map Att.row),.str s.x,.lst (rows s.c),.int lv] [.int n]:=fun n h1 h2 h3=>by
  refine⟨by omega,h2,fun a d=>?_⟩
  rw[isT_self]at d
  subst d
  exact⟨⟨fun c=>by omega,fun c=>absurd c h3⟩,fun c=>by omega⟩
 simp only[Nd,oneRel,isT_self,forall_eq,I64]
 refine⟨fun hl=>⟨no _ (by omega) (by omega) fun f=>by have:=f.2.1;omega,fun _=>trivial⟩,fun hl=>⟨⟨s,rfl,rfl,rfl,rfl,rfl,rfl⟩,fun _ b hb=>⟨fun q=>?_,fun p=>⟨no _ (by omega) (by omega) fun f=>p (hb.2 ((AllA_iff s).1 f.1).1),fun _=>trivial⟩⟩⟩⟩
 have j:=hb.1 q
 have u:=(alone_c j).1
 refine⟨ct_inv.2 ⟨by omega,by omega,by omega,by omega,by omega,by simp[AllAs,Tree.depths,Tree.sizes];omega,by simp[Tree.sizes]⟩,fun _ i n hi=>?_⟩
 obtain⟨i0,i1,F,w,i4,o,r⟩:=ct_inv.1 hi
 have D:ln (rows s.c)=(s.c.length:Int):=by simp[ln]
 simp only[D]
 refine⟨fun g=>⟨fun e=>⟨no n e i4 fun f=>?_,fun _=>trivial⟩,fun e=>?_⟩,fun g=>⟨?_,fun _=>trivial⟩⟩
 ·have v:=((AllA_iff s).1 f.1).2
  have:=depths_le s.c i.toNat
  have:=sizes_le s.c i.toNat
  have:=o.2 ⟨AllAs_take v _,by have:=f.2.1;omega,by have:=f.2.2;omega⟩
  omega
 ·obtain⟨a,d⟩:=Sx.get_at i0 g
  simp only[cI,cS,cL,cell_rows d,t0,t1,t2,t3,t4,t5,n7,i5,C9,rcntRel,rcntPre,rcntMu,isT_self,forall_eq,exists_eq,bH2,bG8]
  refine⟨by omega,fun _=>⟨g,fun _=>⟨⟨by omega,by omega⟩,fun _=>⟨⟨⟨by omega,by omega⟩,by omega⟩,fun _ m ⟨z,A,B,C⟩=>⟨⟨by omega,by omega⟩,fun _=>⟨⟨by omega,by omega⟩,fun _=>⟨ct_step hi d e z A B C,fun _=>⟨?_,fun _=>trivial⟩⟩⟩⟩⟩⟩⟩⟩
  show(((rows s.c).length:Int)-(i+1)).toNat<(((rows s.c).length:Int)-i).toNat
  rw[bC0];omega
 ·rw[take_full (by omega)]at o r
  refine⟨w,i4,fun a d=>?_⟩
  rw[isT_self]at d
  subst d
  refine⟨⟨fun h=>?_,fun f=>?_⟩,fun h=>by have:=r h;omega⟩
  ·obtain⟨k1,k2,k3⟩:=o.1 h
   exact⟨(AllA_iff _).2 ⟨j,k1⟩,by omega,by omega⟩
  ·exact o.2 ⟨((AllA_iff _).1 f.1).2,by have:=f.2.1;omega,by have:=f.2.2;omega⟩
theorem vcRchk_ok :vcRchk:=by
 unfold vcRchk
 rintro _ _ _ _ _ _ ⟨s,rfl,rfl,rfl,rfl,rfl,rfl⟩
 simp only[Nd,rcntRel,rcntPre,rchkRel,chkRel,isT_self,forall_eq,exists_eq,bH2,bG8,bG3]
 have V:Fits s 6↔Valid s:=⟨fun f=>⟨f.1,f.2.2,by have:=f.2.1;omega⟩,fun v=>⟨v.1,by have:=v.2.2;omega,v.2.1⟩⟩
 refine⟨⟨by omega,by omega⟩,fun _ n ⟨b,d,a,e⟩=>⟨fun h=>⟨no14 fun v=>?_,.inr trivial⟩,fun h=>⟨fun h0=>by omega,fun h0=>?_⟩⟩⟩
 ·have:=a.2 (V.2 v);omega
 ·exact⟨⟨fun _=>V.1 (a.1 (by omega)),fun _=>trivial⟩,.inl trivial⟩
open Go Go.Xe Go.Sx
open Go.C36 (row j8 lis cLong cRlong longPre longRel rlongPre rlongRel)
theorem vcMat2_ok :vcMat2:=by
 unfold vcMat2
 rintro _ _ ⟨o,n,rfl,rfl,F,hn⟩
 have s0:spInv [.lst (rows o)] [.int 0,.lst [],.lst []]:=sp_inv.2 ⟨by omega,by omega,fun k t=>by simp[bef];rfl,fun s hs=>⟨by simp[mhasR,lastIx],fun h=>by simp[lastIx]at h⟩⟩
 refine⟨s0,fun _ i S T hi=>?_⟩
 obtain⟨i0,i1,l,m⟩:=sp_inv.1 hi
 simp only[Nd,Nr,Ni,ln,I64,cI,cS,cB,cL,bC0,chunk1]
 refine⟨fun hi=>⟨by omega,fun _=>⟨hi,fun _=>?_⟩⟩,fun hi=>?_⟩
 ·obtain⟨c,hc⟩:=Sx.get_at i0 hi
  have b:=spot_at hc
  have hb:=bef_le (o.take i.toNat) c.k c.t
  rw[bD6]at hb
  have mu:∀A B C D:Dat,spMu [.lst (rows o)] [.int (i+1),A,B]<spMu [.lst (rows o)] [.int i,C,D]:=fun _ _ _ _=>by simp only[spMu,slMu,bC0];omega
  have a:=there_step i0 m (by rw[b];rfl)
  simp only[cell_rows hc,t0,t1,t2,n7,i5]
  refine⟨fun hy=>?_,fun hy=>?_⟩
  ·have g:=l c.k c.t
   rw[<-hy]at g
   have f:=fun v w=>entry_set [.i c.k,.s c.t,.s c.y,.i 0] v w S
   simp only[bE4,bJ8,bD3,Nat.reduceAdd]at f
   simp only[g,n7,f]
   have hm:=midx_lt [.i c.k,.s c.t,.s c.y,.i 0] (.int (bef (o.take i.toNat) c.k c.t:Nat)) S
   rw[b]at a
   unfold spk at a
   rw[bC3 hy]at a
   have st:=sp_inv.2 ⟨by omega,by omega,seen_step i0 hc l hy,a⟩
   exact⟨⟨by omega,by omega⟩,fun _=>⟨by omega,fun _=>⟨by omega,fun _=>⟨⟨by omega,by omega⟩,fun _=>⟨st,fun _=>⟨mu _ _ _ _,fun _=>trivial⟩⟩⟩⟩⟩⟩
  ·rw[b]at a
   unfold spk at a
   rw[bC1 hy]at a
   have st:=sp_inv.2 ⟨by omega,by omega,seen_keep i0 hc l hy,a⟩
   exact⟨⟨by omega,by omega⟩,fun _=>⟨st,fun _=>⟨mu _ _ _ _,fun _=>trivial⟩⟩⟩
 ·have x:i.toNat=o.length:=by omega
  rw[x]at m
  refine⟨by omega,fun _=>⟨by omega,fun _=>⟨by omega,fun _=>⟨by omega,fun _=>⟨so_inv.2 ⟨by omega,by omega,by simp,fun k t=>by simp[bef];rfl,by simp⟩,fun _ O j S' hj=>?_⟩⟩⟩⟩⟩
  obtain⟨e,G,z,d,hp⟩:=so_inv.1 hj
  refine⟨fun hj=>⟨by omega,fun _=>⟨hj,fun _=>?_⟩⟩,fun hj=>?_⟩
  ·obtain⟨c,hc⟩:=Sx.get_at e hj
   have b:=spot_at hc
   have hb:=bef_le (n.take j.toNat) c.k c.t
   rw[bD6]at hb
   have mu:∀A B C D:Dat,soMu [.lst (rows n),.lst T] [A,.int (j+1),B]<soMu [.lst (rows n),.lst T] [C,.int j,D]:=fun _ _ _ _=>by simp only[soMu,bC0];omega
   have stp:∀v:Int,lkT T (spotAt n j.toNat)=v->(Sx.over O j [[.int v]]).length=n.length/\(Sx.over O j [[.int v]]).take (j+1).toNat=((List.range (j+1).toNat).map fun q=>lkT T (spotAt n q)).map row:=fun v E=>by
    rw[over1 e (by omega)]
    refine⟨by rw[List.length_set];exact z,?_⟩
    rw[take_set e (by omega),hp,v8 e,List.range_succ,bE8,bE8]
    simp[E,row]
   simp only[cell_rows hc,t0,t1,t2,n7,i5]
   refine⟨fun hy=>?_,fun hy=>?_⟩
   ·have g:=d c.k c.t
    rw[<-hy]at g
    have f:=fun v w=>entry_set [.i c.k,.s c.t,.s c.y,.i 0] v w S'
    simp only[bE4,bJ8,bD3,Nat.reduceAdd]at f
    simp only[g,n7,f]
    have hm:=midx_lt [.i c.k,.s c.t,.s c.y,.i 0] (.int (bef (n.take j.toNat) c.k c.t:Nat)) S'
    have hk:spotAt n j.toNat=[.i c.k,.s c.t,.s c.y,.i (bef (n.take j.toNat) c.k c.t:Nat)]:=by rw[b];unfold spk;rw[bC3 hy]
    rw[hk]at stp
    unfold lkT at stp
    refine⟨⟨by omega,by omega⟩,fun _=>⟨by omega,fun _=>⟨by omega,fun _=>⟨fun hh=>?_,fun hh=>?_⟩⟩⟩⟩
    ·obtain⟨q1,q2⟩:=stp _ (bC3 hh)
     exact⟨by omega,fun _=>⟨by omega,fun _=>⟨by omega,fun _=>⟨by omega,fun _=>⟨⟨by omega,by omega⟩,fun _=>⟨by omega,fun _=>⟨so_inv.2 ⟨by omega,by omega,q1,seen_step e hc d hy,q2⟩,fun _=>⟨mu _ _ _ _,fun _=>trivial⟩⟩⟩⟩⟩⟩⟩⟩
    ·obtain⟨q1,q2⟩:=stp _ (bC1 hh)
     exact⟨by omega,fun _=>⟨by omega,fun _=>⟨by omega,fun _=>⟨by omega,fun _=>⟨⟨by omega,by omega⟩,fun _=>⟨by omega,fun _=>⟨so_inv.2 ⟨by omega,by omega,q1,seen_step e hc d hy,q2⟩,fun _=>⟨mu _ _ _ _,fun _=>trivial⟩⟩⟩⟩⟩⟩⟩⟩
   ·have hk:spotAt n j.toNat=[.i c.k,.s c.t,.s c.y,.i 0]:=by rw[b];unfold spk;rw[bC1 hy]
    rw[hk]at stp
    unfold lkT at stp
    refine⟨fun hh=>?_,fun hh=>?_⟩
    ·obtain⟨q1,q2⟩:=stp _ (bC3 hh)
     exact⟨by omega,fun _=>⟨by omega,fun _=>⟨by omega,fun _=>⟨by omega,fun _=>⟨⟨by omega,by omega⟩,fun _=>⟨by omega,fun _=>⟨so_inv.2 ⟨by omega,by omega,q1,seen_keep e hc d hy,q2⟩,fun _=>⟨mu _ _ _ _,fun _=>trivial⟩⟩⟩⟩⟩⟩⟩⟩
    ·obtain⟨q1,q2⟩:=stp _ (bC1 hh)
     exact⟨by omega,fun _=>⟨by omega,fun _=>⟨by omega,fun _=>⟨by omega,fun _=>⟨⟨by omega,by omega⟩,fun _=>⟨by omega,fun _=>⟨so_inv.2 ⟨by omega,by omega,q1,seen_keep e hc d hy,q2⟩,fun _=>⟨mu _ _ _ _,fun _=>trivial⟩⟩⟩⟩⟩⟩⟩⟩
  ·refine⟨by omega,fun _=>⟨trivial,fun _=>⟨by omega,fun _=>⟨fun o' n' r u=>?_,fun _=>trivial⟩⟩⟩⟩
   obtain rfl:=rows_eq.mp r
   obtain rfl:=rows_eq.mp u
   have p:j.toNat=n.length:=by omega
   have:Sx.part O 0 (n.length:Int)=O.take j.toNat:=by simp[Sx.part,p]
   rw[this,hp,p]
   unfold mtch
   congr 1
   exact List.map_congr_left fun q hq=>lk_there m (spot_len (List.mem_range.1 hq))
end Go.D
