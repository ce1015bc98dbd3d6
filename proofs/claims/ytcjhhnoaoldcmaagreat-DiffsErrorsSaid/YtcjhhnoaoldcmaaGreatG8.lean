/- Which children match, as a list of its own: the condition holds.
  Conditions: none. -/
import Derived.Test.YtcjhhnoaoldcmaaGreatG7
import Derived.Test.YtcjhhnoaoldcmaaGreatC3
set_option linter.unusedVariables false
set_option linter.unusedSimpArgs false
namespace Go.D
open Go Go.Xe Go.Sx
open Go.C36 (row t6 lis cLong cRlong longPre longRel rlongPre rlongRel)
theorem vcMat2_ok :vcMat2:=by
 unfold vcMat2
 rintro _ _ ⟨o,n,rfl,rfl,ho,hn⟩
 have s0:spInv [.lst (rows o)] [.int 0,.lst [],.lst []]:=sp_inv.2 ⟨by omega,by omega,fun k t=>by simp[bef];rfl,fun s hs=>⟨by simp[mhasR,lastIx],fun h=>by simp[lastIx]at h⟩⟩
 refine⟨s0,fun _ i S T hi=>?_⟩
 obtain⟨i0,i1,hS,hT⟩:=sp_inv.1 hi
 simp only[Nd,Nr,Ni,ln,I64,cI,cS,cB,cL,bJ8,chunk1]
 refine⟨fun hi=>⟨by omega,fun _=>⟨hi,fun _=>?_⟩⟩,fun hi=>?_⟩
 ·obtain⟨c,hc⟩:=Sx.get_at i0 hi
  have hsp:=spot_at hc
  have hb:=bef_le (o.take i.toNat) c.k c.t
  rw[bL4]at hb
  have mu:∀A B C D:Dat,spMu [.lst (rows o)] [.int (i+1),A,B]<spMu [.lst (rows o)] [.int i,C,D]:=fun _ _ _ _=>by simp only[spMu,slMu,bJ8];omega
  have hth:=there_step i0 hT (by rw[hsp];rfl)
  simp only[cell_rows hc,t0,t1,t2,f9,p9]
  refine⟨fun hy=>?_,fun hy=>?_⟩
  ·have g:=hS c.k c.t
   rw[<-hy]at g
   have e4:=fun v w=>entry_set [.i c.k,.s c.t,.s c.y,.i 0] v w S
   simp only[bM2,bS7,bL1,Nat.reduceAdd]at e4
   simp only[g,f9,e4]
   have hm:=midx_lt [.i c.k,.s c.t,.s c.y,.i 0] (.int (bef (o.take i.toNat) c.k c.t:Nat)) S
   rw[hsp]at hth
   unfold spk at hth
   rw[bK1 hy]at hth
   have st:=sp_inv.2 ⟨by omega,by omega,seen_step i0 hc hS hy,hth⟩
   exact⟨⟨by omega,by omega⟩,fun _=>⟨by omega,fun _=>⟨by omega,fun _=>⟨⟨by omega,by omega⟩,fun _=>⟨st,fun _=>⟨mu _ _ _ _,fun _=>trivial⟩⟩⟩⟩⟩⟩
  ·rw[hsp]at hth
   unfold spk at hth
   rw[bJ9 hy]at hth
   have st:=sp_inv.2 ⟨by omega,by omega,seen_keep i0 hc hS hy,hth⟩
   exact⟨⟨by omega,by omega⟩,fun _=>⟨st,fun _=>⟨mu _ _ _ _,fun _=>trivial⟩⟩⟩
 ·have ei:i.toNat=o.length:=by omega
  rw[ei]at hT
  refine⟨by omega,fun _=>⟨by omega,fun _=>⟨by omega,fun _=>⟨by omega,fun _=>⟨so_inv.2 ⟨by omega,by omega,by simp,fun k t=>by simp[bef];rfl,by simp⟩,fun _ O j S' hj=>?_⟩⟩⟩⟩⟩
  obtain⟨j0,j1,hO,hS',hp⟩:=so_inv.1 hj
  refine⟨fun hj=>⟨by omega,fun _=>⟨hj,fun _=>?_⟩⟩,fun hj=>?_⟩
  ·obtain⟨c,hc⟩:=Sx.get_at j0 hj
   have hsp:=spot_at hc
   have hb:=bef_le (n.take j.toNat) c.k c.t
   rw[bL4]at hb
   have mu:∀A B C D:Dat,soMu [.lst (rows n),.lst T] [A,.int (j+1),B]<soMu [.lst (rows n),.lst T] [C,.int j,D]:=fun _ _ _ _=>by simp only[soMu,bJ8];omega
   have stp:∀v:Int,lkT T (spotAt n j.toNat)=v->(Sx.over O j [[.int v]]).length=n.length/\(Sx.over O j [[.int v]]).take (j+1).toNat=((List.range (j+1).toNat).map fun q=>lkT T (spotAt n q)).map row:=fun v hv=>by
    rw[over1 j0 (by omega)]
    refine⟨by rw[List.length_set];exact hO,?_⟩
    rw[take_set j0 (by omega),hp,z7 j0,List.range_succ,bM6,bM6]
    simp[hv,row]
   simp only[cell_rows hc,t0,t1,t2,f9,p9]
   refine⟨fun hy=>?_,fun hy=>?_⟩
   ·have g:=hS' c.k c.t
    rw[<-hy]at g
    have e4:=fun v w=>entry_set [.i c.k,.s c.t,.s c.y,.i 0] v w S'
    simp only[bM2,bS7,bL1,Nat.reduceAdd]at e4
    simp only[g,f9,e4]
    have hm:=midx_lt [.i c.k,.s c.t,.s c.y,.i 0] (.int (bef (n.take j.toNat) c.k c.t:Nat)) S'
    have hk:spotAt n j.toNat=[.i c.k,.s c.t,.s c.y,.i (bef (n.take j.toNat) c.k c.t:Nat)]:=by rw[hsp];unfold spk;rw[bK1 hy]
    rw[hk]at stp
    unfold lkT at stp
    refine⟨⟨by omega,by omega⟩,fun _=>⟨by omega,fun _=>⟨by omega,fun _=>⟨fun hh=>?_,fun hh=>?_⟩⟩⟩⟩
    ·obtain⟨q1,q2⟩:=stp _ (bK1 hh)
     exact⟨by omega,fun _=>⟨by omega,fun _=>⟨by omega,fun _=>⟨by omega,fun _=>⟨⟨by omega,by omega⟩,fun _=>⟨by omega,fun _=>⟨so_inv.2 ⟨by omega,by omega,q1,seen_step j0 hc hS' hy,q2⟩,fun _=>⟨mu _ _ _ _,fun _=>trivial⟩⟩⟩⟩⟩⟩⟩⟩
    ·obtain⟨q1,q2⟩:=stp _ (bJ9 hh)
     exact⟨by omega,fun _=>⟨by omega,fun _=>⟨by omega,fun _=>⟨by omega,fun _=>⟨⟨by omega,by omega⟩,fun _=>⟨by omega,fun _=>⟨so_inv.2 ⟨by omega,by omega,q1,seen_step j0 hc hS' hy,q2⟩,fun _=>⟨mu _ _ _ _,fun _=>trivial⟩⟩⟩⟩⟩⟩⟩⟩
   ·have hk:spotAt n j.toNat=[.i c.k,.s c.t,.s c.y,.i 0]:=by rw[hsp];unfold spk;rw[bJ9 hy]
    rw[hk]at stp
    unfold lkT at stp
    refine⟨fun hh=>?_,fun hh=>?_⟩
    ·obtain⟨q1,q2⟩:=stp _ (bK1 hh)
     exact⟨by omega,fun _=>⟨by omega,fun _=>⟨by omega,fun _=>⟨by omega,fun _=>⟨⟨by omega,by omega⟩,fun _=>⟨by omega,fun _=>⟨so_inv.2 ⟨by omega,by omega,q1,seen_keep j0 hc hS' hy,q2⟩,fun _=>⟨mu _ _ _ _,fun _=>trivial⟩⟩⟩⟩⟩⟩⟩⟩
    ·obtain⟨q1,q2⟩:=stp _ (bJ9 hh)
     exact⟨by omega,fun _=>⟨by omega,fun _=>⟨by omega,fun _=>⟨by omega,fun _=>⟨⟨by omega,by omega⟩,fun _=>⟨by omega,fun _=>⟨so_inv.2 ⟨by omega,by omega,q1,seen_keep j0 hc hS' hy,q2⟩,fun _=>⟨mu _ _ _ _,fun _=>trivial⟩⟩⟩⟩⟩⟩⟩⟩
  ·refine⟨by omega,fun _=>⟨trivial,fun _=>⟨by omega,fun _=>⟨fun o' n' e1 e2=>?_,fun _=>trivial⟩⟩⟩⟩
   obtain rfl:=rows_eq.mp e1
   obtain rfl:=rows_eq.mp e2
   have ej:j.toNat=n.length:=by omega
   have:Sx.part O 0 (n.length:Int)=O.take j.toNat:=by simp[Sx.part,ej]
   rw[this,hp,ej]
   unfold mtch
   congr 1
   exact List.map_congr_left fun q hq=>lk_there hT (spot_len (List.mem_range.1 hq))
end Go.D
