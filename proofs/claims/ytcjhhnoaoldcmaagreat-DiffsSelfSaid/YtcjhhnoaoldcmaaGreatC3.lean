/- Which children match: the conditions hold.
  Conditions: none. -/
import Derived.Test.YtcjhhnoaoldcmaaGreatC2
import Derived.Test.YtcjhhnoaoldcmaaGreatA6
import Derived.Test.YtcjhhnoaoldcmaaGreatB6
set_option linter.unusedVariables false
set_option linter.unusedSimpArgs false
namespace Go.D
open Go Go.Xe Go.Sx
open Go.C36 (row j0 lis cLong cRlong longPre longRel rlongPre rlongRel)
theorem entry_set (ks:List KV)(v w:Dat):∀S:Sx.Rows,setAt (mputR S ks v) (midxR S ks:Nat) ks.length w=mputR S ks w
 | []=>by
  simp only[mputR,midxR,setAt,bJ2]
  simp
 |r::S=>by
  have a:=entry_set ks v w S
  unfold mputR midxR
  by_cases h:aa5 ks.length r=ks
  ·rw[bH3 h,bH3 h,bH3 h];simp[setAt]
  ·rw[bH1 h,bH1 h,bH1 h]
   simp only[setAt,bJ2,List.modify_succ_cons]at a⊢
   rw[a]
theorem midx_lt (ks:List KV)(v:Dat):∀S:Sx.Rows,midxR S ks<(mputR S ks v).length
 | []=>by simp[midxR,mputR]
 |r::S=>by
  have:=midx_lt ks v S
  unfold mputR midxR
  by_cases h:aa5 ks.length r=ks
  ·rw[bH3 h,bH3 h];simp
  ·rw[bH1 h,bH1 h];simp;omega
theorem bef_snoc (l:List Tree)(c:Tree)(k:Int)(t:Str):bef (l++ [c]) k t=bef l k t+if c.y=[]/\c.k=k/\c.t=t then 1 else 0:=by
 unfold bef
 rw[List.filter_append,bH8]
 by_cases h:c.y=[]/\c.k=k/\c.t=t
 ·simp[h]
 ·rw[bH1 h];simp[h]
theorem bef_le (l:List Tree)(k:Int)(t:Str):bef l k t<=l.length:=List.length_filter_le _ _
variable {l:List Tree}{c:Tree}
theorem spot_at {i:Nat}(h:l[i]? =some c):spotAt l i=spk c (bef (l.take i) c.k c.t):=by unfold spotAt;rw[h]
variable {S:Sx.Rows}{i:Int}
theorem seen_step (h0:0<=i)(hc:l[i.toNat]? =some c)(h:Seen S (l.take i.toNat))(hy:c.y=[]):Seen (mputR S [.i c.k,.s c.t,.s c.y,.i 0] (.int ((bef (l.take i.toNat) c.k c.t:Nat)+1))) (l.take (i+1).toNat):=by
 intro k t
 rw[ac7 _ _ (by rfl),take_step h0 hc,bef_snoc,hy,h k t]
 by_cases e:k=c.k/\t=c.t
 ·obtain⟨rfl,rfl⟩:=e;simp
 ·rw[bH1 (by simpa using e),bH1 (fun h=>e ⟨h.2.1.symm,h.2.2.symm⟩)];rfl
theorem seen_keep (h0:0<=i)(hc:l[i.toNat]? =some c)(h:Seen S (l.take i.toNat))(hy:c.y≠ []):Seen S (l.take (i+1).toNat):=by
 intro k t
 rw[take_step h0 hc,bef_snoc,bH1 (fun h=>hy h.1),h k t];rfl
variable {T:Sx.Rows}{f:Nat->List KV}
theorem there_step (h0:0<=i)(h:There T f i.toNat)(hf:(f i.toNat).length=4):There (mputR T (f i.toNat) (.int i)) f (i+1).toNat:=by
 intro s hs
 rw[aG3 _ _ (by rw[hf,hs]),ac7 _ _ (by rw[hf,hs]),j8 h0]
 obtain⟨h1,h2⟩:=h s hs
 unfold lastIx
 by_cases e:f i.toNat=s
 ·rw[bH3 e,bH3 e.symm]
  exact⟨by simp[e];omega,fun _=>by simp;omega⟩
 ·rw[bH1 e,bH1 (fun c=>e c.symm),h1]
  exact⟨by rw[bM7 (p:=s=f i.toNat) fun c=>e c.symm,Bool.false_or],h2⟩
theorem lk_there {n:Nat}(h:There T f n){s:List KV}(hs:s.length=4):lkT T s=lastIx f n s:=by
 obtain⟨h1,h2⟩:=h s hs
 have ge:∀n, -1<=lastIx f n s:=fun n=>by
  induction n with
  |zero=>unfold lastIx;omega
  |succ n a=>unfold lastIx;split<;>omega
 have:=ge n
 unfold lkT
 rw[h1]
 by_cases c:0<=lastIx f n s
 ·rw[bH3 (by simpa using c),h2 c];rfl
 ·rw[bH1 (by simpa using c)];omega
theorem spot_len {i:Nat}(h:i<l.length):(spotAt l i).length=4:=by rw[spot_at (bG3 h)];rfl
theorem sp_inv :spInv [.lst (rows l)] [.int i,.lst S,.lst T]↔0<=i/\i<=(l.length:Int)/\Seen S (l.take i.toNat)/\There T (spotAt l) i.toNat:=by
 simp only[spInv,ln,bH0]
 exact⟨fun⟨h1,h2,h3⟩=>⟨h1,h2,h3 l rfl⟩,fun⟨h1,h2,h3⟩=>⟨h1,h2,fun m e=>by rw[<-rows_eq.mp e];exact h3⟩⟩
variable {O:Sx.Rows}
theorem so_inv :soInv [.lst (rows l),.lst T] [.lst O,.int i,.lst S]↔0<=i/\i<=(l.length:Int)/\O.length=l.length/\Seen S (l.take i.toNat)/\O.take i.toNat=((List.range i.toNat).map fun j=>lkT T (spotAt l j)).map row:=by
 simp only[soInv,ln,bH0]
 exact⟨fun⟨h1,h2,h4,h3⟩=>⟨h1,h2,by omega,h3 l rfl⟩,fun⟨h1,h2,h4,h3⟩=>⟨h1,h2,by omega,fun m e=>by rw[<-rows_eq.mp e];exact h3⟩⟩
theorem over1 {r:List Dat}(h0:0<=i)(h:i<(O.length:Int)):Sx.over O i [r]=O.set i.toNat r:=by
 unfold Sx.over
 rw[List.set_eq_take_append_cons_drop,bH3 (by omega)];simp
theorem chunk1 (d:Dat):Sx.chunk 1 1 [d]=[[d]]:=rfl
theorem vcMat_ok :vcMat:=by
 unfold vcMat
 rintro _ _ ⟨o,n,rfl,rfl,H,hn⟩
 have s0:spInv [.lst (rows o)] [.int 0,.lst [],.lst []]:=sp_inv.2 ⟨by omega,by omega,fun k t=>by simp[bef];rfl,fun s hs=>⟨by simp[mhasR,lastIx],fun h=>by simp[lastIx]at h⟩⟩
 refine⟨s0,fun _ i S T hi=>?_⟩
 obtain⟨i0,i1,p,r⟩:=sp_inv.1 hi
 simp only[Nd,Nr,Ni,ln,I64,cI,cS,cB,cL,bH0,chunk1]
 refine⟨fun hi=>⟨by omega,fun _=>⟨hi,fun _=>?_⟩⟩,fun hi=>?_⟩
 ·obtain⟨c,hc⟩:=Sx.get_at i0 hi
  have b:=spot_at hc
  have hb:=bef_le (o.take i.toNat) c.k c.t
  rw[bI6]at hb
  have mu:∀A B C D:Dat,spMu [.lst (rows o)] [.int (i+1),A,B]<spMu [.lst (rows o)] [.int i,C,D]:=fun _ _ _ _=>by simp only[spMu,slMu,bH0];omega
  have a:=there_step i0 r (by rw[b];rfl)
  simp only[cell_rows hc,t0,t1,t2,i5,j7]
  refine⟨fun hy=>?_,fun hy=>?_⟩
  ·have g:=p c.k c.t
   rw[<-hy]at g
   have m:=fun v w=>entry_set [.i c.k,.s c.t,.s c.y,.i 0] v w S
   simp only[bJ4,bQ0,bI3,Nat.reduceAdd]at m
   simp only[g,i5,m]
   have hm:=midx_lt [.i c.k,.s c.t,.s c.y,.i 0] (.int (bef (o.take i.toNat) c.k c.t:Nat)) S
   rw[b]at a
   unfold spk at a
   rw[bH3 hy]at a
   have st:=sp_inv.2 ⟨by omega,by omega,seen_step i0 hc p hy,a⟩
   exact⟨⟨by omega,by omega⟩,fun _=>⟨by omega,fun _=>⟨by omega,fun _=>⟨⟨by omega,by omega⟩,fun _=>⟨st,fun _=>⟨mu _ _ _ _,fun _=>trivial⟩⟩⟩⟩⟩⟩
  ·rw[b]at a
   unfold spk at a
   rw[bH1 hy]at a
   have st:=sp_inv.2 ⟨by omega,by omega,seen_keep i0 hc p hy,a⟩
   exact⟨⟨by omega,by omega⟩,fun _=>⟨st,fun _=>⟨mu _ _ _ _,fun _=>trivial⟩⟩⟩
 ·have E:i.toNat=o.length:=by omega
  rw[E]at r
  refine⟨by omega,fun _=>⟨by omega,fun _=>⟨by omega,fun _=>⟨by omega,fun _=>⟨so_inv.2 ⟨by omega,by omega,by simp,fun k t=>by simp[bef];rfl,by simp⟩,fun _ O j S' hj=>?_⟩⟩⟩⟩⟩
  obtain⟨e,I,F,d,hp⟩:=so_inv.1 hj
  refine⟨fun hj=>⟨by omega,fun _=>⟨hj,fun _=>?_⟩⟩,fun hj=>?_⟩
  ·obtain⟨c,hc⟩:=Sx.get_at e hj
   have b:=spot_at hc
   have hb:=bef_le (n.take j.toNat) c.k c.t
   rw[bI6]at hb
   have mu:∀A B C D:Dat,soMu [.lst (rows n),.lst T] [A,.int (j+1),B]<soMu [.lst (rows n),.lst T] [C,.int j,D]:=fun _ _ _ _=>by simp only[soMu,bH0];omega
   have stp:∀v:Int,lkT T (spotAt n j.toNat)=v->(Sx.over O j [[.int v]]).length=n.length/\(Sx.over O j [[.int v]]).take (j+1).toNat=((List.range (j+1).toNat).map fun q=>lkT T (spotAt n q)).map row:=fun v G=>by
    rw[over1 e (by omega)]
    refine⟨by rw[List.length_set];exact F,?_⟩
    rw[take_set e (by omega),hp,j8 e,List.range_succ,bJ8,bJ8]
    simp[G,row]
   simp only[cell_rows hc,t0,t1,t2,i5,j7]
   refine⟨fun hy=>?_,fun hy=>?_⟩
   ·have g:=d c.k c.t
    rw[<-hy]at g
    have m:=fun v w=>entry_set [.i c.k,.s c.t,.s c.y,.i 0] v w S'
    simp only[bJ4,bQ0,bI3,Nat.reduceAdd]at m
    simp only[g,i5,m]
    have hm:=midx_lt [.i c.k,.s c.t,.s c.y,.i 0] (.int (bef (n.take j.toNat) c.k c.t:Nat)) S'
    have hk:spotAt n j.toNat=[.i c.k,.s c.t,.s c.y,.i (bef (n.take j.toNat) c.k c.t:Nat)]:=by rw[b];unfold spk;rw[bH3 hy]
    rw[hk]at stp
    unfold lkT at stp
    refine⟨⟨by omega,by omega⟩,fun _=>⟨by omega,fun _=>⟨by omega,fun _=>⟨fun hh=>?_,fun hh=>?_⟩⟩⟩⟩
    ·obtain⟨q1,q2⟩:=stp _ (bH3 hh)
     exact⟨by omega,fun _=>⟨by omega,fun _=>⟨by omega,fun _=>⟨by omega,fun _=>⟨⟨by omega,by omega⟩,fun _=>⟨by omega,fun _=>⟨so_inv.2 ⟨by omega,by omega,q1,seen_step e hc d hy,q2⟩,fun _=>⟨mu _ _ _ _,fun _=>trivial⟩⟩⟩⟩⟩⟩⟩⟩
    ·obtain⟨q1,q2⟩:=stp _ (bH1 hh)
     exact⟨by omega,fun _=>⟨by omega,fun _=>⟨by omega,fun _=>⟨by omega,fun _=>⟨⟨by omega,by omega⟩,fun _=>⟨by omega,fun _=>⟨so_inv.2 ⟨by omega,by omega,q1,seen_step e hc d hy,q2⟩,fun _=>⟨mu _ _ _ _,fun _=>trivial⟩⟩⟩⟩⟩⟩⟩⟩
   ·have hk:spotAt n j.toNat=[.i c.k,.s c.t,.s c.y,.i 0]:=by rw[b];unfold spk;rw[bH1 hy]
    rw[hk]at stp
    unfold lkT at stp
    refine⟨fun hh=>?_,fun hh=>?_⟩
    ·obtain⟨q1,q2⟩:=stp _ (bH3 hh)
     exact⟨by omega,fun _=>⟨by omega,fun _=>⟨by omega,fun _=>⟨by omega,fun _=>⟨⟨by omega,by omega⟩,fun _=>⟨by omega,fun _=>⟨so_inv.2 ⟨by omega,by omega,q1,seen_keep e hc d hy,q2⟩,fun _=>⟨mu _ _ _ _,fun _=>trivial⟩⟩⟩⟩⟩⟩⟩⟩
    ·obtain⟨q1,q2⟩:=stp _ (bH1 hh)
     exact⟨by omega,fun _=>⟨by omega,fun _=>⟨by omega,fun _=>⟨by omega,fun _=>⟨⟨by omega,by omega⟩,fun _=>⟨by omega,fun _=>⟨so_inv.2 ⟨by omega,by omega,q1,seen_keep e hc d hy,q2⟩,fun _=>⟨mu _ _ _ _,fun _=>trivial⟩⟩⟩⟩⟩⟩⟩⟩
  ·refine⟨trivial,fun _=>⟨by omega,fun _=>⟨fun o' n' x z=>?_,fun _=>trivial⟩⟩⟩
   obtain rfl:=rows_eq.mp x
   obtain rfl:=rows_eq.mp z
   have u:j.toNat=n.length:=by omega
   have:Sx.part O 0 (n.length:Int)=O.take j.toNat:=by simp[Sx.part,u]
   rw[this,hp,u]
   unfold mtch
   congr 1
   exact List.map_congr_left fun q hq=>lk_there r (spot_len (List.mem_range.1 hq))
end Go.D
