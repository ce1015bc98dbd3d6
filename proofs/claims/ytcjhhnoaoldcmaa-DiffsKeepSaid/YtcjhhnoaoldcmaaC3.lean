/- Which children match: the conditions hold.
  Conditions: none. -/
import Derived.Test.YtcjhhnoaoldcmaaD1
import Derived.Test.YtcjhhnoaoldcmaaA5
import Derived.Test.YtcjhhnoaoldcmaaB4
set_option linter.unusedVariables false
set_option linter.unusedSimpArgs false
namespace Go.D
open Go Go.Xe Go.Sx
open Go.C36 (row j8 lis cLong cRlong longPre longRel rlongPre rlongRel)
theorem entry_set (ks:List KV)(v w:Dat):∀S:Sx.Rows,setAt (mputR S ks v) (midxR S ks:Nat) ks.length w=mputR S ks w
 | []=>by
  simp only[mputR,midxR,setAt,bE2]
  simp
 |r::S=>by
  have a:=entry_set ks v w S
  unfold mputR midxR
  by_cases h:aa0 ks.length r=ks
  ·rw[bC3 h,bC3 h,bC3 h];simp[setAt]
  ·rw[bC1 h,bC1 h,bC1 h]
   simp only[setAt,bE2,List.modify_succ_cons]at a⊢
   rw[a]
theorem midx_lt (ks:List KV)(v:Dat):∀S:Sx.Rows,midxR S ks<(mputR S ks v).length
 | []=>by simp[midxR,mputR]
 |r::S=>by
  have:=midx_lt ks v S
  unfold mputR midxR
  by_cases h:aa0 ks.length r=ks
  ·rw[bC3 h,bC3 h];simp
  ·rw[bC1 h,bC1 h];simp;omega
theorem bef_snoc (l:List Tree)(c:Tree)(k:Int)(t:Str):bef (l++ [c]) k t=bef l k t+if c.y=[]/\c.k=k/\c.t=t then 1 else 0:=by
 unfold bef
 rw[List.filter_append,bC8]
 by_cases h:c.y=[]/\c.k=k/\c.t=t
 ·simp[h]
 ·rw[bC1 h];simp[h]
theorem bef_le (l:List Tree)(k:Int)(t:Str):bef l k t<=l.length:=List.length_filter_le _ _
variable {l:List Tree}{c:Tree}
theorem spot_at {i:Nat}(h:l[i]? =some c):spotAt l i=spk c (bef (l.take i) c.k c.t):=by unfold spotAt;rw[h]
variable {S:Sx.Rows}{i:Int}
theorem seen_step (h0:0<=i)(hc:l[i.toNat]? =some c)(h:Seen S (l.take i.toNat))(hy:c.y=[]):Seen (mputR S [.i c.k,.s c.t,.s c.y,.i 0] (.int ((bef (l.take i.toNat) c.k c.t:Nat)+1))) (l.take (i+1).toNat):=by
 intro k t
 rw[an2 _ _ (by rfl),take_step h0 hc,bef_snoc,hy,h k t]
 by_cases e:k=c.k/\t=c.t
 ·obtain⟨rfl,rfl⟩:=e;simp
 ·rw[bC1 (by simpa using e),bC1 (fun h=>e ⟨h.2.1.symm,h.2.2.symm⟩)];rfl
theorem seen_keep (h0:0<=i)(hc:l[i.toNat]? =some c)(h:Seen S (l.take i.toNat))(hy:c.y≠ []):Seen S (l.take (i+1).toNat):=by
 intro k t
 rw[take_step h0 hc,bef_snoc,bC1 (fun h=>hy h.1),h k t];rfl
variable {T:Sx.Rows}{f:Nat->List KV}
theorem there_step (h0:0<=i)(h:There T f i.toNat)(hf:(f i.toNat).length=4):There (mputR T (f i.toNat) (.int i)) f (i+1).toNat:=by
 intro s hs
 rw[aE7 _ _ (by rw[hf,hs]),an2 _ _ (by rw[hf,hs]),v8 h0]
 obtain⟨h1,h2⟩:=h s hs
 unfold lastIx
 by_cases e:f i.toNat=s
 ·rw[bC3 e,bC3 e.symm]
  exact⟨by simp[e];omega,fun _=>by simp;omega⟩
 ·rw[bC1 e,bC1 (fun c=>e c.symm),h1]
  exact⟨by rw[bH5 (p:=s=f i.toNat) fun c=>e c.symm,Bool.false_or],h2⟩
theorem lk_there {n:Nat}(h:There T f n){s:List KV}(hs:s.length=4):lkT T s=lastIx f n s:=by
 obtain⟨h1,h2⟩:=h s hs
 have ge:∀n, -1<=lastIx f n s:=fun n=>by
  induction n with
  |zero=>unfold lastIx;omega
  |succ n a=>unfold lastIx;split<;>omega
 have:=ge n
 unfold lkT
 rw[h1]
 by_cases c:0<=lastIx f n s
 ·rw[bC3 (by simpa using c),h2 c];rfl
 ·rw[bC1 (by simpa using c)];omega
theorem spot_len {i:Nat}(h:i<l.length):(spotAt l i).length=4:=by rw[spot_at (bB3 h)];rfl
theorem sp_inv :spInv [.lst (rows l)] [.int i,.lst S,.lst T]↔0<=i/\i<=(l.length:Int)/\Seen S (l.take i.toNat)/\There T (spotAt l) i.toNat:=by
 simp only[spInv,ln,bC0]
 exact⟨fun⟨h1,h2,h3⟩=>⟨h1,h2,h3 l rfl⟩,fun⟨h1,h2,h3⟩=>⟨h1,h2,fun m e=>by rw[<-rows_eq.mp e];exact h3⟩⟩
variable {O:Sx.Rows}
theorem so_inv :soInv [.lst (rows l),.lst T] [.lst O,.int i,.lst S]↔0<=i/\i<=(l.length:Int)/\O.length=l.length/\Seen S (l.take i.toNat)/\O.take i.toNat=((List.range i.toNat).map fun j=>lkT T (spotAt l j)).map row:=by
 simp only[soInv,ln,bC0]
 exact⟨fun⟨h1,h2,h4,h3⟩=>⟨h1,h2,by omega,h3 l rfl⟩,fun⟨h1,h2,h4,h3⟩=>⟨h1,h2,by omega,fun m e=>by rw[<-rows_eq.mp e];exact h3⟩⟩
theorem over1 {r:List Dat}(h0:0<=i)(h:i<(O.length:Int)):Sx.over O i [r]=O.set i.toNat r:=by
 unfold Sx.over
 rw[List.set_eq_take_append_cons_drop,bC3 (by omega)];simp
theorem chunk1 (d:Dat):Sx.chunk 1 1 [d]=[[d]]:=rfl
open Go Go.Xe Go.Sx
open Go.C36 (row j8 lis cLong cRlong longPre longRel rlongPre rlongRel)
theorem vcBef_ok :vcBef:=by
 unfold vcBef vcBef0
 rintro _ i k t _ _ _ _ ⟨⟨l,rfl,hl⟩,h0,h1⟩
 simp only[ln,bC0]at h1
 simp only[Nd,ln,I64,cI,cS,bC0,bfInv,bfMu,befRel,rows_eq,bJ1,bH2,bG3]
 refine⟨⟨by omega,by omega,by omega,rfl⟩,fun _ j n ⟨a,b,_,hn⟩=>⟨fun hj=>?_,fun hj=>by rw[hn,show j=i by omega]⟩⟩
 obtain⟨c,hc⟩:=Sx.get_at a (show j<(l.length:Int) by omega)
 have hb:=bef_le (l.take j.toNat) k t
 rw[bD6]at hb
 simp only[cell_rows hc,t0,t1,t2,n7,i5,take_step a hc,bef_snoc]
 have no:¬(c.y=[]/\c.k=k/\c.t=t)->(¬j+1< -9223372036854775808/\j+1<9223372036854775808)/\(¬j+1< -9223372036854775808/\j+1<9223372036854775808->(0<=j+1/\j+1<=i/\i<=(l.length:Int)/\n=((bef (l.take j.toNat) k t+if c.y=[]/\c.k=k/\c.t=t then 1 else 0:Nat):Int))/\(0<=j+1/\j+1<=i/\i<=(l.length:Int)/\n=((bef (l.take j.toNat) k t+if c.y=[]/\c.k=k/\c.t=t then 1 else 0:Nat):Int)->(i-(j+1)).toNat<(i-j).toNat)):=fun h=>by
  rw[bC1 h]
  exact⟨⟨by omega,by omega⟩,fun _=>⟨⟨by omega,by omega,by omega,by omega⟩,fun _=>by omega⟩⟩
 refine⟨by omega,fun _=>⟨by omega,fun _=>⟨fun hy=>⟨by omega,fun _=>⟨by omega,fun _=>⟨fun hk=>⟨fun ht=>?_,fun ht=>no fun h=>ht h.2.2⟩,fun hk=>no fun h=>hk h.2.1⟩⟩⟩,fun hy=>no fun h=>hy h.1⟩⟩⟩
 rw[bC3 ⟨hy,hk,ht⟩]
 exact⟨⟨by omega,by omega⟩,fun _=>⟨⟨by omega,by omega⟩,fun _=>⟨⟨by omega,by omega,by omega,by omega⟩,fun _=>by omega⟩⟩⟩
theorem spk_eq {c d:Tree}{a b:Nat}:spk d a=spk c b↔d.y=c.y/\d.k=c.k/\d.t=c.t/\(c.y=[]->a=b):=by
 unfold spk
 simp only[bG9,KV.i.injEq,KV.s.injEq,bH2]
 constructor
 ·rintro ⟨h1,h2,h3,h4⟩
  refine⟨h3,h1,h2,fun h=>?_⟩
  rw[h3,bC3 h,bC3 h]at h4;omega
 ·rintro ⟨h3,h1,h2,h4⟩
  refine⟨h1,h2,h3,?_⟩
  rw[h3]
  by_cases h:c.y=[]
  ·rw[bC3 h,bC3 h,h4 h]
  ·rw[bC1 h,bC1 h]
theorem mtch_at {o n:List Tree}{i:Nat}(h:i<n.length):(mtch o n)[i]? =some (lastIx (spotAt o) o.length (spotAt n i)):=by
 unfold mtch;rw[bF1,List.getElem?_range h];rfl
theorem vcRmat_ok :vcRmat:=by
 unfold vcRmat vcRmat0 vcRmat1
 rintro _ _ ⟨o,n,rfl,rfl,y,hn⟩
 simp only[Nd,Nr,Ni,ln,I64,cI,cS,cB,cL,bC0,chunk1,rmInv,rmMu,rkInv,rkMu,slMu,rmatRel,matRel,befRel,befPre,rows_eq,bJ1,bH2,bG8,bE5,bG3]
 refine⟨⟨by omega,by omega,fun o' n' l m=>by simp⟩,fun _ i O ⟨i0,i1,r⟩=>?_⟩
 have r:=r o n rfl rfl
 subst r
 have hm:(mtch o n).length=n.length:=by unfold mtch;simp
 have w:((((mtch o n).take i.toNat).map row).length:Int)=i:=by rw[bC0,bD6,hm];omega
 refine⟨fun hi=>⟨⟨by omega,by omega,fun o' n' _ _=>by simp[lastIx]⟩,fun _ k p ⟨k0,k1,hp⟩=>?_⟩,fun hi=>⟨by omega,fun _=>fun o' n' l m=>?_⟩⟩
 rotate_left 1
 ·rw[<-l,<-m,bF0 (by rw[hm];omega)]
 have hp:=hp o n rfl rfl
 obtain⟨c,hc⟩:=Sx.get_at i0 hi
 refine⟨fun hk=>?_,fun hk=>?_⟩
 ·obtain⟨d,hd⟩:=Sx.get_at k0 hk
  have hs:lastIx (spotAt o) (k+1).toNat (spotAt n i.toNat)=if spotAt o k.toNat=spotAt n i.toNat then(k.toNat:Int)else p:=by rw[v8 k0,hp];rfl
  rw[spot_at hd,spot_at hc]at hs
  have l:∀x,(∀o' n',o=o'->n=n'->x=lastIx (spotAt o') (k+1).toNat (spotAt n' i.toNat))↔x=if spk d (bef (o.take k.toNat) d.k d.t)=spk c (bef (n.take i.toNat) c.k c.t)then(k.toNat:Int)else p:=fun x=>by
   rw[<-hs,<-spot_at hc]
   exact⟨fun h=>h o n rfl rfl,fun h o' n' a b=>by subst a;subst b;exact h⟩
  simp only[cell_rows hd,cell_rows hc,t0,t1,t2,t3,t4,t5,n7,i5,C9,l]
  have f:spk d (bef (o.take k.toNat) d.k d.t)=spk c (bef (n.take i.toNat) c.k c.t)->(k:Int)=if spk d (bef (o.take k.toNat) d.k d.t)=spk c (bef (n.take i.toNat) c.k c.t)then(k.toNat:Int)else p:=fun h=>by rw[bC3 h];omega
  have g:¬spk d (bef (o.take k.toNat) d.k d.t)=spk c (bef (n.take i.toNat) c.k c.t)->p=if spk d (bef (o.take k.toNat) d.k d.t)=spk c (bef (n.take i.toNat) c.k c.t)then(k.toNat:Int)else p:=fun h=>by rw[bC1 h]
  generalize (if spk d (bef (o.take k.toNat) d.k d.t)=spk c (bef (n.take i.toNat) c.k c.t)then(k.toNat:Int)else p)=q at f g⊢
  rw[spk_eq]at f g
  have N:∀ {x:Int},x=q->(¬k+1< -9223372036854775808/\k+1<9223372036854775808)/\(¬k+1< -9223372036854775808/\k+1<9223372036854775808->(0<=k+1/\k+1<=(o.length:Int)/\x=q)/\(0<=k+1/\k+1<=(o.length:Int)/\x=q->((o.length:Int)-(k+1)).toNat<((o.length:Int)-k).toNat)):=fun h=>⟨⟨by omega,by omega⟩,fun _=>⟨⟨by omega,by omega,h⟩,fun _=>by omega⟩⟩
  refine⟨by omega,fun _=>⟨by omega,fun _=>⟨by omega,fun _=>⟨by omega,fun _=>⟨fun hy=>?_,fun hy=>N (g fun h=>hy h.1)⟩⟩⟩⟩⟩
  refine⟨by omega,fun _=>⟨by omega,fun _=>⟨by omega,fun _=>⟨by omega,fun _=>⟨fun hk=>⟨fun ht=>?_,fun ht=>N (g fun h=>ht h.2.2.1)⟩,fun hk=>N (g fun h=>hk h.2.1)⟩⟩⟩⟩⟩
  refine⟨by omega,fun _=>⟨by omega,fun _=>⟨fun j=>?_,fun j=>N (f ⟨hy,hk,ht,fun h=>absurd h j⟩)⟩⟩⟩
  rw[hk,ht]at f g
  refine⟨by omega,fun _=>⟨by omega,fun _=>⟨⟨⟨o,rfl,y⟩,by omega,by omega⟩,fun _ z u=>⟨by omega,fun _=>⟨by omega,fun _=>⟨⟨⟨n,rfl,hn⟩,by omega,by omega⟩,fun _ A v=>⟨fun e=>N (f ⟨hy,rfl,rfl,fun _=>by omega⟩),fun e=>N (g fun h=>e (by rw[u,v,h.2.2.2 j]))⟩⟩⟩⟩⟩⟩⟩
 ·have s:(mtch o n)[i.toNat]? =some p:=by rw[mtch_at (by omega),hp,show k.toNat=o.length by omega]
  refine⟨by omega,fun _=>⟨by omega,fun _=>⟨⟨by omega,by omega⟩,fun _=>⟨by omega,fun _=>⟨⟨by omega,by omega,fun o' n' l m=>?_⟩,fun _=>by omega⟩⟩⟩⟩⟩
  rw[<-l,<-m,take_step i0 s,bE8];rfl
end Go.D
