/- Which children match, by the definition: the conditions hold.
  Conditions: none. -/
import Derived.Test.YtcjhhnoaoldcmaaC3
set_option linter.unusedVariables false
set_option linter.unusedSimpArgs false
namespace Go.D
open Go Go.Xe Go.Sx
open Go.C36 (row A2 lis cLong cRlong longPre longRel rlongPre rlongRel)
theorem vcBef_ok :vcBef:=by
 unfold vcBef vcBef0
 rintro _ i k t _ _ _ _ ⟨⟨l,rfl,hl⟩,h0,h1⟩
 simp only[ln,bH3]at h1
 simp only[Nd,ln,I64,cI,cS,bH3,bfInv,bfMu,befRel,rows_eq,bP3,bM7,bL7]
 refine⟨⟨by omega,by omega,by omega,rfl⟩,fun _ j n ⟨j0,j1,_,hn⟩=>⟨fun hj=>?_,fun hj=>by rw[hn,show j=i by omega]⟩⟩
 obtain⟨c,hc⟩:=Sx.get_at j0 (show j<(l.length:Int) by omega)
 have hb:=bef_le (l.take j.toNat) k t
 rw[bI9]at hb
 simp only[cell_rows hc,t0,t1,t2,l6,z5,take_step j0 hc,bef_snoc]
 have no:¬(c.y=[]/\c.k=k/\c.t=t)->(¬j+1< -9223372036854775808/\j+1<9223372036854775808)/\(¬j+1< -9223372036854775808/\j+1<9223372036854775808->(0<=j+1/\j+1<=i/\i<=(l.length:Int)/\n=((bef (l.take j.toNat) k t+if c.y=[]/\c.k=k/\c.t=t then 1 else 0:Nat):Int))/\(0<=j+1/\j+1<=i/\i<=(l.length:Int)/\n=((bef (l.take j.toNat) k t+if c.y=[]/\c.k=k/\c.t=t then 1 else 0:Nat):Int)->(i-(j+1)).toNat<(i-j).toNat)):=fun h=>by
  rw[bH4 h]
  exact⟨⟨by omega,by omega⟩,fun _=>⟨⟨by omega,by omega,by omega,by omega⟩,fun _=>by omega⟩⟩
 refine⟨by omega,fun _=>⟨by omega,fun _=>⟨fun hy=>⟨by omega,fun _=>⟨by omega,fun _=>⟨fun hk=>⟨fun ht=>?_,fun ht=>no fun h=>ht h.2.2⟩,fun hk=>no fun h=>hk h.2.1⟩⟩⟩,fun hy=>no fun h=>hy h.1⟩⟩⟩
 rw[bH6 ⟨hy,hk,ht⟩]
 exact⟨⟨by omega,by omega⟩,fun _=>⟨⟨by omega,by omega⟩,fun _=>⟨⟨by omega,by omega,by omega,by omega⟩,fun _=>by omega⟩⟩⟩
theorem spk_eq {c d:Tree}{a b:Nat}:spk d a=spk c b↔d.y=c.y/\d.k=c.k/\d.t=c.t/\(c.y=[]->a=b):=by
 unfold spk
 simp only[bM3,KV.i.injEq,KV.s.injEq,bM7]
 constructor
 ·rintro ⟨h1,h2,h3,h4⟩
  refine⟨h3,h1,h2,fun h=>?_⟩
  rw[h3,bH6 h,bH6 h]at h4;omega
 ·rintro ⟨h3,h1,h2,h4⟩
  refine⟨h1,h2,h3,?_⟩
  rw[h3]
  by_cases h:c.y=[]
  ·rw[bH6 h,bH6 h,h4 h]
  ·rw[bH4 h,bH4 h]
theorem mtch_at {o n:List Tree}{i:Nat}(h:i<n.length):(mtch o n)[i]? =some (lastIx (spotAt o) o.length (spotAt n i)):=by
 unfold mtch;rw[bK4,List.getElem?_range h];rfl
theorem vcRmat_ok :vcRmat:=by
 unfold vcRmat vcRmat0 vcRmat1
 rintro _ _ ⟨o,n,rfl,rfl,ho,hn⟩
 simp only[Nd,Nr,Ni,ln,I64,cI,cS,cB,cL,bH3,chunk1,rmInv,rmMu,rkInv,rkMu,slMu,rmatRel,matRel,befRel,befPre,rows_eq,bP3,bM7,bM2,bJ8,bL7]
 refine⟨⟨by omega,by omega,fun o' n' e1 e2=>by simp⟩,fun _ i O ⟨i0,i1,hO⟩=>?_⟩
 have hO:=hO o n rfl rfl
 subst hO
 have hm:(mtch o n).length=n.length:=by unfold mtch;simp
 have hOl:((((mtch o n).take i.toNat).map row).length:Int)=i:=by rw[bH3,bI9,hm];omega
 refine⟨fun hi=>⟨⟨by omega,by omega,fun o' n' _ _=>by simp[lastIx]⟩,fun _ k p ⟨k0,k1,hp⟩=>?_⟩,fun hi=>⟨by omega,fun _=>fun o' n' e1 e2=>?_⟩⟩
 rotate_left 1
 ·rw[<-e1,<-e2,bK3 (by rw[hm];omega)]
 have hp:=hp o n rfl rfl
 obtain⟨c,hc⟩:=Sx.get_at i0 hi
 refine⟨fun hk=>?_,fun hk=>?_⟩
 ·obtain⟨d,hd⟩:=Sx.get_at k0 hk
  have hs:lastIx (spotAt o) (k+1).toNat (spotAt n i.toNat)=if spotAt o k.toNat=spotAt n i.toNat then(k.toNat:Int)else p:=by rw[y9 k0,hp];rfl
  rw[spot_at hd,spot_at hc]at hs
  have e1:∀x,(∀o' n',o=o'->n=n'->x=lastIx (spotAt o') (k+1).toNat (spotAt n' i.toNat))↔x=if spk d (bef (o.take k.toNat) d.k d.t)=spk c (bef (n.take i.toNat) c.k c.t)then(k.toNat:Int)else p:=fun x=>by
   rw[<-hs,<-spot_at hc]
   exact⟨fun h=>h o n rfl rfl,fun h o' n' a b=>by subst a;subst b;exact h⟩
  simp only[cell_rows hd,cell_rows hc,t0,t1,t2,t3,t4,t5,l6,z5,Q7,e1]
  have hyes:spk d (bef (o.take k.toNat) d.k d.t)=spk c (bef (n.take i.toNat) c.k c.t)->(k:Int)=if spk d (bef (o.take k.toNat) d.k d.t)=spk c (bef (n.take i.toNat) c.k c.t)then(k.toNat:Int)else p:=fun h=>by rw[bH6 h];omega
  have hno:¬spk d (bef (o.take k.toNat) d.k d.t)=spk c (bef (n.take i.toNat) c.k c.t)->p=if spk d (bef (o.take k.toNat) d.k d.t)=spk c (bef (n.take i.toNat) c.k c.t)then(k.toNat:Int)else p:=fun h=>by rw[bH4 h]
  generalize (if spk d (bef (o.take k.toNat) d.k d.t)=spk c (bef (n.take i.toNat) c.k c.t)then(k.toNat:Int)else p)=q at hyes hno⊢
  rw[spk_eq]at hyes hno
  have N:∀ {x:Int},x=q->(¬k+1< -9223372036854775808/\k+1<9223372036854775808)/\(¬k+1< -9223372036854775808/\k+1<9223372036854775808->(0<=k+1/\k+1<=(o.length:Int)/\x=q)/\(0<=k+1/\k+1<=(o.length:Int)/\x=q->((o.length:Int)-(k+1)).toNat<((o.length:Int)-k).toNat)):=fun h=>⟨⟨by omega,by omega⟩,fun _=>⟨⟨by omega,by omega,h⟩,fun _=>by omega⟩⟩
  refine⟨by omega,fun _=>⟨by omega,fun _=>⟨by omega,fun _=>⟨by omega,fun _=>⟨fun hy=>?_,fun hy=>N (hno fun h=>hy h.1)⟩⟩⟩⟩⟩
  refine⟨by omega,fun _=>⟨by omega,fun _=>⟨by omega,fun _=>⟨by omega,fun _=>⟨fun hk=>⟨fun ht=>?_,fun ht=>N (hno fun h=>ht h.2.2.1)⟩,fun hk=>N (hno fun h=>hk h.2.1)⟩⟩⟩⟩⟩
  refine⟨by omega,fun _=>⟨by omega,fun _=>⟨fun hy0=>?_,fun hy0=>N (hyes ⟨hy,hk,ht,fun h=>absurd h hy0⟩)⟩⟩⟩
  rw[hk,ht]at hyes hno
  refine⟨by omega,fun _=>⟨by omega,fun _=>⟨⟨⟨o,rfl,ho⟩,by omega,by omega⟩,fun _ x6 h6=>⟨by omega,fun _=>⟨by omega,fun _=>⟨⟨⟨n,rfl,hn⟩,by omega,by omega⟩,fun _ x7 h7=>⟨fun e=>N (hyes ⟨hy,rfl,rfl,fun _=>by omega⟩),fun e=>N (hno fun h=>e (by rw[h6,h7,h.2.2.2 hy0]))⟩⟩⟩⟩⟩⟩⟩
 ·have hm1:(mtch o n)[i.toNat]? =some p:=by rw[mtch_at (by omega),hp,show k.toNat=o.length by omega]
  refine⟨by omega,fun _=>⟨by omega,fun _=>⟨⟨by omega,by omega⟩,fun _=>⟨by omega,fun _=>⟨⟨by omega,by omega,fun o' n' e1 e2=>?_⟩,fun _=>by omega⟩⟩⟩⟩⟩
  rw[<-e1,<-e2,take_step i0 hm1,bK1];rfl
end Go.D
