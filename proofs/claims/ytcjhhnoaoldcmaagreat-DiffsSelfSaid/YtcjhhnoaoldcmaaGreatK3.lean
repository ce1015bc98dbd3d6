/- DiffsSelf: its condition holds.
  Conditions: none. -/
import Derived.Test.YtcjhhnoaoldcmaaGreatK2
import Derived.Test.YtcjhhnoaoldcmaaGreatK6
set_option linter.unusedVariables false
set_option linter.unusedSimpArgs false
namespace Go.D
open Go Go.Xe Go.Sx
open Go.C36 (row j0 lis)
variable {d:List Dat}
theorem slf_t :slfRel d [.bool true]:=by unfold slfRel;rfl
theorem slf_l {b:Bool}(h:livesRel [] [.bool b]):slfRel d [.bool b]:=by
 have h: [Dat.bool b]=[.bool true]:=h
 rw[h];exact slf_t
variable {C:Sx.Rows}
theorem slf0 {s:Tree}(v:Valid s){k n m b:Int}{t y x:Str}{a c:Sx.Rows}(h:isT s k t y a x c):vcSlf0 (rows s.c) k t y a x c s.k s.t s.y (s.a.map Att.row) s.x n m C b:=by
 obtain⟨rfl,rfl,rfl,rfl,rfl,rfl⟩:=h
 unfold vcSlf0
 refine⟨by omega,fun _=>⟨rfl,fun _=>⟨⟨⟨s,rfl,rfl,rfl,rfl,rfl,rfl⟩,s,rfl,rfl,rfl,rfl,rfl,rfl⟩,fun _ e he=>?_⟩⟩⟩
 have he:=(he s s ⟨rfl,rfl,rfl,rfl,rfl,rfl⟩ ⟨rfl,rfl,rfl,rfl,rfl,rfl⟩).1 ⟨v,rfl⟩
 exact⟨fun _=>⟨rfl,fun _ b hb=>⟨slf_l hb,fun _=>trivial⟩⟩,fun h=>absurd he h⟩
theorem slf1 {s : Tree} {l : List Tree} (hk : s.k = 1) (v : Valid s) (v' : Valid (.mk s.k s.t s.y s.a s.x l)) {S : Sx.Rows} {n m b : Int}  ( q : ∃  j, MvS s.c.length S  j ∧ (( j.length : Int) < max (s.c.length : Int) 1) ∧ mvs s.c  j = l) :
  vcSlf1 0 S n m C b (rows s.c) s.k s.t s.y (s.a.map Att.row) s.x (rows l) s.k s.t s.y (s.a.map Att.row) s.x:=by
 obtain⟨j,hM,hlt,rfl⟩:=q
 have hl:ln S=j.length:=by rw[hM.1];simp[ln]
 have hc:ln (rows s.c)=s.c.length:=by simp[ln]
 have o:s.c.length<=16:=(alone_c ((AllA_iff s).1 v.1).1).1
 unfold vcSlf1
 refine⟨fun _=>⟨⟨bL5 _,by omega⟩,fun _ i hi=>⟨fun h=>?_,fun h=>?_⟩⟩,fun h=>absurd rfl h⟩
 ·obtain⟨h0,h1⟩:=hi
  have hj:i.toNat<j.length:=by omega
  have p:cI S i 0=6:=by
   unfold cI
   rw[hM.1,e9 (f:=fun m:Int×Int=>stp 6 [] [] [] m.1 m.2 zT) (bG3 hj)]
   rfl
  refine⟨by omega,fun _=>⟨h,fun _=>⟨h,fun _=>⟨fun _=>⟨⟨by omega,by omega⟩,fun _=>⟨⟨by omega,by omega⟩,fun _=>⟨?_,fun _=>trivial⟩⟩⟩,fun g=>absurd p g⟩⟩⟩⟩
  show(ln S-(i+1)).toNat<(ln S-i).toNat
  omega
 ·have P:apmPre [.str s.t,.str s.y,.lst (s.a.map Att.row),.str s.x,.lst (rows s.c),.lst S]:=⟨s,⟨hk.symm,rfl,rfl,rfl,rfl,rfl⟩,v,j,hM,by omega,by rw[<-hk];exact v'⟩
  refine⟨by omega,fun _=>⟨rfl,fun _=>⟨by omega,fun _=>⟨rfl,fun _=>⟨hk,fun _=>⟨P,fun _ k t y a x c e he=>?_⟩⟩⟩⟩⟩⟩
  obtain⟨rfl,he⟩:=he
  have he:=he s j ⟨hk.symm,rfl,rfl,rfl,rfl,rfl⟩ hM
  rw[<-hk]at he
  have F:=slf0 (n:=n) (m:=m) (b:=b) (C:=C) v' he
  exact⟨fun _=>⟨fun h1=>⟨fun _=>F,fun h2=>absurd h1 (by omega)⟩,fun h1=>⟨fun _=>F,fun h2=>absurd h1 (by omega)⟩⟩,fun h=>absurd rfl h⟩
theorem vcSlf_ok :vcSlf:=by
 unfold vcSlf
 rintro n m C b ⟨Y,Z,V,N⟩
 have J:troPre [.int n,.int m,.lst C]:=⟨Y,Z,V⟩
 refine⟨J,fun _ k t y a x c h=>⟨J,fun _ k' t' y' a' x' c' h'=>?_⟩⟩
 obtain⟨⟨rfl,rfl,rfl,rfl,rfl,rfl⟩,v⟩:=h
 obtain⟨⟨rfl,rfl,rfl,rfl,rfl,rfl⟩, -⟩:=h'
 have hk:(ofN n m C).k=1:=rfl
 generalize ofN n m C=s at v hk⊢
 have U:s.c.length<=16:=(alone_c ((AllA_iff s).1 v.1).1).1
 have hc:ln (rows s.c)=s.c.length:=by simp[ln]
 have O:ddaPre [.int s.k,.str s.t,.str s.y,.lst (s.a.map Att.row),.str s.x,.lst (rows s.c),.int s.k,.str s.t,.str otherS,.lst (s.a.map Att.row),.str s.x,.lst (rows s.c)]:=
  ⟨rfl,rfl,⟨s,⟨rfl,rfl,rfl,rfl,rfl,rfl⟩,v⟩,.mk s.k s.t otherS s.a s.x s.c,⟨rfl,rfl,rfl,rfl,rfl,rfl⟩,other_valid hk v⟩
 refine⟨by omega,fun _=>⟨rfl,fun _=>⟨by omega,fun _=>⟨rfl,fun _=>⟨O,fun _ L e h=>?_⟩⟩⟩⟩⟩
 obtain⟨rfl,rfl⟩:=self_dda v h
 refine⟨fun _=>⟨fun _=>⟨fun h=>absurd h (by decide),fun _=>?_⟩,fun h=>absurd rfl h⟩,fun h=>absurd rfl h⟩
 refine⟨by omega,fun _=>⟨rfl,fun _=>⟨⟨bL5 _,by omega,by omega,rfl,rfl,rfl,rfl,rfl,fun M h0=>⟨M,h0,rfl,fun z hz=>by simp at hz⟩⟩,fun _ i k t y a x c g=>⟨fun hi=>?_,fun hi=>?_⟩⟩⟩⟩
 ·have W:=fun d=>sa_step (d:=d) g hi
  obtain⟨h0,h1,h2,rfl,rfl,rfl,rfl,rfl,B⟩:=g
  refine⟨by omega,fun _=>⟨hi,fun _=>⟨⟨by omega,by omega⟩,fun _ d K=>⟨by omega,fun _=>⟨hi,fun _=>⟨hi,fun _=>⟨⟨by omega,by omega⟩,fun _=>⟨by omega,fun _=>⟨rfl,fun _=>⟨W d,fun _=>⟨?_,fun _=>trivial⟩⟩⟩⟩⟩⟩⟩⟩⟩⟩⟩
  obtain⟨l,hl,e,_⟩:=B _ rfl
  have:ln c=s.c.length:=by rw[hl];simp[ln,e]
  show(ln (rows s.c)-(i+1)).toNat<(ln (rows s.c)-i).toNat
  omega
 ·obtain⟨h0,h1,h2,rfl,rfl,rfl,rfl,rfl,B⟩:=g
  obtain⟨l,rfl,e,hy⟩:=B _ rfl
  have X:ln (rows l)=l.length:=by simp[ln]
  rw[bK0 (by omega)]at hy
  have H:=fun i c j=> @sb_step (.mk s.k s.t s.y s.a s.x l) i s.k j s.t s.y s.x (s.a.map Att.row) c
  refine⟨⟨bL5 _,by omega,by omega,rfl,rfl,rfl,rfl,rfl,fun M h0=>⟨[],rfl,rfl,fun z hz=>by cases hz⟩⟩,fun _ p k t y a x c g=>⟨fun hi=>?_,fun hi=>?_⟩⟩
  ·have D:=g
   obtain⟨Q,R,T,rfl,rfl,rfl,rfl,rfl,A⟩:=g
   obtain⟨f,rfl,P,_⟩:=A _ rfl
   have o:ln (rows f)=f.length:=by simp[ln]
   have ht:b.tmod 3=0\/b.tmod 3=1\/b.tmod 3=2:=by
    rw[Int.tmod_eq_emod_of_nonneg N.1];omega
   have hp:0<=p*(2*b.tmod 3+1)/\p*(2*b.tmod 3+1)<=80:=by
    rcases ht with e|e|e<;>rw[e]<;>omega
   obtain⟨b0,b1⟩:=N
   have hr:=tmod_rng (a:=p*(2*b.tmod 3+1)+b) (n:=ln (rows l)) (by omega) (by omega)
   have I:=H _ _ _ D hi hr.1 hr.2
   refine⟨⟨by omega,by omega⟩,fun _=>⟨⟨by omega,by omega⟩,fun _=>⟨⟨by omega,by omega⟩,fun _=>⟨⟨by omega,by omega⟩,fun _=>⟨⟨by omega,by omega⟩,fun _=>⟨⟨by omega,by omega⟩,fun _=>⟨by omega,fun _=>⟨by omega,fun _=>⟨hr.2,fun _=>⟨hr.2,fun _=>⟨by omega,fun _=>⟨by omega,fun _=>⟨rfl,fun _=>⟨⟨by omega,by omega⟩,fun _=>⟨by omega,fun _=>⟨rfl,fun _=>⟨I,fun _=>⟨?_,fun _=>trivial⟩⟩⟩⟩⟩⟩⟩⟩⟩⟩⟩⟩⟩⟩⟩⟩⟩⟩
   show(ln (rows l)-(p+1)).toNat<(ln (rows l)-p).toNat
   omega
  ·obtain⟨Q,R,T,rfl,rfl,rfl,rfl,rfl,A⟩:=g
   obtain⟨f,rfl,P,hm⟩:=A _ rfl
   have o:ln (rows f)=f.length:=by simp[ln]
   have q:isT (.mk s.k s.t s.y s.a s.x l) s.k s.t s.y (s.a.map Att.row) s.x (rows l):=⟨rfl,rfl,rfl,rfl,rfl,rfl⟩
   have r:isT (.mk s.k s.t s.y s.a s.x f) s.k s.t s.y (s.a.map Att.row) s.x (rows f):=⟨rfl,rfl,rfl,rfl,rfl,rfl⟩
   refine⟨by omega,fun _=>⟨rfl,fun _=>⟨⟨_,q⟩,fun _ r1 E=>⟨fun z1=>?_,fun _=>⟨rfl,fun _ b hb=>⟨slf_l hb,fun _=>trivial⟩⟩⟩⟩⟩⟩
   refine⟨by omega,fun _=>⟨rfl,fun _=>⟨⟨_,r⟩,fun _ r2 G=>⟨fun z2=>?_,fun _=>⟨rfl,fun _ b hb=>⟨slf_l hb,fun _=>trivial⟩⟩⟩⟩⟩⟩
   have u:=(E _ q).1.1 z1
   have w:=(G _ r).1.1 z2
   refine⟨by omega,fun _=>⟨rfl,fun _=>⟨by omega,fun _=>⟨rfl,fun _=>⟨⟨rfl,rfl,⟨_,q,u⟩,_,r,w⟩,fun _ S e K=>?_⟩⟩⟩⟩⟩
   obtain⟨rfl,hM⟩:=two_dda (s:= .mk s.k s.t s.y s.a s.x l) (s':= .mk s.k s.t s.y s.a s.x f) u w rfl rfl hy (by show f.length=l.length;omega) hm K
   have F:=slf1 (s:= .mk s.k s.t s.y s.a s.x l) (l:=f) (n:=n) (m:=m) (b:=b) (C:=C) hk u w hM
   exact⟨fun _=>F,fun _=>F⟩
end Go.D
