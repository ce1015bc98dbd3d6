/- DiffsErrors: its condition holds.
  Conditions: none. -/
import Derived.Test.YtcjhhnoaoldcmaaGreatJ2
import Derived.Test.YtcjhhnoaoldcmaaGreatC5
import Derived.Test.YtcjhhnoaoldcmaaGreatD5
import Derived.Test.YtcjhhnoaoldcmaaGreatGC
set_option linter.unusedVariables false
set_option linter.unusedSimpArgs false
namespace Go.D
open Go Go.Xe Go.Sx
open Go.C36 (row t6 lis cLong cRlong longPre longRel rlongPre rlongRel)
theorem lv_t {d:List Dat}{b:Bool}(h:livesRel [] [.bool b]):errRel d [.bool b]:=by
 cases b with
 |true=>rfl
 |false=>exact absurd h (by simp[livesRel,aQ7])
theorem eo_inv {m:List Int}{i:Int}{r:Bool}:eoInv [.lst (m.map row)] [.int i,.bool r]↔0<=i/\i<=(m.length:Int)/\(r=true↔OKm (m.take i.toNat)):=by
 simp only[eoInv,ln,bJ8,rowm_eq,bR7]
theorem ei_inv {m:List Int}{i k:Int}{r:Bool}:eiInv [.lst (m.map row),.int i] [.int k,.bool r]↔0<=k/\k<=i/\i<(m.length:Int)/\(r=true↔OKm (m.take i.toNat)/\ -1<=m.getD i.toNat 0/\(0<=m.getD i.toNat 0-> ∀z∈m.take k.toNat,z≠m.getD i.toNat 0)):=by
 simp only[eiInv,ln,bJ8,rowm_eq,bR7]
theorem err0 {m:List Int}(hm:m.length<=30){i:Int}(i0:0<=i)(i1:i<(m.length:Int))(r:Bool):vcErr0 (m.map row) i r:=by
 have hv:=getD_at (l:=m) (d:=0) i0 i1
 unfold vcErr0
 intro k b hk
 obtain⟨k0,k1,_,hb⟩:=ei_inv.1 hk
 have mu:∀b',eiMu [.lst (m.map row),.int i] [.int (k+1),.bool b']<eiMu [.lst (m.map row),.int i] [.int k,.bool b]\/ ¬k<i:=fun b'=>by
  show(i-(k+1)).toNat<(i-k).toNat\/_
  omega
 have e1:∀b',eoMu [.lst (m.map row)] [.int (i+1),.bool b']<eoMu [.lst (m.map row)] [.int i,.bool r]:=fun b'=>by
  show(((m.map row).length:Int)-(i+1)).toNat<(((m.map row).length:Int)-i).toNat
  rw[bJ8];omega
 have l1:ln (m.map row)=m.length:=by simp[ln]
 simp only[Nd,cI_row,l1]
 refine⟨fun h=>?_,fun h=>⟨by simp only[I64];omega,fun _=>⟨?_,fun _=>⟨e1 _,fun _=>trivial⟩⟩⟩⟩
 ·have mu:=fun b'=>(mu b').resolve_right (by omega)
  have hw:=getD_at (l:=m) (d:=0) k0 (by omega)
  have st:∀b',(b'=true↔(b=true/\(0<=m.getD i.toNat 0->m.getD k.toNat 0≠m.getD i.toNat 0)))->eiInv [.lst (m.map row),.int i] [.int (k+1),.bool b']:=fun b' hb'=>ei_inv.2 ⟨by omega,by omega,i1,by
   rw[hb',hb,take_step k0 hw]
   simp only[bL6,bO4]
   constructor
   ·rintro ⟨⟨a1,a2,a3⟩,a4⟩
    exact⟨a1,a2,fun h z hz=>hz.elim (a3 h z) fun e=>e▸a4 h⟩
   ·rintro ⟨a1,a2,a3⟩
    exact⟨⟨a1,a2,fun h z hz=>a3 h z (.inl hz)⟩,fun h=>a3 h _ (.inr rfl)⟩⟩
  have i64:I64 (k+1):=by simp only[I64];omega
  refine⟨fun hb1=>⟨by omega,fun _=>⟨i1,fun _=>⟨fun hn=>⟨i64,fun _=>⟨st _ ⟨fun _=>⟨hb1,fun h=>absurd hn (Int.not_lt.2 h)⟩,fun _=>rfl⟩,fun _=>⟨mu _,fun _=>trivial⟩⟩⟩,fun hn=>⟨by omega,fun _=>⟨i1,fun _=>⟨by omega,fun _=>⟨by omega,fun _=>⟨i64,fun _=>⟨st _ ?_,fun _=>⟨mu _,fun _=>trivial⟩⟩⟩⟩⟩⟩⟩⟩⟩⟩,fun hb1=>⟨i64,fun _=>⟨st _ (by simp[hb1]),fun _=>⟨mu _,fun _=>trivial⟩⟩⟩⟩
  rw[hb1]
  simp only[bM5,bM7,bO7]
  exact⟨fun h _ e=>h e.symm,fun h e=>h (Int.not_lt.1 hn) e.symm⟩
 ·refine eo_inv.2 ⟨by omega,by omega,?_⟩
  have:k=i:=by omega
  subst this
  rw[hb,take_step k0 hv,OKm_snoc]
  simp only[pl,List.mem_filter,bK0]
  constructor
  ·rintro ⟨a1,a2,a3⟩
   exact⟨a1,a2,fun h hm=>a3 h _ hm.1 rfl⟩
  ·rintro ⟨a1,a2,a3⟩
   exact⟨a1,a2,fun h z hz e=>a3 h ⟨e▸hz,h⟩⟩
section
variable (k :Int)(t y:List UInt8)(a:Sx.Rows)(x:List UInt8)(c:Sx.Rows)
theorem err1 {m:List Int}(hm:m.length<=30):vcErr1 (m.map row) k t y a x c:=by
 have l1:ln (m.map row)=m.length:=by simp[ln]
 have sp:stayPre [.lst (m.map row)]:=⟨m,rfl,by omega⟩
 unfold vcErr1
 simp only[Nd,cI_row,l1]
 refine⟨eo_inv.2 ⟨by omega,by omega,⟨fun _=>⟨by simp,by simp[pl]⟩,fun _=>rfl⟩⟩,fun _ i r hi=>?_⟩
 obtain⟨i0,i1,hr⟩:=eo_inv.1 hi
 refine⟨fun h=>⟨fun hr1=>⟨by omega,fun _=>⟨h,fun _=>⟨ei_inv.2 ⟨by omega,i0,h,?_⟩,fun _=>err0 hm i0 h r⟩⟩⟩,fun hr1=>⟨ei_inv.2 ⟨by omega,i0,h,?_⟩,fun _=>err0 hm i0 h r⟩⟩,fun h=>⟨sp,fun _ S hS=>⟨fun hr1=>⟨sp,fun _ I hI=>⟨fun hl=>?_,fun hl=>?_⟩⟩,fun hr1=>?_⟩⟩⟩
 ·have:=hr.1 hr1
  simp only[bM5,bM7,this,bO7,bS4,List.take_zero,List.not_mem_nil,false_implies,bO2,bP2]
  omega
 ·exact⟨fun e=>(by cases e),fun e=>absurd (hr.2 e.1) hr1⟩
 ·rw[take_full (by omega)]at hr
  have hS:=(hS m rfl).1 (hr.1 hr1)
  have hI:=hI m rfl
  subst hS;subst hI
  have e2:ln ((stayM m).map irow)=m.length:=by simp[ln,stay_len]
  have e3:ln ((stayM m).map brow)=m.length:=by simp[ln,stay_len]
  refine⟨⟨by omega,by simp[ln],hl⟩,fun _ j hj=>⟨fun h=>?_,fun h=>⟨rfl,fun _ b hb=>⟨lv_t hb,fun _=>trivial⟩⟩⟩⟩
  obtain⟨j0,j1,_⟩:=hj
  obtain⟨b,hb⟩:=Sx.get_at (T:=stayM m) j0 (by rw[stay_len];omega)
  refine⟨by omega,fun _=>⟨by omega,fun _=>⟨by omega,fun _=>⟨h,fun _=>⟨fun _=>⟨by simp only[I64];omega,fun _=>⟨⟨by omega,by omega,hl⟩,fun _=>⟨?_,fun _=>trivial⟩⟩⟩,fun hn=>absurd ?_ hn⟩⟩⟩⟩⟩
  ·show(((stayM m).map brow).length-(j+1)).toNat<(((stayM m).map brow).length-j).toNat
   simp only[ln]at e3
   omega
  ·unfold cI cB A9
   simp only[bL0,bM9,hb]
   cases b<;>rfl
 ·rw[take_full (by omega)]at hr
  have hS:=(hS m rfl).1 (hr.1 hr1)
  have hI:=hI m rfl
  subst hS;subst hI
  exact absurd (by simp[ln]) hl
 ·rw[take_full (by omega)]at hr
  have hS:=(hS m rfl).2 fun e=>hr1 (hr.2 e)
  subst hS
  exact⟨fun _=>⟨rfl,fun _ b hb=>⟨lv_t hb,fun _=>trivial⟩⟩,fun h=>absurd rfl h⟩
theorem err2 {m:List Int}(hm:m.length<=30)(p:Int)(q r:List UInt8)(u v w:Sx.Rows)(z:List UInt8):vcErr2 0 0 0 0 0 0 (m.map row) k t y a x c p q r z u w:=by
 have:=err1 k t y a x c hm
 unfold vcErr2
 simp only[not_true_eq_false,false_implies,bM3,bP2,this]
theorem err5 {m:List Int}(hm:m.length<=30):vcErr5 14 14 14 14 14 14 14 14 (m.map row) k t y a x c:=by
 have:=err1 k t y a x c hm
 unfold vcErr5 vcErr3
 simp only[not_true_eq_false,false_implies,bM3,bP2,this,bO2,and_self]
end
def goodT :Tree:= .mk 1 [97] [] [] [] []
theorem good_v :Valid goodT:=by
 refine⟨(AllA_iff _).2 ⟨.inr ⟨rfl,rfl,.inl rfl,rfl,bR4 _,bR4 _,fun a h=>by simp[goodT,Tree.a]at h,List.Pairwise.nil,List.Pairwise.nil⟩,trivial⟩,by decide,by decide⟩
theorem vcErr_ok :vcErr:=by
 unfold vcErr
 rintro _ _ _ _ _ _ _ ⟨⟨s,rfl,rfl,rfl,rfl,rfl,rfl⟩,m,rfl⟩
 have T:isT s s.k s.t s.y (s.a.map Att.row) s.x (rows s.c):=⟨rfl,rfl,rfl,rfl,rfl,rfl⟩
 have G:isT goodT 1 [97] [] [] [] []:=⟨rfl,rfl,rfl,rfl,rfl,rfl⟩
 have l1:ln (m.map row)=m.length:=by simp[ln]
 have lv:∀(p q:Prop),(∀b:Bool,livesRel [] [.bool b]->q)->(livesPre []/\(p-> ∀b:Bool,livesRel [] [.bool b]->q)):=fun _ _ h=>⟨rfl,fun _=>h⟩
 simp only[Nd]
 refine⟨⟨by omega,by omega,s,T⟩,fun _ w hw=>⟨fun h=>⟨rfl,fun _ b hb=>⟨lv_t hb,fun _=>trivial⟩⟩,fun h=>⟨fun h=>⟨rfl,fun _ b hb=>⟨lv_t hb,fun _=>trivial⟩⟩,fun hm=>⟨⟨s,T⟩,fun _ e he=>⟨⟨goodT,G⟩,fun _ e2 he2=>⟨fun _=>?_,fun h=>absurd ((he2 _ G).1.2 good_v) h⟩⟩⟩⟩⟩⟩
 refine⟨⟨⟨s,T⟩,goodT,G⟩,fun _ _ e3 h3=>⟨⟨⟨goodT,G⟩,s,T⟩,fun _ _ e4 h4=>⟨⟨⟨s,T⟩,goodT,G⟩,fun _ _ e5 h5=>⟨⟨⟨goodT,G⟩,s,T⟩,fun _ _ e6 h6=>⟨⟨.inr rfl,⟨s,T⟩,goodT,G⟩,fun _ _ _ _ _ _ _ e7 h7=>⟨⟨.inl rfl,⟨goodT,G⟩,s,T⟩,fun _ _ _ _ _ _ _ e8 h8=>⟨⟨s,T⟩,fun _=>?_⟩⟩⟩⟩⟩⟩⟩
 have hm:m.length<=30:=by omega
 have h3:=h3 _ _ T G
 have h4:=h4 _ _ G T
 have h5:=h5 _ _ T G
 have h6:=h6 _ _ G T
 have h7:=h7 _ _ T G
 have h8:=h8 _ _ G T
 have he:=he _ T
 unfold vcErr6
 simp only[Nd]
 by_cases v:Valid s
 ·obtain rfl:=he.1.2 v
  obtain rfl:=(h3.1 ⟨v,good_v⟩).1
  obtain rfl:=(h4.1 ⟨good_v,v⟩).1
  obtain rfl:=h5.1 ⟨v,good_v⟩
  obtain rfl:=h6.1 ⟨good_v,v⟩
  obtain rfl:=h7.1 ⟨v,good_v⟩
  obtain rfl:=h8.1 ⟨good_v,v⟩
  have st:∀(k:Int) (t y:Str) (a:Sx.Rows) (x:Str) (c:Sx.Rows),cpdRel [.int s.k,.str s.t,.str s.y,.lst (s.a.map Att.row),.str s.x,.lst (rows s.c),.bool true] [.int k,.str t,.str y,.lst a,.str x,.lst c]->isT s k t y a x c:=fun k t y a x c h=>by
   have:=h s T
   rwa[strip_true]at this
  refine fun e9 h9=>⟨fun _=>⟨⟨s,T⟩,fun _ e10 h10=>⟨fun _=>⟨⟨s,T,v.1⟩,fun _ k t y a x c hc=>?_⟩,fun h=>absurd ((h10 _ T).1.2 v) h⟩⟩,fun h=>absurd ((h9 _ T).1.2 v) h⟩
  obtain⟨rfl,rfl,rfl,rfl,rfl,rfl⟩:=st _ _ _ _ _ _ hc
  exact⟨⟨s,T⟩,fun _ e11 h11=>⟨fun _=>⟨⟨s,T⟩,fun _ e12 h12=>⟨fun _=>⟨⟨s,T,v.1⟩,fun _ _ _ _ _ _ _ _=>⟨fun _=>err2 _ _ _ _ _ _ hm _ _ _ _ [] _ _,fun h=>absurd rfl h⟩⟩,fun h=>absurd ((h12 _ T).1.2 v) h⟩⟩,fun h=>absurd ((h11 _ T).1.2 v) h⟩⟩
 ·have n1:¬(Valid s/\Valid goodT):=fun h=>v h.1
  have n2:¬(Valid goodT/\Valid s):=fun h=>v h.2
  obtain rfl:=he.2.resolve_left fun h=>v (he.1.1 h)
  obtain rfl:=(h3.2 n1).1
  obtain rfl:=(h4.2 n2).1
  obtain rfl:=h5.2 n1
  obtain rfl:=h6.2 n2
  obtain rfl:=h7.2 n1
  obtain rfl:=h8.2 n2
  refine fun e9 h9=>⟨fun h=>absurd ((h9 _ T).1.1 h) v,fun h=>?_⟩
  obtain rfl:=(h9 _ T).2.resolve_left h
  exact err5 _ _ _ _ _ _ hm
end Go.D
