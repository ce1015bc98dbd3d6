/- Trees: the conditions of walk and of Check hold.
  Conditions: none. -/
import Derived.Test.YtcjhhnoaoldcmaaGreatA4
set_option linter.unusedVariables false
set_option linter.unusedSimpArgs false
namespace Go.D
open Go Go.Xe Go.Sx
theorem AllA_iff (s:Tree):AllA s↔Alone s/\AllAs s.c:=by
 cases s;unfold AllA;rfl
theorem size_def (s:Tree):s.size=Tree.sizes s.c+1:=by cases s;rfl
theorem depth_def (s:Tree):s.depth=Tree.depths s.c+1:=by cases s;rfl
theorem AllAs_app (l m:List Tree):AllAs (l++m)↔AllAs l/\AllAs m:=by
 induction l with
 |nil=>simp[AllAs]
 |cons a l ih=>simp[AllAs,ih,and_assoc]
theorem sizes_app (l m:List Tree):Tree.sizes (l++m)=Tree.sizes l+Tree.sizes m:=by
 induction l with
 |nil=>simp[Tree.sizes]
 |cons a l ih=>simp only[Tree.sizes,bO1,ih];omega
theorem depths_app (l m:List Tree):Tree.depths (l++m)=max (Tree.depths l) (Tree.depths m):=by
 induction l with
 |nil=>simp[Tree.depths]
 |cons a l ih=>simp only[Tree.depths,bO1,ih];omega
theorem sizes_le (l:List Tree)(k:Nat):Tree.sizes (l.take k)<=Tree.sizes l:=by
 rw(occs:= .pos [2]) [<-bR3 k l];rw[sizes_app];omega
theorem depths_le (l:List Tree)(k:Nat):Tree.depths (l.take k)<=Tree.depths l:=by
 rw(occs:= .pos [2]) [<-bR3 k l];rw[depths_app];omega
theorem AllAs_take {l:List Tree}(h:AllAs l)(k:Nat):AllAs (l.take k):=by
 rw[<-bR3 k l,AllAs_app]at h;exact h.1
theorem AllAs_mem {l:List Tree}(h:AllAs l){k:Nat}{a:Tree}(ha:l[k]? =some a):AllA a:=by
 induction l generalizing k with
 |nil=>simp at ha
 |cons b l ih=>cases k with
  |zero=>cases ha;exact h.1
  |succ k=>exact ih h.2 (by simpa using ha)
theorem size_pos (s:Tree):1<=s.size:=by rw[size_def];omega
theorem alone_c {s:Tree}(h:Alone s):s.c.length<=16/\s.a.length<=8:=by
 rcases h with h|h
 ·simp[h.2.2.2.2.1,h.2.2.2.2.2]
 ·exact⟨h.2.2.2.2.2.1,h.2.2.2.2.1⟩
theorem bad {p q:Prop}(h:¬p):(false=true↔p)/\(false=true->q):=⟨no_iff h,fun e=>(by cases e)⟩
theorem one_s (c:Tree):Tree.sizes [c]=c.size:=by simp[Tree.sizes]
theorem one_d (c:Tree):Tree.depths [c]=c.depth:=by simp[Tree.depths]
theorem vcWalk_ok (n:Nat):vcWalk n:=by
 unfold vcWalk
 rintro _ lv n0 d0 ⟨⟨⟨s,rfl⟩,h1,h2,h3,h4,h5,h6⟩,hm⟩
 simp only[walkMu,walkPre]at hm
 simp only[Nd,ln,I64,cI,cS,cB,cL,cell1,part1,t0,t1,t2,t3,t4,t5,f9,p9,I8,bJ8,aloneRel,alonePre,walkRel,walkPre,walkMu,wlkInv,wlkMu,bO8,bP2,bO7,row_eq,bR7,forall_eq,exists_eq',A3,A0,bO2,bM3]
 refine⟨⟨by omega,by omega⟩,fun _=>⟨fun hd=>?_,fun hd=>?_⟩⟩
 all_goals
  have hsz:=size_def s
  have hdp:=depth_def s
  refine⟨fun h=>⟨by omega,by omega,by omega,by omega,bad fun g=>?_⟩,fun h6=>⟨fun h=>⟨by omega,by omega,by omega,by omega,bad fun g=>?_⟩,fun h64 b hb=>⟨fun e=>⟨⟨by omega,by omega,by omega,by omega,trivial,by simp[Tree.sizes],by omega,by simp only[bS4,List.take_zero,Tree.depths];omega,by omega,by simp only[bS4,List.take_zero,Tree.depths];omega,by omega⟩,fun _ k n' d' ⟨k0,_,_,k1,k2,k3,k4,k5,k6,k7,_⟩=>⟨fun hk=>?_,fun hk=>?_⟩⟩,fun e=>⟨by omega,by omega,by omega,by omega,bad fun g=>e (hb.2 ((AllA_iff s).1 g.1).1)⟩⟩⟩⟩
  ·have:=g.2.1;omega
  ·have:=g.2.2;have:=size_pos s;omega
  ·obtain⟨c,hc⟩:=Sx.get_at k0 hk
   have:=alone_c (hb.1 e)
   have hs1:=sizes_le s.c (k+1).toNat
   have hd1:=depths_le s.c (k+1).toNat
   simp only[part_one hc,bO8,bP2,row_eq,bR7,exists_eq',bO7]
   simp only[take_step k0 hc,sizes_app,one_s,depths_app,one_d]at hs1 hd1⊢
   refine⟨by omega,fun _=>⟨hk,fun _=>⟨⟨by omega,by omega⟩,fun _=>⟨⟨⟨by omega,by omega,by omega,by omega,by omega,by omega⟩,by omega⟩,fun _ b' m d2 ⟨q1,q2,q3,q4,q5,q6⟩=>⟨fun e'=>?_,fun e'=>?_⟩⟩⟩⟩⟩
   ·obtain⟨g1,g2,g3⟩:=q5.1 e'
    obtain⟨q7,q8⟩:=q6 e'
    have:1<=c.depth:=by rw[depth_def];omega
    exact⟨⟨by omega,by omega⟩,fun _=>⟨⟨by omega,by omega,by omega,by omega,(AllAs_app _ _).2 ⟨k2,g1,trivial⟩,by omega,by omega,by omega,by omega,by omega,by omega⟩,fun _=>by omega⟩⟩
   ·refine⟨q1,q2,q3,q4,bad fun g=>e' (q5.2 ⟨AllAs_mem ((AllA_iff s).1 g.1).2 hc,?_,?_⟩)⟩
    ·have:=g.2.1;omega
    ·have:=g.2.2;omega
  ·rw[take_full (by omega)]at k2 k3 k5 k7
   have g:Good s lv n0:=⟨(AllA_iff s).2 ⟨hb.1 e,k2⟩,by omega,by omega⟩
   exact⟨by omega,by omega,by omega,by omega,⟨fun _=>g,fun _=>trivial⟩,by omega,by omega⟩
theorem no14 {p:Prop}(h:¬p):((14:Int)=0↔p):=⟨fun e=>absurd e (by decide),fun e=>absurd e h⟩
theorem vcChk_ok :vcChk:=by
 unfold vcChk
 rintro _ _ _ _ _ _ ⟨s,rfl,rfl,rfl,rfl,rfl,rfl⟩
 have e:Sx.part (Sx.chunk 6 1 [(.int s.k),(.str s.t),(.str s.y),(.lst (s.a.map Att.row)),(.str s.x),(.lst (rows s.c))]) 0 1=[s.row]:=by rw[row_def];rfl
 simp only[Nd,e,walkPre,walkRel,chkRel,isT_self,bO8,bP2,row_eq,bR7,forall_eq,exists_eq',bO7,bO2]
 refine⟨by omega,fun _ b n d ⟨h1,h2,h3,h4,h5,h6⟩=>⟨fun e=>?_,fun e=>⟨no14 fun h=>absurd (h5.2 ⟨h.1,by have:=h.2.2;omega,by have:=h.2.1;omega⟩) e,.inr trivial⟩⟩⟩
 obtain⟨g1,g2,g3⟩:=h5.1 e
 have:=(h6 e).1
 have:=size_pos s
 exact⟨fun h=>by omega,fun _=>⟨⟨fun _=>⟨g1,by omega,by omega⟩,fun _=>trivial⟩,.inl trivial⟩⟩
end Go.D
