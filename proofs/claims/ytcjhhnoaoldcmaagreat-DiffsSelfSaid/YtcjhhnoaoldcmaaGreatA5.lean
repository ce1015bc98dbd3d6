/- Trees: the conditions of walk and of Check hold.
  Conditions: none. -/
import Derived.Test.YtcjhhnoaoldcmaaGreatA4
set_option linter.unusedVariables false
set_option linter.unusedSimpArgs false
namespace Go.D
open Go Go.Xe Go.Sx
theorem AllA_iff (s:Tree):AllA s↔Alone s/\AllAs s.c:=by
 cases s;unfold AllA;rfl
theorem size_def (s:Tree):s.size=Tree.sizes s.c+1:=by cases s;rfl
theorem depth_def (s:Tree):s.depth=Tree.depths s.c+1:=by cases s;rfl
theorem AllAs_app (l m:List Tree):AllAs (l++m)↔AllAs l/\AllAs m:=by
 induction l with
 |nil=>simp[AllAs]
 |cons a l b=>simp[AllAs,b,and_assoc]
theorem sizes_app (l m:List Tree):Tree.sizes (l++m)=Tree.sizes l+Tree.sizes m:=by
 induction l with
 |nil=>simp[Tree.sizes]
 |cons a l b=>simp only[Tree.sizes,bL3,b];omega
theorem depths_app (l m:List Tree):Tree.depths (l++m)=max (Tree.depths l) (Tree.depths m):=by
 induction l with
 |nil=>simp[Tree.depths]
 |cons a l b=>simp only[Tree.depths,bL3,b];omega
theorem sizes_le (l:List Tree)(k:Nat):Tree.sizes (l.take k)<=Tree.sizes l:=by
 rw(occs:= .pos [2]) [<-bO5 k l];rw[sizes_app];omega
theorem depths_le (l:List Tree)(k:Nat):Tree.depths (l.take k)<=Tree.depths l:=by
 rw(occs:= .pos [2]) [<-bO5 k l];rw[depths_app];omega
variable {l:List Tree}
theorem AllAs_take (h:AllAs l)(k:Nat):AllAs (l.take k):=by
 rw[<-bO5 k l,AllAs_app]at h;exact h.1
theorem AllAs_mem (h:AllAs l){k:Nat}{a:Tree}(c:l[k]? =some a):AllA a:=by
 induction l generalizing k with
 |nil=>simp at c
 |cons b l d=>cases k with
  |zero=>cases c;exact h.1
  |succ k=>exact d h.2 (by simpa using c)
theorem size_pos (s:Tree):1<=s.size:=by rw[size_def];omega
theorem alone_c {s:Tree}(h:Alone s):s.c.length<=16/\s.a.length<=8:=by
 rcases h with h|h
 ·simp[h.2.2.2.2.1,h.2.2.2.2.2]
 ·exact⟨h.2.2.2.2.2.1,h.2.2.2.2.1⟩
theorem bad {p q:Prop}(h:¬p):(false=true↔p)/\(false=true->q):=⟨no_iff h,fun e=>(by cases e)⟩
theorem one_s (c:Tree):Tree.sizes [c]=c.size:=by simp[Tree.sizes]
theorem one_d (c:Tree):Tree.depths [c]=c.depth:=by simp[Tree.depths]
theorem vcWalk_ok (n:Nat):vcWalk n:=by
 unfold vcWalk
 rintro _ lv n0 x ⟨⟨⟨s,rfl⟩,h1,h2,h3,h4,B,f⟩,hm⟩
 simp only[walkMu,walkPre]at hm
 simp only[Nd,ln,I64,cI,cS,cB,cL,cell1,part1,t0,t1,t2,t3,t4,t5,i5,j7,I7,bH0,aloneRel,alonePre,walkRel,walkPre,walkMu,wlkInv,wlkMu,bM0,bM4,bL9,row_eq,bO9,forall_eq,exists_eq',u6,u5,bL4,bJ5]
 refine⟨⟨by omega,by omega⟩,fun _=>⟨fun j=>?_,fun j=>?_⟩⟩
 all_goals
  have p:=size_def s
  have o:=depth_def s
  refine⟨fun h=>⟨by omega,by omega,by omega,by omega,bad fun g=>?_⟩,fun f=>⟨fun h=>⟨by omega,by omega,by omega,by omega,bad fun g=>?_⟩,fun i b hb=>⟨fun e=>⟨⟨by omega,by omega,by omega,by omega,trivial,by simp[Tree.sizes],by omega,by simp only[bP7,List.take_zero,Tree.depths];omega,by omega,by simp only[bP7,List.take_zero,Tree.depths];omega,by omega⟩,fun _ k n' w ⟨k0,_,_,k1,k2,k3,C,q,D,r,_⟩=>⟨fun hk=>?_,fun hk=>?_⟩⟩,fun e=>⟨by omega,by omega,by omega,by omega,bad fun g=>e (hb.2 ((AllA_iff s).1 g.1).1)⟩⟩⟩⟩
  ·have:=g.2.1;omega
  ·have:=g.2.2;have:=size_pos s;omega
  ·obtain⟨c,hc⟩:=Sx.get_at k0 hk
   have:=alone_c (hb.1 e)
   have hs1:=sizes_le s.c (k+1).toNat
   have hd1:=depths_le s.c (k+1).toNat
   simp only[part_one hc,bM0,bM4,row_eq,bO9,exists_eq',bL9]
   simp only[take_step k0 hc,sizes_app,one_s,depths_app,one_d]at hs1 hd1⊢
   refine⟨by omega,fun _=>⟨hk,fun _=>⟨⟨by omega,by omega⟩,fun _=>⟨⟨⟨by omega,by omega,by omega,by omega,by omega,by omega⟩,by omega⟩,fun _ b' m y ⟨q1,q2,t,u,a,v⟩=>⟨fun e'=>?_,fun e'=>?_⟩⟩⟩⟩⟩
   ·obtain⟨d,z,A⟩:=a.1 e'
    obtain⟨E,F⟩:=v e'
    have:1<=c.depth:=by rw[depth_def];omega
    exact⟨⟨by omega,by omega⟩,fun _=>⟨⟨by omega,by omega,by omega,by omega,(AllAs_app _ _).2 ⟨k2,d,trivial⟩,by omega,by omega,by omega,by omega,by omega,by omega⟩,fun _=>by omega⟩⟩
   ·refine⟨q1,q2,t,u,bad fun g=>e' (a.2 ⟨AllAs_mem ((AllA_iff s).1 g.1).2 hc,?_,?_⟩)⟩
    ·have:=g.2.1;omega
    ·have:=g.2.2;omega
  ·rw[take_full (by omega)]at k2 k3 q r
   have g:Good s lv n0:=⟨(AllA_iff s).2 ⟨hb.1 e,k2⟩,by omega,by omega⟩
   exact⟨by omega,by omega,by omega,by omega,⟨fun _=>g,fun _=>trivial⟩,by omega,by omega⟩
theorem no14 {p:Prop}(h:¬p):((14:Int)=0↔p):=⟨fun e=>absurd e (by decide),fun e=>absurd e h⟩
theorem vcChk_ok :vcChk:=by
 unfold vcChk
 rintro _ _ _ _ _ _ ⟨s,rfl,rfl,rfl,rfl,rfl,rfl⟩
 have e:Sx.part (Sx.chunk 6 1 [(.int s.k),(.str s.t),(.str s.y),(.lst (s.a.map Att.row)),(.str s.x),(.lst (rows s.c))]) 0 1=[s.row]:=by rw[row_def];rfl
 simp only[Nd,e,walkPre,walkRel,chkRel,isT_self,bM0,bM4,row_eq,bO9,forall_eq,exists_eq',bL9,bL4]
 refine⟨by omega,fun _ b n d ⟨h1,h2,h3,h4,f,i⟩=>⟨fun e=>?_,fun e=>⟨no14 fun h=>absurd (f.2 ⟨h.1,by have:=h.2.2;omega,by have:=h.2.1;omega⟩) e,.inr trivial⟩⟩⟩
 obtain⟨g,j,m⟩:=f.1 e
 have:=(i e).1
 have:=size_pos s
 exact⟨fun h=>by omega,fun _=>⟨⟨fun _=>⟨g,by omega,by omega⟩,fun _=>trivial⟩,.inl trivial⟩⟩
end Go.D
