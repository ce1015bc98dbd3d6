/- Trees: the conditions of walk and of Check hold.
  Conditions: none. -/
import Derived.Test.YtcjhhnoaoldcmaaA4
import Derived.Test.YtcjhhnoaoldcmaaF0
import Derived.Test.YtcjhhnoaoldcmaaRows
import Derived.KernelRfl
set_option linter.unusedVariables false
set_option linter.unusedSimpArgs false
namespace Go.D
open Go Go.Xe Go.Sx
theorem AllA_iff (s:Tree):AllA s↔Alone s/\AllAs s.c:=by
 cases s;unfold AllA;rfl
theorem size_def (s:Tree):s.size=Tree.sizes s.c+1:=by cases s;rfl
theorem depth_def (s:Tree):s.depth=Tree.depths s.c+1:=by cases s;rfl
theorem AllAs_app (l m:List Tree):AllAs (l++m)↔AllAs l/\AllAs m:=by
 induction l with
 |nil=>simp[AllAs]
 |cons a l b=>simp[AllAs,b,and_assoc]
theorem sizes_app (l m:List Tree):Tree.sizes (l++m)=Tree.sizes l+Tree.sizes m:=by
 induction l with
 |nil=>simp[Tree.sizes]
 |cons a l b=>simp only[Tree.sizes,bG2,b];omega
theorem depths_app (l m:List Tree):Tree.depths (l++m)=max (Tree.depths l) (Tree.depths m):=by
 induction l with
 |nil=>simp[Tree.depths]
 |cons a l b=>simp only[Tree.depths,bG2,b];omega
theorem sizes_le (l:List Tree)(k:Nat):Tree.sizes (l.take k)<=Tree.sizes l:=by
 rw(occs:= .pos [2]) [<-bI8 k l];rw[sizes_app];omega
theorem depths_le (l:List Tree)(k:Nat):Tree.depths (l.take k)<=Tree.depths l:=by
 rw(occs:= .pos [2]) [<-bI8 k l];rw[depths_app];omega
variable {l:List Tree}
theorem AllAs_take (h:AllAs l)(k:Nat):AllAs (l.take k):=by
 rw[<-bI8 k l,AllAs_app]at h;exact h.1
theorem AllAs_mem (h:AllAs l){k:Nat}{a:Tree}(c:l[k]? =some a):AllA a:=by
 induction l generalizing k with
 |nil=>simp at c
 |cons b l d=>cases k with
  |zero=>cases c;exact h.1
  |succ k=>exact d h.2 (by simpa using c)
theorem size_pos (s:Tree):1<=s.size:=by rw[size_def];omega
theorem alone_c {s:Tree}(h:Alone s):s.c.length<=16/\s.a.length<=8:=by
 rcases h with h|h
 ·simp[h.2.2.2.2.1,h.2.2.2.2.2]
 ·exact⟨h.2.2.2.2.2.1,h.2.2.2.2.1⟩
theorem bad {p q:Prop}(h:¬p):(false=true↔p)/\(false=true->q):=⟨no_iff h,fun e=>(by cases e)⟩
theorem one_s (c:Tree):Tree.sizes [c]=c.size:=by simp[Tree.sizes]
theorem one_d (c:Tree):Tree.depths [c]=c.depth:=by simp[Tree.depths]
theorem vcWalk_ok (n:Nat):vcWalk n:=by
 unfold vcWalk
 rintro _ lv n0 w ⟨⟨⟨s,rfl⟩,h1,h2,h3,h4,h5,f⟩,hm⟩
 simp only[walkMu,walkPre]at hm
 simp only[Nd,ln,I64,cI,cS,cB,cL,cell1,part1,t0,t1,t2,t3,t4,t5,n7,i5,C9,bC0,aloneRel,alonePre,walkRel,walkPre,walkMu,wlkInv,wlkMu,bG9,bH2,bG8,row_eq,bJ1,forall_eq,exists_eq',B9,B8,bG3,bE5]
 refine⟨⟨by omega,by omega⟩,fun _=>⟨fun hd=>?_,fun hd=>?_⟩⟩
 all_goals
  have o:=size_def s
  have j:=depth_def s
  refine⟨fun h=>⟨by omega,by omega,by omega,by omega,bad fun g=>?_⟩,fun f=>⟨fun h=>⟨by omega,by omega,by omega,by omega,bad fun g=>?_⟩,fun i b hb=>⟨fun e=>⟨⟨by omega,by omega,by omega,by omega,trivial,by simp[Tree.sizes],by omega,by simp only[Int.toNat_zero,List.take_zero,Tree.depths];omega,by omega,by simp only[Int.toNat_zero,List.take_zero,Tree.depths];omega,by omega⟩,fun _ k n' v ⟨k0,_,_,k1,k2,k3,A,p,B,q,_⟩=>⟨fun hk=>?_,fun hk=>?_⟩⟩,fun e=>⟨by omega,by omega,by omega,by omega,bad fun g=>e (hb.2 ((AllA_iff s).1 g.1).1)⟩⟩⟩⟩
  ·have:=g.2.1;omega
  ·have:=g.2.2;have:=size_pos s;omega
  ·obtain⟨c,hc⟩:=Sx.get_at k0 hk
   have:=alone_c (hb.1 e)
   have hs1:=sizes_le s.c (k+1).toNat
   have hd1:=depths_le s.c (k+1).toNat
   simp only[part_one hc,bG9,bH2,row_eq,bJ1,exists_eq',bG8]
   simp only[take_step k0 hc,sizes_app,one_s,depths_app,one_d]at hs1 hd1⊢
   refine⟨by omega,fun _=>⟨hk,fun _=>⟨⟨by omega,by omega⟩,fun _=>⟨⟨⟨by omega,by omega,by omega,by omega,by omega,by omega⟩,by omega⟩,fun _ b' m x ⟨q1,q2,r,t,a,u⟩=>⟨fun e'=>?_,fun e'=>?_⟩⟩⟩⟩⟩
   ·obtain⟨d,y,z⟩:=a.1 e'
    obtain⟨C,D⟩:=u e'
    have:1<=c.depth:=by rw[depth_def];omega
    exact⟨⟨by omega,by omega⟩,fun _=>⟨⟨by omega,by omega,by omega,by omega,(AllAs_app _ _).2 ⟨k2,d,trivial⟩,by omega,by omega,by omega,by omega,by omega,by omega⟩,fun _=>by omega⟩⟩
   ·refine⟨q1,q2,r,t,bad fun g=>e' (a.2 ⟨AllAs_mem ((AllA_iff s).1 g.1).2 hc,?_,?_⟩)⟩
    ·have:=g.2.1;omega
    ·have:=g.2.2;omega
  ·rw[take_full (by omega)]at k2 k3 p q
   have g:Good s lv n0:=⟨(AllA_iff s).2 ⟨hb.1 e,k2⟩,by omega,by omega⟩
   exact⟨by omega,by omega,by omega,by omega,⟨fun _=>g,fun _=>trivial⟩,by omega,by omega⟩
theorem no14 {p:Prop}(h:¬p):((14:Int)=0↔p):=⟨fun e=>absurd e (by decide),fun e=>absurd e h⟩
theorem vcChk_ok :vcChk:=by
 unfold vcChk
 rintro _ _ _ _ _ _ ⟨s,rfl,rfl,rfl,rfl,rfl,rfl⟩
 have e:Sx.part (Sx.chunk 6 1 [(.int s.k),(.str s.t),(.str s.y),(.lst (s.a.map Att.row)),(.str s.x),(.lst (rows s.c))]) 0 1=[s.row]:=by rw[row_def];rfl
 simp only[Nd,e,walkPre,walkRel,chkRel,isT_self,bG9,bH2,row_eq,bJ1,forall_eq,exists_eq',bG8,bG3]
 refine⟨by omega,fun _ b n d ⟨h1,h2,h3,h4,h5,g⟩=>⟨fun e=>?_,fun e=>⟨no14 fun h=>absurd (h5.2 ⟨h.1,by have:=h.2.2;omega,by have:=h.2.1;omega⟩) e,.inr trivial⟩⟩⟩
 obtain⟨f,i,j⟩:=h5.1 e
 have:=(g e).1
 have:=size_pos s
 exact⟨fun h=>by omega,fun _=>⟨⟨fun _=>⟨f,by omega,by omega⟩,fun _=>trivial⟩,.inl trivial⟩⟩
open Go Go.Xe Go.Sx
theorem set6 {L : Sx.Rows} {i : Int} {a b c d e f : Dat} (h0 : 0 ≤ i) (h : i < (L.length : Int)) (hr : ∀ r ∈ L, r.length = 6) :
  setAt (setAt (setAt (setAt (setAt (setAt L i 0 a) i 1 b) i 2 c) i 3 d) i 4 e) i 5 f=L.set i.toNat [a,b,c,d,e,f]:=by
 obtain⟨r,g⟩:=Sx.get_at h0 h
 have k:=hr r (bB1 g)
 match r,k with
 | [_,_,_,_,_,_],_=>
  refine List.ext_getElem? fun j=>?_
  simp only[setAt,List.getElem?_modify,List.getElem?_set]
  by_cases e:i.toNat=j
  ·subst e;simp[g];omega
  ·simp[e]
theorem take_set {α:Type}{L:List α}{i:Int}{a:α}(h0:0<=i)(h:i<(L.length:Int)):(L.set i.toNat a).take (i+1).toNat=L.take i.toNat++ [a]:=by
 rw[take_step h0 (a:=a) (by rw[List.getElem?_set_self (by omega)]),List.take_set_of_le (bC4 _)]
theorem strips_app (b:Bool)(l m:List Tree):strips b (l++m)=strips b l++strips b m:=by
 induction l with
 |nil=>simp[strips]
 |cons a l c=>simp[strips,c]
theorem row_len (c:Tree):c.row.length=6:=by rw[row_def];rfl
theorem szRs_mem :∀ {l:List Tree} {k:Nat} {c:Tree},l[k]? =some c->szRs (rows c.c)<szRs (rows l)
 | [],k,c,h=>by simp at h
 |a::l,0,c,h=>by
  cases h
  show _<szR a.row+1+szRs (rows l)
  rw[row_def];simp only[szR,szD];omega
 |a::l,k+1,c,h=>by
  have:=szRs_mem (l:=l) (k:=k) (by simpa using h)
  show _<szR a.row+1+szRs (rows l)
  omega
theorem isT_row {s:Tree}{k:Int}{t y x:Str}{a c:Sx.Rows}(h:isT s k t y a x c): [Dat.int k,.str t,.str y,.lst a,.str x,.lst c]=s.row:=by
 obtain⟨rfl,rfl,rfl,rfl,rfl,rfl⟩:=h;exact(row_def s).symm
theorem cpd_body (n:Nat)(s:Tree)(b:Bool)(f:AllA s)(hn:szRs (rows s.c)<n+1)(k:Int)(D:Sx.Rows)(hi:cpiInv [.lst (rows s.c),.bool b] [.int k,.lst D])(hk:k<((rows s.c).length:Int)):vcCpd0 n k (rows s.c) b D:=by
 obtain⟨k0,k1,k2,k3⟩:=hi
 obtain⟨k3,j⟩:=k3 s.c rfl
 rw[bC0]at k1 k2 hk
 obtain⟨c,hc⟩:=Sx.get_at k0 hk
 have f:=(AllA_iff s).1 f
 have i:=(alone_c f.1).1
 have g:=AllAs_mem f.2 hc
 have d:=szRs_mem hc
 have d:szRs (rows c.c)<n:=by omega
 unfold vcCpd0
 simp only[Nd,Nr,Ni,ln,I64,cI,cS,cB,cL,cell_rows hc,t0,t1,t2,t3,t4,t5,n7,i5,C9,bC0,cpdPre,cpdMu,cpdRel,cpiMu,slMu,isT_self,forall_eq,exists_eq_left,bG8,bE5,bG3,bH2,k2]
 refine⟨by omega,fun _=>⟨hk,fun _=>⟨⟨g,d⟩,fun _ k' t y a x c' l=>?_⟩⟩⟩
 refine⟨by omega,fun _=>⟨by omega,fun _=>⟨by omega,fun _=>⟨⟨by omega,by omega⟩,fun _=>⟨by omega,fun _=>?_⟩⟩⟩⟩⟩
 refine⟨by omega,fun _=>⟨?_,fun _=>by omega⟩⟩
 rw[set6 k0 (by omega) j,isT_row l]
 refine⟨by omega,by rw[bC0];omega,by rw[List.length_set,bC0];omega,fun m e=>?_⟩
 rw[<-rows_eq.mp e,take_set k0 (by omega),take_step k0 hc,strips_app,k3]
 refine⟨by simp[rows,strips],fun r hr=>?_⟩
 rcases List.mem_or_eq_of_mem_set hr with h|rfl
 ·exact j r h
 ·exact row_len _
theorem vcCpd_ok (n:Nat):vcCpd n:=by
 unfold vcCpd
 rintro _ _ _ _ _ _ b ⟨⟨s,⟨rfl,rfl,rfl,rfl,rfl,rfl⟩,g⟩,hn⟩
 have B:=cpd_body n s b g hn
 have f:=(AllA_iff s).1 g
 obtain⟨o,q⟩:=alone_c f.1
 have S:cpiInv [.lst (rows s.c),.bool b] [.int 0,.lst (Sx.part (List.replicate ((ln (rows s.c))).toNat [(.int (0)),(.str ([]:List UInt8)),(.str ([]:List UInt8)),(.lst ([]:Sx.Rows)),(.str ([]:List UInt8)),(.lst ([]:Sx.Rows))]:Sx.Rows) 0 (ln (rows s.c)))]:=by
  refine⟨by omega,by omega,by simp[Sx.part],fun c e=>⟨by simp[strips],fun r hr=>?_⟩⟩
  simp only[Sx.part,Int.toNat_zero,List.drop_zero]at hr
  rw[(List.mem_replicate.1 (List.mem_of_mem_take hr)).2];rfl
 have F:∀k D d,cpiInv [.lst (rows s.c),.bool b] [.int k,.lst D]-> ¬k<ln (rows s.c)->d=s.a.map Att.row->cpdRel [.int s.k,.str s.t,.str s.y,.lst (s.a.map Att.row),.str s.x,.lst (rows s.c),.bool b] [.int s.k,.str s.t,.str (if b then s.y else []),.lst d,.str s.x,.lst D]:=by
  intro k D d ⟨k0,k1,k2,k3⟩ hk e
  obtain⟨k3,_⟩:=k3 s.c rfl
  unfold ln at hk
  rw[take_full (by omega),take_full (by rw[bC0]at hk;omega)]at k3
  intro s' h
  rw[isT_self]at h
  subst h;subst e;subst k3
  cases s'
  simp only[strip]
  exact⟨rfl,rfl,rfl,rfl,rfl,rfl⟩
 have i:Sx.chunk 2 0 []++s.a.map Att.row=s.a.map Att.row:=rfl
 have j:Sx.part (Sx.over (Sx.chunk 2 0 []) 0 (s.a.map Att.row)) 0 (ln (s.a.map Att.row))=s.a.map Att.row:=by simp[Sx.part,Sx.over,Sx.chunk,ln,<-List.map_take]
 have l:ln (Sx.over (Sx.chunk 2 0 []) 0 (s.a.map Att.row))=ln (s.a.map Att.row):=by simp[Sx.over,Sx.chunk,ln]
 have m:ln (s.a.map Att.row)=0->([]:Sx.Rows)=s.a.map Att.row:=fun h=>by
  have:s.a=[]:=by simpa [ln]using h
  rw[this];rfl
 have u:ln (rows s.c)<=16:=by simp[ln];omega
 have v:ln (s.a.map Att.row)<=8:=by simp[ln];omega
 have w:0<=ln (rows s.c):=by simp[ln]
 have z:0<=ln (s.a.map Att.row):=by simp[ln]
 have p:ln (List.replicate (ln (rows s.c)).toNat [(.int (0)),(.str ([]:List UInt8)),(.str ([]:List UInt8)),(.lst ([]:Sx.Rows)),(.str ([]:List UInt8)),(.lst ([]:Sx.Rows))]:Sx.Rows)=ln (rows s.c):=by simp[ln]
 simp only[i,j,l,p]
 cases b
 all_goals
  simp only[bH1,if_false,bI6]at F
  simp only[Nd,Nr,Ni,false_implies,bE5,bG8,bF6,bH1,not_true_eq_false,bH2]
  repeat' with_reducible first|exact trivial|exact S|exact B _ _ ‹_› ‹_› |exact F _ _ _ ‹_› ‹_› rfl|exact F _ _ _ ‹_› ‹_› (m ‹_›)|omega| (refine bC9 ?_ ?_)|intro _
end Go.D
set_option maxRecDepth 100000
namespace Go.C36
open Go Go.Xe Go.Sx
end Go.C36
