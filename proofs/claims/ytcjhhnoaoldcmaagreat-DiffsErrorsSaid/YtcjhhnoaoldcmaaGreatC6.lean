/- Which children stay in the reference, and the match of two trees: the conditions hold.
  Conditions: none. -/
import Derived.Test.YtcjhhnoaoldcmaaGreatC5
import Derived.Test.YtcjhhnoaoldcmaaGreatA5
set_option linter.unusedVariables false
set_option linter.unusedSimpArgs false
namespace Go.D
open Go Go.Xe Go.Sx
open Go.C36 (row t6 lis cLong cRlong longPre longRel rlongPre rlongRel)
theorem vcRstay_ok :vcRstay:=by
 unfold vcRstay
 rintro _ ⟨m,rfl,hm⟩
 have irr:irow false=[.int 0]:=rfl
 have irt:([Dat.int 1]:List Dat)=irow true:=rfl
 simp only[Nd,Nr,Ni,ln,I64,cI,cS,cB,cL,bJ8,chunk1,riInv,riMu,rzInv,rzMu,szMu,slMu,rstayRel,rowm_eq,bR7,List.length_replicate,bP2,bO7,bM3,bO2]
 refine⟨⟨by omega,by omega,rfl,rfl⟩,fun _ i A Q ⟨i0,i1,hA,hQ⟩=>?_⟩
 subst hA;subst hQ
 refine⟨fun hi=>?_,fun hi=>?_⟩
 ·obtain⟨x,hx⟩:=Sx.get_at i0 hi
  have l1:=pl_le (m.take i.toNat)
  have l2:=atF_len (m.take i.toNat) 0
  rw[bL4]at l1
  have l3:(0:Int)+(m.take i.toNat).length=i:=by rw[bL4];omega
  simp only[i7 hx,row0,f9,bJ8,take_step i0 hx,pl_snoc,atF_snoc,l3,app_row]
  refine⟨by omega,fun _=>⟨hi,fun _=>⟨fun h3=>?_,fun h3=>?_⟩⟩⟩
  ·rw[bJ9 (by omega),bJ9 (by omega)]
   exact⟨⟨by omega,by omega⟩,fun _=>⟨by omega,fun _=>⟨by omega,fun _=>⟨⟨by omega,by omega,rfl,rfl⟩,fun _=>by omega⟩⟩⟩⟩
  ·rw[bK1 (by omega),bK1 (by omega)]
   repeat' first
    |exact⟨by omega,by omega,rfl,rfl⟩
    |omega
    | (with_reducible refine bK7 ?_ ?_)
    |intro _
 ·have hk:m.take i.toNat=m:=take_full (by omega)
  rw[hk]
  have l1:=pl_le m
  have l2:=atF_len m 0
  have l3:=lis_le (pl m)
  have hr:=rep_part m irow
  rw[irr]at hr
  have cont:∀Z:Sx.Rows,rlongRel [.lst ((pl m).map row)] [.lst Z]->Z=(lis (pl m)).map row:=fun Z hZ=>by
   simp only[rlongRel,Go.C36.rlongRel,Go.C36.nums_map]at hZ
   exact hZ
  repeat (refine bK7 (by omega) fun _=>?_)
  refine⟨⟨pl m,rfl,by omega⟩,fun _ Z hZ=>?_⟩
  obtain rfl:=cont Z hZ
  simp only[bJ8,bM0,hr,rowm_eq,bR7,bM3,irt]
  repeat (refine bK7 (by omega) fun _=>?_)
  refine⟨⟨by omega,by omega,by simp[putF_len],trivial⟩,fun _ j O ⟨j0,j1,j2,hO⟩=>⟨fun hj=>?_,fun hj=>?_⟩⟩
  ·obtain⟨k,a,g1,g2,g3,g4,g5,g6,g7,g8,g9⟩:=put_step j0 hj hO
   simp only[i7 g1,i7 g4,row0,f9,g7,g8,g9]
   repeat' first
    |exact⟨by omega,by omega,by simp[putF_len],trivial⟩
    |omega
    | (with_reducible refine bK7 ?_ ?_)
    |intro _
  ·rw[take_full (by omega)]at hO
   repeat (refine bK7 (by omega) fun _=>?_)
   exact hO
theorem sizes_len :∀l:List Tree,l.length<=Tree.sizes l
 | []=>bK2 _
 |a::l=>by have:=sizes_len l;have:=size_pos a;simp only[Tree.sizes,bM2];omega
theorem valid_kids {s:Tree}(h:Valid s):s.c.length<=1000:=by
 have:=sizes_len s.c
 have:=size_def s
 have:=h.2.1
 omega
theorem fit_kids {s t:Tree}(h1:s.k=t.k)(h2:s.t=t.t):kids s t=s.c:=bK1 ⟨h1,h2⟩
theorem unfit_kids {s t:Tree}(h:¬fit s t):kids s t=[]:=bJ9 h
theorem all2 {α β:Type}{a:α}{b:β}{p:α->β->Prop}:(∀x y,x=a->y=b->p x y)=p a b:=propext ⟨fun h=>h a b rfl rfl,fun h x y e f=>by subst e f;exact h⟩
theorem all2' {α β:Type}{a:α}{b:β}{p:α->β->Prop}:(∀x y,a=x->b=y->p x y)=p a b:=propext ⟨fun h=>h a b rfl rfl,fun h x y e f=>by subst e f;exact h⟩
theorem vcDmt_ok :vcDmt:=by
 unfold vcDmt
 rintro _ _ _ _ _ _ _ _ _ _ _ _ ⟨⟨s,rfl,rfl,rfl,rfl,rfl,rfl⟩,s',rfl,rfl,rfl,rfl,rfl,rfl⟩
 have un:¬fit s s'->Valid s->Valid s'->vcDmt0 (rows s'.c) s.k s.t s.y (s.a.map Att.row) s.x (rows s.c) s'.k s'.t s'.y (s'.a.map Att.row) s'.x:=fun hf v v'=>by
  unfold vcDmt0
  have e:([]:Sx.Rows)=rows []:=rfl
  simp only[Nd,matPre,twoPre,matRel,dmtRel,isT_self,e,rows_eq,all2,all2',bP2,bO2]
  refine⟨⟨[],s'.c,rfl,rfl,by simp,valid_kids v'⟩,fun _ O h=>?_⟩
  exact⟨fun _=>⟨trivial,by rw[unfit_kids hf];exact h⟩,fun c=>absurd ⟨v,v'⟩ c⟩
 simp only[Nd,chkPre,trPre,chkRel,matPre,twoPre,matRel,dmtRel,isT_self,exists_eq,forall_eq,rows_eq,all2,all2',bP2,bO7,bM3,bO2]
 refine fun a ⟨a1,a2⟩=>⟨fun ha=>fun b ⟨b1,b2⟩=>⟨fun hb=>?_,fun hb=>?_⟩,fun ha=>?_⟩
 ·have v:=a1.1 ha
  have v':=b1.1 hb
  refine⟨fun h1=>⟨fun h2=>⟨⟨_,_,rfl,rfl,valid_kids v,valid_kids v'⟩,fun _=>⟨fun _=>?_,fun c=>absurd ⟨v,v'⟩ c⟩⟩,fun h2=>un (fun c=>h2 c.2) v v'⟩,fun h1=>un (fun c=>h1 c.1) v v'⟩
  rw[fit_kids h1 h2]
 ·exact⟨fun c=>absurd (b1.2 c.2) hb,fun _=>b2.resolve_left hb⟩
 ·exact⟨ha,fun _=>⟨fun c=>absurd (a1.2 c.1) ha,fun _=>a2.resolve_left ha⟩⟩
end Go.D
