/- The diff of any two trees: its error.
  Conditions: none. -/
import Derived.Test.YtcjhhnoaoldcmaaGreatG5
import Derived.Test.YtcjhhnoaoldcmaaGreatD1
set_option linter.unusedVariables false
set_option linter.unusedSimpArgs false
namespace Go.D
open Go Go.Xe Go.Sx
open Go.C36 (row t6 lis cLong cRlong longPre longRel rlongPre rlongRel)
theorem vcDde_ok :vcDde:=by
 unfold vcDde
 rintro _ _ _ _ _ _ _ _ _ _ _ _ ⟨⟨s,rfl,rfl,rfl,rfl,rfl,rfl⟩,s',rfl,rfl,rfl,rfl,rfl,rfl⟩
 have un:Valid s->Valid s'->vcDde0 s'.k s'.t s'.y (s'.a.map Att.row) s'.x (rows s'.c) s.k s.t s.y (s.a.map Att.row) s.x (rows s.c):=fun v v'=>by
  have D:∀L:Sx.Rows,ddeRel [.int s.k,.str s.t,.str s.y,.lst (s.a.map Att.row),.str s.x,.lst (rows s.c),.int s'.k,.str s'.t,.str s'.y,.lst (s'.a.map Att.row),.str s'.x,.lst (rows s'.c)] [.lst L,.int 0]:=fun L a b ha hb=>by
   rw[isT_self]at ha hb
   subst ha;subst hb
   exact⟨fun _=>rfl,fun c=>absurd ⟨v,v'⟩ c⟩
  unfold vcDde0
  simp only[Nd]
  refine⟨⟨s',rfl,rfl,rfl,rfl,rfl,rfl⟩,fun _ e he=>⟨fun _=>⟨⟨s',⟨rfl,rfl,rfl,rfl,rfl,rfl⟩,v'.1⟩,fun _ _ _ _ _ _ _ _=>⟨D _,fun _=>trivial⟩⟩,fun c=>⟨D _,fun _=>trivial⟩⟩⟩
 simp only[Nd,Nr,Ni]
 refine⟨⟨s,rfl,rfl,rfl,rfl,rfl,rfl⟩,fun _ e he=>⟨fun h0=>⟨⟨s',rfl,rfl,rfl,rfl,rfl,rfl⟩,fun _ e2 he2=>⟨fun h2=>?_,fun h2=>⟨?_,fun _=>trivial⟩⟩⟩,fun h0=>⟨h0,fun _=>⟨?_,fun _=>trivial⟩⟩⟩⟩
 ·have v:=(he s ⟨rfl,rfl,rfl,rfl,rfl,rfl⟩).1.1 h0
  have v':=(he2 s' ⟨rfl,rfl,rfl,rfl,rfl,rfl⟩).1.1 h2
  refine⟨fun hk=>⟨fun ht=>⟨⟨⟨s,⟨rfl,rfl,rfl,rfl,rfl,rfl⟩,v.1⟩,s',⟨rfl,rfl,rfl,rfl,rfl,rfl⟩,v'.1,by have:=v'.2.2;simp only[bS7];omega,by have:=v'.2.1;simp only[bS7];omega⟩,fun _ L hL=>?_⟩,fun _=>un v v'⟩,fun _=>un v v'⟩
  have D:ddeRel [.int s.k,.str s.t,.str s.y,.lst (s.a.map Att.row),.str s.x,.lst (rows s.c),.int s'.k,.str s'.t,.str s'.y,.lst (s'.a.map Att.row),.str s'.x,.lst (rows s'.c)] [.lst L,.int 0]:=fun a b ha hb=>by
   rw[isT_self]at ha hb
   subst ha;subst hb
   exact⟨fun _=>rfl,fun c=>absurd ⟨v,v'⟩ c⟩
  have:0<=ln L:=by simp only[ln];omega
  repeat' with_reducible first|exact trivial|exact D|omega| (refine bK7 ?_ ?_)|intro _
 ·intro a b ha hb
  rw[isT_self]at ha hb
  subst ha;subst hb
  obtain⟨g1,g2⟩:=he2 _ ⟨rfl,rfl,rfl,rfl,rfl,rfl⟩
  exact⟨fun v=>absurd (g1.2 v.2) h2,fun _=>g2.resolve_left h2⟩
 ·intro a b ha hb
  rw[isT_self]at ha hb
  subst ha;subst hb
  obtain⟨g1,g2⟩:=he _ ⟨rfl,rfl,rfl,rfl,rfl,rfl⟩
  exact⟨fun v=>absurd (g1.2 v.1) h0,fun _=>g2.resolve_left h0⟩
end Go.D
