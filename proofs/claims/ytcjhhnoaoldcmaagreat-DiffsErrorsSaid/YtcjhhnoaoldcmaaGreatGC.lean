/- Keep's error: its condition holds.
  Conditions: none. -/
import Derived.Test.YtcjhhnoaoldcmaaGreatGB
set_option linter.unusedVariables false
set_option linter.unusedSimpArgs false
namespace Go.D
open Go Go.Xe Go.Sx
open Go.C36 (row t6 lis cLong cRlong longPre longRel rlongPre rlongRel)
mutual
theorem strip_true :∀s:Tree,strip true s=s
 | .mk k t y a x c=>by simp only[strip,bR1,strips_true c]
theorem strips_true :∀l:List Tree,strips true l=l
 | []=>rfl
 |s::l=>by simp only[strips,strip_true s,strips_true l]
end
section
variable {s s':Tree}(v:Valid s)(v':Valid s')
include v v'
theorem kpt_R {k:Int}{t y x:Str}{a c:Sx.Rows}:kptRel [.int s.k,.str s.t,.str s.y,.lst (s.a.map Att.row),.str s.x,.lst (rows s.c),.int s'.k,.str s'.t,.str s'.y,.lst (s'.a.map Att.row),.str s'.x,.lst (rows s'.c)] [.int k,.str t,.str y,.lst a,.str x,.lst c,.int 0]:=fun p q hp hq=>by
 rw[isT_self]at hp hq
 subst hp;subst hq
 exact⟨fun _=>rfl,fun h=>absurd ⟨v,v'⟩ h⟩
theorem kpt0 :vcKpt0 s.k s.t s.y (s.a.map Att.row) s.x (rows s.c) s'.k s'.t s'.y (s'.a.map Att.row) s'.x (rows s'.c):=⟨kpt_R v v',fun _=>trivial⟩
theorem kpt1 :vcKpt1 s'.k s'.t s'.y (s'.a.map Att.row) s'.x (rows s'.c) s.k s.t s.y (s.a.map Att.row) s.x (rows s.c):=by
 unfold vcKpt1
 simp only[Nd,Nr,Ni]
 refine⟨⟨s',rfl,rfl,rfl,rfl,rfl,rfl⟩,fun _ e he=>⟨fun _=>⟨⟨s',⟨rfl,rfl,rfl,rfl,rfl,rfl⟩,v'.1⟩,fun _ _ _ _ _ _ _ _=>⟨by omega,fun _=>⟨trivial,fun _=>⟨kpt_R v v',fun _=>trivial⟩⟩⟩⟩,fun _=>kpt0 v v'⟩⟩
theorem kpt2 (u:Tree):vcKpt2 u.k u.t u.y (u.a.map Att.row) u.x (rows u.c) s.k s.t s.y (s.a.map Att.row) s.x (rows s.c) s'.k s'.t s'.y (s'.a.map Att.row) s'.x (rows s'.c):=by
 unfold vcKpt2
 simp only[Nd,Nr,Ni]
 refine fun e he=>⟨fun h0=>⟨by omega,fun _=>⟨trivial,fun _=>⟨⟨u,rfl,rfl,rfl,rfl,rfl,rfl⟩,fun _ e2 he2=>⟨fun h=>⟨by omega,fun _=>⟨trivial,fun _=>⟨⟨u,⟨rfl,rfl,rfl,rfl,rfl,rfl⟩,((he u ⟨rfl,rfl,rfl,rfl,rfl,rfl⟩).1.1 h0).1⟩,fun _ _ _ _ _ _ _ _=>⟨by omega,fun _=>⟨trivial,fun _=>⟨kpt_R v v',fun _=>trivial⟩⟩⟩⟩⟩⟩,fun _=>kpt0 v v'⟩⟩⟩⟩,fun _=>kpt1 v v'⟩
theorem kpt3 (u:Tree):vcKpt3 (rows u.c) u.k u.t u.y (u.a.map Att.row) u.x s.k s.t s.y (s.a.map Att.row) s.x (rows s.c) s'.k s'.t s'.y (s'.a.map Att.row) s'.x (rows s'.c):=by
 unfold vcKpt3
 simp only[Nd,Nr,Ni]
 exact⟨by omega,fun _=>⟨trivial,fun _=>⟨⟨u,rfl,rfl,rfl,rfl,rfl,rfl⟩,fun _=>kpt2 v v' u⟩⟩⟩
end
theorem vcKpt_ok :vcKpt:=by
 unfold vcKpt
 rintro _ _ _ _ _ _ _ _ _ _ _ _ ⟨he,⟨s,rfl,rfl,rfl,rfl,rfl,rfl⟩,s',rfl,rfl,rfl,rfl,rfl,rfl⟩
 have no:∀e:Int,e=14-> ¬(Valid s/\Valid s')->kptRel [.int s.k,.str s.t,.str s.y,.lst (s.a.map Att.row),.str s.x,.lst (rows s.c),.int s'.k,.str s'.t,.str s'.y,.lst (s'.a.map Att.row),.str s'.x,.lst (rows s'.c)] [.int 0,.str [],.str [],.lst [],.str [],.lst [],.int e]:=fun e h hn p q hp hq=>by
  rw[isT_self]at hp hq
  subst hp;subst hq
  exact⟨fun h=>absurd h hn,fun _=>h⟩
 simp only[Nd,Nr,Ni]
 refine⟨⟨s,rfl,rfl,rfl,rfl,rfl,rfl⟩,fun _ e h=>⟨fun h0=>⟨⟨s',rfl,rfl,rfl,rfl,rfl,rfl⟩,fun _ e2 h2=>⟨fun h3=>⟨⟨s',rfl,rfl,rfl,rfl,rfl,rfl⟩,fun _ e4 h4=>?_⟩,fun h3=>⟨?_,fun _=>trivial⟩⟩⟩,fun h0=>⟨h0,fun _=>⟨?_,fun _=>trivial⟩⟩⟩⟩
 ·have v:=(h s ⟨rfl,rfl,rfl,rfl,rfl,rfl⟩).1.1 h0
  have v':=(h2 s' ⟨rfl,rfl,rfl,rfl,rfl,rfl⟩).1.1 h3
  refine⟨fun _=>⟨⟨s',⟨rfl,rfl,rfl,rfl,rfl,rfl⟩,v'.1⟩,fun _ k t y a x c hT=>?_⟩,fun h=>absurd ((h4 s' ⟨rfl,rfl,rfl,rfl,rfl,rfl⟩).1.2 v') h⟩
  have hT:=hT s' ⟨rfl,rfl,rfl,rfl,rfl,rfl⟩
  have hs:=strip_true s'
  rw[hs]at hT
  obtain⟨rfl,rfl,rfl,rfl,rfl,rfl⟩:=hT
  refine⟨fun _=>⟨fun _=>⟨by omega,fun _=>⟨trivial,fun _=>⟨⟨he,⟨s,⟨rfl,rfl,rfl,rfl,rfl,rfl⟩,v.1⟩,s',⟨rfl,rfl,rfl,rfl,rfl,rfl⟩,v'.1⟩,fun _ k t y a x c hk=>?_⟩⟩⟩,fun _=>kpt3 v v' s'⟩,fun _=>kpt3 v v' s'⟩
  obtain⟨u,rfl,rfl,rfl,rfl,rfl,rfl⟩:=hk
  exact⟨by omega,fun _=>⟨trivial,fun _=>⟨⟨u,rfl,rfl,rfl,rfl,rfl,rfl⟩,fun _=>kpt2 v v' u⟩⟩⟩
 ·have g:=h2 s' ⟨rfl,rfl,rfl,rfl,rfl,rfl⟩
  exact no _ (g.2.resolve_left h3) fun h=>h3 (g.1.2 h.2)
 ·have g:=h s ⟨rfl,rfl,rfl,rfl,rfl,rfl⟩
  exact no _ (g.2.resolve_left h0) fun h=>h0 (g.1.2 h.1)
end Go.D
