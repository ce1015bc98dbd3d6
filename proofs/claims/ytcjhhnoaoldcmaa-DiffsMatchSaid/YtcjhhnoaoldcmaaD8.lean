/- The writer of a diff: the condition of Diff holds.
  Conditions: none. -/
import Derived.Test.YtcjhhnoaoldcmaaD7
set_option linter.unusedVariables false
set_option linter.unusedSimpArgs false
namespace Go.D
open Go Go.Xe Go.Sx
open Go.C36 (row A2 lis cLong cRlong longPre longRel rlongPre rlongRel)
theorem vcDdf_ok :vcDdf:=by
 unfold vcDdf
 rintro _ _ _ _ _ _ _ _ _ _ _ _ ⟨hk,ht,⟨s,⟨rfl,rfl,rfl,rfl,rfl,rfl⟩,v⟩,s',⟨rfl,rfl,rfl,rfl,rfl,rfl⟩,v'⟩
 have C1:chkPre [.int s.k,.str s.t,.str s.y,.lst (s.a.map Att.row),.str s.x,.lst (rows s.c)]:=⟨s,rfl,rfl,rfl,rfl,rfl,rfl⟩
 have C2:chkPre [.int s'.k,.str s'.t,.str s'.y,.lst (s'.a.map Att.row),.str s'.x,.lst (rows s'.c)]:=⟨s',rfl,rfl,rfl,rfl,rfl,rfl⟩
 obtain⟨v1,v2,v3⟩:=v
 obtain⟨w1,w2,w3⟩:=v'
 have N:nodePre [.int s.k,.str s.t,.str s.y,.lst (s.a.map Att.row),.str s.x,.lst (rows s.c),.int s'.k,.str s'.t,.str s'.y,.lst (s'.a.map Att.row),.str s'.x,.lst (rows s'.c),.lst ([]:Sx.Rows),.lst ([]:Sx.Rows)]:=
  ⟨⟨s,⟨rfl,rfl,rfl,rfl,rfl,rfl⟩,v1⟩,s',⟨rfl,rfl,rfl,rfl,rfl,rfl⟩,w1,by simp only[bQ5];omega,by simp only[bQ5];omega⟩
 simp only[Nd,Nr,Ni]
 refine⟨C1,fun _ e he=>⟨fun _=>⟨C2,fun _ e2 he2=>⟨fun _=>⟨fun _=>⟨fun _=>⟨N,fun _ L hL=>?_⟩,fun c=>absurd ht c⟩,fun c=>absurd hk c⟩,fun c=>absurd (((he2 s' ⟨rfl,rfl,rfl,rfl,rfl,rfl⟩).1.2 ⟨w1,w2,w3⟩)) c⟩⟩,fun c=>absurd (((he s ⟨rfl,rfl,rfl,rfl,rfl,rfl⟩).1.2 ⟨v1,v2,v3⟩)) c⟩⟩
 have F:ddfRel [.int s.k,.str s.t,.str s.y,.lst (s.a.map Att.row),.str s.x,.lst (rows s.c),.int s'.k,.str s'.t,.str s'.y,.lst (s'.a.map Att.row),.str s'.x,.lst (rows s'.c)] [.lst L,.int 0]:=fun a a' ha ha'=>by
  rw[isT_self]at ha ha'
  subst ha;subst ha'
  obtain⟨S,rfl,h1,h2⟩:=hL _ _ ⟨rfl,rfl,rfl,rfl,rfl,rfl⟩ ⟨rfl,rfl,rfl,rfl,rfl,rfl⟩
  exact⟨rfl,by omega,h2⟩
 have:0<=ln L:=by simp only[ln];omega
 repeat' with_reducible first|exact trivial|exact F|omega| (refine bI2 ?_ ?_)|intro _
end Go.D
