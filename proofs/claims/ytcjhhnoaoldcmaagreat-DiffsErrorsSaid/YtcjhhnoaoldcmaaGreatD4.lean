/- The writer of a diff: the conditions of Compare, attrs.Diff, put and own hold.
  Conditions: none. -/
import Derived.Test.YtcjhhnoaoldcmaaGreatD2
import Derived.Test.YtcjhhnoaoldcmaaGreatD3
set_option linter.unusedVariables false
set_option linter.unusedSimpArgs false
namespace Go.D
open Go Go.Xe Go.Sx
open Go.C36 (row t6 lis cLong cRlong longPre longRel rlongPre rlongRel)
theorem vcCmp_ok :vcCmp:=by
 unfold vcCmp
 intro a b _
 simp only[Nd,cmpRel]
 repeat' first|trivial| (refine bK7 ?_ ?_)|intro _
theorem mer_goal {x1 x3 x2:Sx.Rows}{i k:Int}{r:List Dat}(h0:0<=i)(h1:i<=ln x1)(h2:0<=k)(h3:k<=ln x3)(h4:ln x2+1<=i+k):merInv [.lst x1,.lst x3] [.int i,.int k,.lst (x2++ [r])]:=by
 refine⟨h0,h1,h2,h3,?_⟩
 simp only[ln,bK6,List.length_singleton]at h4⊢;omega
theorem mer_of {x1 x3 x2:Sx.Rows}{i k:Int}(h0:0<=i)(h1:i<=ln x1)(h2:0<=k)(h3:k<=ln x3)(h4:ln x2<=i+k):merInv [.lst x1,.lst x3] [.int i,.int k,.lst x2]:=⟨h0,h1,h2,h3,h4⟩
theorem vcAdf_ok :vcAdf:=by
 unfold vcAdf
 rintro _ _ ⟨a,b,rfl,rfl,ha,hb⟩
 have c1:∀x y z:Dat,Sx.chunk 3 1 [x,y,z]=[[x,y,z]]:=fun _ _ _=>rfl
 have t:∀(l:List Att),trPre [.int 1,.str ([97]:List UInt8),.str ([]:List UInt8),.lst (l.map Att.row),.str ([]:List UInt8),.lst ([]:Sx.Rows)]:=fun l=>⟨.mk 1 [97] [] l [] [],rfl,rfl,rfl,rfl,rfl,rfl⟩
 have la:ln (a.map Att.row)<=8:=by simp[ln];omega
 have lb:ln (b.map Att.row)<=8:=by simp[ln];omega
 have la0:0<=ln (a.map Att.row):=by simp[ln]
 have lb0:0<=ln (b.map Att.row):=by simp[ln]
 generalize ea:a.map Att.row=A at*
 generalize eb:b.map Att.row=B at*
 have B0:∀i k O,merInv [.lst A,.lst B] [.int i,.int k,.lst O]->i<ln A\/k<ln B->vcAdf3 i A k O B:=by
  rintro i k O ⟨h0,h1,h2,h3,h4⟩ h
  have:0<=ln O:=by simp[ln]
  have m:∀i k O,merMu [.lst A,.lst B] [.int i,.int k,.lst O]=((ln A-i)+(ln B-k)).toNat:=fun _ _ _=>rfl
  simp only[vcAdf3,vcAdf0,vcAdf1,vcAdf2,c1,m,cmpPre,Nd,Nr,Ni,I64]
  repeat' with_reducible first|exact trivial|exact mer_goal (by omega) (by omega) (by omega) (by omega) (by omega)|exact mer_of (by omega) (by omega) (by omega) (by omega) (by omega)|omega| (refine bK7 ?_ ?_)|intro _
 simp only[Nd,Nr,Ni,I64,chkPre]
 refine⟨ea▸t a,fun _ e _=>⟨fun _=>⟨eb▸t b,fun _ e2 _=>⟨fun _=>⟨⟨by omega,by omega,by omega,by omega,by simp[ln]⟩,fun _ i k O h=>?_⟩,fun _=>⟨by simp[adfRel],fun _=>trivial⟩⟩⟩,fun _=>⟨by simp[adfRel],fun _=>trivial⟩⟩⟩
 have B1:=B0 i k O h
 obtain⟨h0,h1,h2,h3,h4⟩:=h
 have:0<=ln O:=by simp[ln]
 refine⟨fun c=>B1 (.inl c),fun c=>⟨fun d=>B1 (.inr d),fun d=>?_⟩⟩
 have h16:adfRel [.lst A,.lst B] [.lst O,.int 0]:=by
  show O.length<=16
  simp only[ln]at*;omega
 repeat' with_reducible first|exact trivial|exact h16|omega| (refine bK7 ?_ ?_)|intro _
theorem vcPut_ok :vcPut:=by
 unfold vcPut
 rintro w p n v i k d t y a x c P L ⟨h1,h2⟩ b
 have l1:ln P<=1000:=by simp only[ln];omega
 have l2:ln L<=100000:=by simp only[ln];omega
 have l3:0<=ln P:=by simp only[ln];omega
 have l4:0<=ln L:=by simp only[ln];omega
 simp only[Nd,Nr,Ni]
 rcases P with _| ⟨r,P⟩
 ·have e:∀A,Sx.part (Sx.over (Sx.chunk 1 0 []) 0 []) 0 A=([]:Sx.Rows):=fun _=>by simp[Sx.part,Sx.over,Sx.chunk]
  have e2:ln (Sx.over (Sx.chunk 1 0 []) 0 [])=0:=rfl
  have e3:ln ([]:Sx.Rows)=0:=rfl
  simp only[e,e2,e3]
  have F:=(rfl:L++Sx.chunk 12 1 [(.int w),(.lst ([]:Sx.Rows)),(.str n),(.str v),(.int i),(.int k),(.int d),(.str t),(.str y),(.lst a),(.str x),(.lst c)]=_)
  repeat' with_reducible first|exact trivial|exact F|omega| (refine bK7 ?_ ?_)|intro _
  all_goals exact F
 ·have e3:0<ln (r::P):=by simp only[ln,bM2];omega
  repeat' with_reducible first|exact trivial|omega| (refine bK7 ?_ ?_)|intro _
  all_goals rfl
theorem ow_step {E P L0 L:Sx.Rows}{i w:Int}{a:Dat}{l:List Dat}(hw:1<=w/\w<=3)(h:owInv [.lst E,.lst P,.lst L0] [.int i,.lst L])(hi:i<ln E):owInv [.lst E,.lst P,.lst L0] [.int (i+1),.lst (L++ [.int w:: .lst P::l])]:=by
 obtain⟨h0,h1,S,rfl,h2,h3⟩:=h
 refine⟨by omega,by omega,S++ [.int w:: .lst P::l],by simp,by simp;omega,SOK_app.2 ⟨h3,fun r hr=>?_⟩⟩
 cases bO4.1 hr
 exact⟨hw.1,hw.2,bK2 _⟩
theorem own_body {E P L L0:Sx.Rows}{i:Int}(hE:E.length<=16)(hP:P.length<=100)(hL:L0.length<=10001)(h:owInv [.lst E,.lst P,.lst L0] [.int i,.lst L])(hi:i<ln E):vcOwn0 i E L P L0:=by
 have hh:=h
 obtain⟨h0,h1,S,rfl,h2,h3⟩:=h
 unfold vcOwn0
 have hp:∀l:List Dat,True:=fun _=>trivial
 have hln:(L0++S).length<=100000:=by rw[bK6];simp only[ln]at*;omega
 simp only[Nd,Nr,Ni,I64,putPre,putRel,forall_eq,bM3,bO2,bP2,bO7,owMu,slMu]
 have s1:=fun l=>ow_step (a:= .int 0) (l:=l) (w:=1) (by omega) hh hi
 have s2:=fun l=>ow_step (a:= .int 0) (l:=l) (w:=2) (by omega) hh hi
 have hP2:P.length<=1000:=by omega
 simp only[ln]at*
 repeat' with_reducible first|exact trivial|exact s1 _|exact s2 _|exact hP2|exact hln|omega| (refine bK7 ?_ ?_)|intro _
theorem vcOwn_ok :vcOwn:=by
 unfold vcOwn
 rintro k t y a x c k' t' y' a' x' c' P L ⟨⟨s,⟨rfl,rfl,rfl,rfl,rfl,rfl⟩,hs⟩,⟨s',⟨rfl,rfl,rfl,rfl,rfl,rfl⟩,hs'⟩,hP,hL⟩
 have a1:=(alone_c ((AllA_iff s).1 hs).1).2
 have a2:=(alone_c ((AllA_iff s').1 hs').1).2
 have A:adfPre [.lst (s.a.map Att.row),.lst (s'.a.map Att.row)]:=⟨_,_,rfl,rfl,a1,a2⟩
 have I:∀ {E L0:Sx.Rows},owInv [.lst E,.lst P,.lst L0] [.int 0,.lst L0]:=fun{E L0}=>⟨by omega,by simp[ln],[],by simp,rfl,SOK_nil _ _ _⟩
 have F:∀ {E L0 L2:Sx.Rows} {i:Int},E.length<=16->owInv [.lst E,.lst P,.lst L0] [.int i,.lst L2]->(∃S,L0=L++S/\S.length<=1/\SOK 1 3 P.length S)->ownRel [.int s.k,.str s.t,.str s.y,.lst (s.a.map Att.row),.str s.x,.lst (rows s.c),.int s'.k,.str s'.t,.str s'.y,.lst (s'.a.map Att.row),.str s'.x,.lst (rows s'.c),.lst P,.lst L] [.lst L2]:=by
  rintro E L0 L2 i hE ⟨h0,h1,S,rfl,h2,h3⟩ ⟨S0,rfl,h4,h5⟩
  exact⟨S0++S,by simp,by simp only[ln]at h1;rw[bK6];omega,SOK_app.2 ⟨h5,h3⟩⟩
 have hP2:P.length<=1000:=by omega
 have hL2:L.length<=100000:=by omega
 simp only[Nd,Nr,Ni,putPre,putRel,forall_eq,bM3,bO2,bP2,bO7,bP9,bN5]
 refine⟨fun _=>⟨A,fun _ E e hE=>⟨I,fun _ i L2 h=>⟨fun hi=>own_body hE hP (by omega) h hi,fun _=>F hE h ⟨[],by simp,by simp,SOK_nil _ _ _⟩⟩⟩⟩,fun _=>⟨⟨hP2,hL2⟩,fun _=>⟨A,fun _ E e hE=>⟨I,fun _ i L2 h=>⟨fun hi=>own_body hE hP (by simp;omega) h hi,fun _=>F hE h ⟨_,rfl,by simp,fun r hr=>?_⟩⟩⟩⟩⟩⟩
 cases bO4.1 hr
 exact⟨by show(1:Int)<=3;omega,by show(3:Int)<=3;omega,bK2 _⟩
end Go.D
