/- Keep, where there is nothing below: its condition, and that of Keep's error, hold.
  Conditions: none. -/
import Derived.Test.YtcjhhnoaoldcmaaGreatGA
import Derived.Test.YtcjhhnoaoldcmaaGreatD5
set_option linter.unusedVariables false
set_option linter.unusedSimpArgs false
namespace Go.D
open Go Go.Xe Go.Sx
open Go.C36 (row t6 lis cLong cRlong longPre longRel rlongPre rlongRel)
theorem set_end {L : Sx.Rows} {a b c d e f a' b' c' d' e' f' : Dat} (hr : ∀ r ∈ L, r.length = 6) :
  Sx.setAt (Sx.setAt (Sx.setAt (Sx.setAt (Sx.setAt (Sx.setAt (L++Sx.chunk 6 1 [a',b',c',d',e',f']) (ln L) 0 a) (ln L) 1 b) (ln L) 2 c) (ln L) 3 d) (ln L) 4 e) (ln L) 5 f=L++ [[a,b,c,d,e,f]]:=by
 have e0:Sx.chunk 6 1 [a',b',c',d',e',f']=[[a',b',c',d',e',f']]:=rfl
 rw[e0,set6 (by simp[ln]) (by simp[ln];omega) (fun r h=>by
  rcases bL6.1 h with h|h
  ·exact hr r h
  ·rw[bO4.1 h];rfl)]
 simp[ln]
theorem kb_step {o:List Tree}{i k:Int}{t y x:Str}{a D:Sx.Rows}(h:kbInv [.lst (rows o)] [.int i,.int k,.str t,.str y,.lst a,.str x,.lst D])(hi:i<(o.length:Int)){c:Tree}:kbInv [.lst (rows o)] [.int (i+1),.int k,.str t,.str y,.lst a,.str x,.lst (D++ [c.row])]:=by
 obtain⟨h0,h1,h2,s,p1,p2,p3,p4,p5,p6⟩:=h
 refine⟨by omega,by simp only[ln,bJ8];omega,by simp only[ln,bK6,bM2,bS7]at h2⊢;omega,.mk k t y s.a x (s.c++ [c]),rfl,rfl,rfl,p4,rfl,?_⟩
 rw[p6]
 show rows s.c++ [c.row]=rows (s.c++ [c])
 simp[rows]
theorem kp_body (n:Nat)(o:List Tree)(ho:o.length<=16)(hA:AllAs o){i k:Int}{t y x:Str}{a D:Sx.Rows}(h:kbInv [.lst (rows o)] [.int i,.int k,.str t,.str y,.lst a,.str x,.lst D])(hi:i<ln (rows o)):vcKp0 n (rows o) i D k t y a x:=by
 have h':=h
 obtain⟨h0,h1,h2,s,p1,p2,p3,p4,p5,p6⟩:=h'
 simp only[ln,bJ8]at hi h1
 obtain⟨c,hc⟩:=Sx.get_at h0 hi
 have hr:∀r∈D,r.length=6:=fun r hr=>by
  rw[p6]at hr
  obtain⟨c,_,rfl⟩:=bQ2.1 hr
  exact row_len c
 have st:∀c:Tree,kbInv [.lst (rows o)] [.int (i+1),.int k,.str t,.str y,.lst a,.str x,.lst (D++ [c.row])]:=fun c=>kb_step h hi
 have mu:∀D',kbMu [.lst (rows o)] [.int (i+1),.int k,.str t,.str y,.lst a,.str x,.lst D']<kbMu [.lst (rows o)] [.int i,.int k,.str t,.str y,.lst a,.str x,.lst D]:=fun _=>by simp only[kbMu,slMu,bJ8];omega
 have l0:0<=ln D:=by simp[ln]
 have l1:ln D<=32:=by simp only[ln]at h2⊢;omega
 have e0:([.int 0,.str [],.str [],.lst [],.str [],.lst []]:List Dat)=(Tree.mk 0 [] [] [] [] []).row:=by rw[row_def];rfl
 unfold vcKp0 kKp0
 simp only[Nd,Nr,Ni,I64,cI,cS,cB,cL,cell_rows hc,t0,t1,t2,t3,t4,t5,f9,p9,I8,set_end hr,chkPre,trPre,cpdPre,cpdRel,isT_self,forall_eq,exists_eq_left,exists_eq,bO7,bM3,bO2,bP2]
 rw[e0]
 refine⟨fun e he=>⟨fun _=>⟨AllAs_mem hA hc,fun _ _ _ _ _ _ _ _=>?_⟩,fun _=>?_⟩,fun e he=>⟨fun _=>⟨AllAs_mem hA hc,fun _ k' t' y' a' x' c' hT=>?_⟩,fun _=>?_⟩⟩
 ·omega
 ·omega
 ·rw[isT_row hT]
  have:=st (strip true c)
  have:=mu (D++ [(strip true c).row])
  repeat' with_reducible first|assumption|omega| (refine bK7 ?_ ?_)|intro _
 ·have:=st (.mk 0 [] [] [] [] [])
  have:=mu (D++ [(Tree.mk 0 [] [] [] [] []).row])
  repeat' with_reducible first|assumption|omega| (refine bK7 ?_ ?_)|intro _
theorem mt_neg {o n:List Tree}(h:o=[]\/n=[]){i:Int}(h0:0<=i)(hi:i<ln ((mtch o n).map row)):cI ((mtch o n).map row) i 0<0:=by
 rw[cI_row]
 simp only[ln,bJ8,mtch_len]at hi
 have hm:=getD_at (l:=mtch o n) (d:=0) h0 (by rw[mtch_len];exact hi)
 have:=mtch_mem (bI9 hm)
 rcases h with rfl|rfl
 ·simp only[bS7]at this;omega
 ·simp only[bS7]at hi;omega
theorem vcKp_ok (n:Nat):vcKp n:=by
 unfold vcKp
 rintro _ _ _ _ _ _ _ _ _ _ _ _ ⟨⟨he,⟨s,⟨rfl,rfl,rfl,rfl,rfl,rfl⟩,hA⟩,s',⟨rfl,rfl,rfl,rfl,rfl,rfl⟩,hA'⟩,_⟩
 have hA:=(AllA_iff s).1 hA
 have hA':=(AllA_iff s').1 hA'
 have c1:=(alone_c hA.1).1
 have c2:=(alone_c hA'.1).1
 have he:s.c=[]\/s'.c=[]:=he.imp (fun h=>by simpa using h) (fun h=>by simpa using h)
 have B:=fun i k t y a x D h hi=> @kp_body n s.c c1 hA.2 i k t y x a D h hi
 have S:kbInv [.lst (rows s.c)] [.int 0,.int s'.k,.str s'.t,.str s'.y,.lst (s'.a.map Att.row),.str s'.x,.lst (rows s'.c)]:=⟨by omega,by simp[ln],by simp[ln];omega,s',rfl,rfl,rfl,rfl,rfl,rfl⟩
 have M:=fun i h0 hi=> @mt_neg s.c s'.c he i h0 hi
 have F:∀i k t y a x D,kbInv [.lst (rows s.c)] [.int i,.int k,.str t,.str y,.lst a,.str x,.lst D]->kpRel [.int s.k,.str s.t,.str s.y,.lst (s.a.map Att.row),.str s.x,.lst (rows s.c),.int s'.k,.str s'.t,.str s'.y,.lst (s'.a.map Att.row),.str s'.x,.lst (rows s'.c)] [.int k,.str t,.str y,.lst a,.str x,.lst D]:=fun i k t y a x D h=>h.2.2.2
 have L:ln ((mtch s.c s'.c).map row)=ln (rows s'.c):=by simp[ln,mtch_len]
 have L':ln (rows s'.c)<=16:=by simp[ln];omega
 have L2:ln (rows s.c)<=16:=by simp[ln];omega
 simp only[Nd,Nr,Ni]
 refine⟨by omega,fun _=>⟨trivial,fun _=>⟨⟨s.c,s'.c,rfl,rfl,by omega,by omega⟩,fun _ m hm=>?_⟩⟩⟩
 have hm:=hm s.c s'.c rfl rfl
 subst hm
 simp only[kaInv,kaMu,slMu,ccInv,ccMu]
 refine⟨⟨by omega,by simp[ln]⟩,fun _ i hi=>⟨fun h=>?_,fun h=>⟨by omega,fun _=>⟨trivial,fun _=>⟨S,fun _ i k t y a x D hb=>?_⟩⟩⟩⟩⟩
 ·have:=M i hi.1 (by omega)
  have e:((List.map row (mtch s.c s'.c)).length:Int)=ln (rows s'.c):=L
  refine⟨by omega,fun _=>⟨by omega,fun _=>⟨by omega,fun _=>⟨fun _=>⟨?_,fun _=>⟨by omega,fun _=>⟨by omega,fun _=>trivial⟩⟩⟩,fun h=>absurd this h⟩⟩⟩⟩
  simp only[I64]
  omega
 ·have hb':=hb
  obtain⟨h0,h1,h2,_⟩:=hb'
  have B:=B i k t y a x D hb
  have F:=F i k t y a x D hb
  refine⟨fun hi=>⟨by omega,fun _=>⟨hi,fun _=>⟨by omega,fun _ j hj=>⟨fun h=>⟨by omega,fun _=>⟨h,fun _=>⟨h,fun _=>⟨fun _=>⟨fun hh=>by omega,fun _=>?_⟩,fun _=>?_⟩⟩⟩⟩,fun _=>B hi⟩⟩⟩⟩,fun hi=>⟨by omega,fun _=>⟨trivial,fun _=>⟨F,fun _=>trivial⟩⟩⟩⟩
  ·have l0:0<=ln D:=by simp[ln]
   have st:kbInv [.lst (rows s.c)] [.int (i+1),.int k,.str t,.str y,.lst a,.str x,.lst D]:=⟨by omega,by omega,by omega,hb.2.2.2⟩
   refine⟨by simp only[I64];omega,fun _=>⟨by omega,fun _=>⟨trivial,fun _=>⟨st,fun _=>⟨?_,fun _=>trivial⟩⟩⟩⟩⟩
   simp only[kbMu,slMu]
   simp only[ln]at hi
   omega
  ·have e:((List.map row (mtch s.c s'.c)).length:Int)=ln (rows s'.c):=L
   refine⟨by simp only[I64];omega,fun _=>⟨by omega,fun _=>⟨by omega,fun _=>trivial⟩⟩⟩
end Go.D
