/- Trees that are changed in place: the conditions of the pieces hold.
  Conditions: none. -/
import Derived.Test.YtcjhhnoaoldcmaaM4
import Derived.Test.YtcjhhnoaoldcmaaA5
import Derived.Test.YtcjhhnoaoldcmaaC5
set_option linter.unusedVariables false
set_option linter.unusedSimpArgs false
namespace Go.D
open Go Go.Xe Go.Sx
open Go.C36 (row j8 lis cLong cRlong longPre longRel rlongPre rlongRel)
theorem set_end {L : Sx.Rows} {a b c d e f a' b' c'  g e'  i : Dat} (hr : ∀ r ∈ L, r.length = 6) :
  Sx.setAt (Sx.setAt (Sx.setAt (Sx.setAt (Sx.setAt (Sx.setAt (L++Sx.chunk 6 1 [a',b',c',g,e',i]) (ln L) 0 a) (ln L) 1 b) (ln L) 2 c) (ln L) 3 d) (ln L) 4 e) (ln L) 5 f=L++ [[a,b,c,d,e,f]]:=by
 have e0:Sx.chunk 6 1 [a',b',c',g,e',i]=[[a',b',c',g,e',i]]:=rfl
 rw[e0,set6 (by simp[ln]) (by simp[ln];omega) (fun r h=>by
  rcases bD8.1 h with h|h
  ·exact hr r h
  ·rw[bG5.1 h];rfl)]
 simp[ln]
theorem vcCpy_ok :vcCpy:=by
 unfold vcCpy
 rintro k t y a x c ⟨s,hs⟩
 have hp:chkPre [.int k,.str t,.str y,.lst a,.str x,.lst c]:=⟨s,hs⟩
 simp only[Nd,hp,bG8,bE5,bH2,bG3]
 intro n hn
 have h:=hn s hs
 have un:∀s',isT s' k t y a x c->s'=s:=fun s' h'=>by
  obtain⟨rfl,rfl,rfl,rfl,rfl,rfl⟩:=hs
  rw[isT_self]at h';exact h'
 refine⟨fun h0=>⟨⟨s,hs,(h.1.1 h0).1⟩,fun _ k' t' b a' x' c' hr s' h1 h2=>?_⟩,fun h0=>fun s' h1 h2=>?_⟩
 ·have:=hr s' h1
  rwa[strip_true]at this
 ·rw[un s' h1]at h2
  exact absurd (h.1.2 h2) h0
theorem vcCa_ok :vcCa:=by
 unfold vcCa
 rintro k t y a x c h
 have h:ln a<=1000:=h
 have i:0<=ln a:=by simp[ln]
 have f:Sx.chunk 2 0 []++a=a:=rfl
 have d:¬ln a<0:=by omega
 have e:ln a=0->a=[]:=fun h=>List.length_eq_zero_iff.1 (by simp only[ln]at h;omega)
 simp only[Nd,Ni,Nr,caRel,f,bG8,bH2,and_self,bE5,bG3]
 intro b
 refine⟨fun _ h0=>(e h0).symm,fun _=>⟨by omega,fun _=>⟨fun h0=>?_,fun h0=>?_⟩⟩⟩
 ·simp only[Int.lt_irrefl,bF6,bG8,bE5,d]
 have g:=e (by omega)
 subst g
 decide
theorem vcDck_ok :vcDck:=by
 unfold vcDck
 rintro k t y a x c k' t' f a' x' c' ⟨⟨s,hs,e⟩,s',b,d⟩
 have h1:chkPre [.int k,.str t,.str y,.lst a,.str x,.lst c]:=⟨s,hs⟩
 have h2:chkPre [.int k',.str t',.str f,.lst a',.str x',.lst c']:=⟨s',b⟩
 simp only[Nd,h1,h2,bG8,bE5,bH2]
 intro n hn
 have hn:=((hn s hs).1).2 e
 exact⟨fun _ m hm=>⟨((hm s' b).1).2 d,fun _=>trivial⟩,fun h=>absurd hn h⟩
theorem vcFt_ok :vcFt:=by
 unfold vcFt
 rintro k t y a x c k' t' b a' x' c' _
 simp only[Nd,ftRel,bH2]
 refine⟨fun h=>?_,fun h=>?_⟩
 ·refine⟨?_,fun _=>trivial⟩
  rw[beq_iff_eq]
  exact⟨fun e=>⟨h,e⟩,fun e=>e.2⟩
 ·exact⟨⟨fun e=>(by cases e),fun e=>absurd e.1 h⟩,fun _=>trivial⟩
theorem kr0_ok {o n:List Tree}{m:List Int}{i k n0:Int}{t y x:Str}{a:Sx.Rows}(h0:0<=i)(hi:i<ln (rows o))(hn:n.length<=1000)(j:∀s,o[i.toNat]? =some s->Valid s)(hm:i∉m):vcKr0 (rows o) i (rows n) (m.map row) n0 k t y a x:=by
 simp only[ln,bC0]at hi
 obtain⟨c,hc⟩:=Sx.get_at h0 hi
 have hr:∀r∈rows n,r.length=6:=fun r hr=>by
  obtain⟨c,_,rfl⟩:=bI1.1 hr
  exact row_len c
 have q:0<=ln (rows n):=by simp[ln]
 have u:ln (rows n)<=1000:=by simp only[ln,bC0];omega
 have d:krRel [.lst (m.map row),.lst (rows o),.int n0,.int i,.int k,.str t,.str y,.lst a,.str x,.lst (rows n)] [.lst (m.map row),.lst (rows o),.int n0,.int i,.int k,.str t,.str y,.lst a,.str x,.lst (rows n++ [c.row])]:=by
  refine⟨rfl,rfl,rfl,rfl,rfl,rfl,rfl,rfl,rfl,fun l o' h1 h2=>?_⟩
  have f:l=m:=(List.map_inj_right (fun a b h=>by simpa [row]using h)).1 h1.symm
  have g:o'=o:=rows_eq.mp h2.symm
  subst f;subst g
  rw[bC1 hm]
  have:(o'.drop i.toNat).take 1=[c]:=by
   have:=(bA4.1 hc).1
   rw[List.drop_eq_getElem_cons this]
   simp[(bA4.1 hc).2]
  show _=rows n++(rows (o'.drop i.toNat)).take 1
  simp only[rows,<-List.map_take,this,bF2,List.map_nil]
 unfold vcKr0
 simp only[Nd,Nr,Ni,cI,cS,cB,cL,cell_rows hc,t0,t1,t2,t3,t4,t5,n7,i5,C9,set_end hr,cpyPre,trPre,cpyRel,isT_self,forall_eq,exists_eq_left,exists_eq,bG8,bE5,bH2,bG3,bJ1,j c hc]
 refine⟨fun k' t' p a' x' c' e=>?_,fun k' t' p a' x' c' e=>?_⟩
 ·omega
 ·rw[isT_row e]
  repeat' with_reducible first|exact d|omega| (refine bC9 ?_ ?_)|intro _
theorem vcKr_ok : vcKr := by
 unfold vcKr
 rintro M C n0 i k t y a x c ⟨h0,hi,⟨n,rfl,hn⟩,⟨o,rfl,z⟩,m,rfl,w⟩
 have nm:i∉m->vcKr0 (rows o) i (rows n) (m.map row) n0 k t y a x:=fun h=>kr0_ok h0 hi hn z h
 have inj:∀l:List Int,m.map row=l.map row->l=m:=fun l h=>(List.map_inj_right (fun a b h=>by simpa [row]using h)).1 h.symm
 have i0:ixnInv [.lst (m.map row),.int i] [.int 0]:=⟨bG4 _,by simp[ln],fun l hl=>by simp⟩
 have u:¬i<0:=by omega
 simp only[Nd,Nr,Ni,i0,u,hi,bF6,bG8,bE5]
 intro j hj
 obtain⟨A,B,r⟩:=hj
 have r:=r m rfl
 have D:¬j<0:=by omega
 have g:ln (m.map row)=(m.length:Int):=by simp[ln]
 refine⟨fun hlt=>?_,fun hge=>nm fun f=>r ?_⟩
 ·rw [  g] at hlt  B
  have v:=getD_at (l:=m) (d:=0) A hlt
  simp only[D,bF6,bG8,bE5,cI_row]
  refine⟨by rw[g];exact hlt,fun _=>⟨fun he=>?_,fun s=>?_⟩⟩
  ·have f:i∈m:=by rw[he];exact bB1 v
   have p:krRel [.lst (m.map row),.lst (rows o),.int n0,.int i,.int k,.str t,.str y,.lst a,.str x,.lst (rows n)] [.lst (m.map row),.lst (rows o),.int n0,.int i,.int k,.str t,.str y,.lst a,.str x,.lst (rows n)]:=
    ⟨rfl,rfl,rfl,rfl,rfl,rfl,rfl,rfl,rfl,fun E o' h1 h2=>by rw[inj E h1,bC3 f]⟩
   have q:¬ln (rows n)<ln (rows n):=by omega
   simp only[q,bF6,p,bG8,bE5,bH2,bG3,Int.lt_irrefl,false_implies]
  ·have inv : ixnInv [.lst (m.map row), .int i] [.int (j + 1)] := by
    refine⟨by omega,by rw[g];omega,fun l hl=>?_⟩
    rw[inj l hl]
    have e:(j+1).toNat=j.toNat+1:=by omega
    rw[e,List.take_add_one,v]
    simp only[Option.toList_some,bD8,bG5,not_or]
    exact⟨r,s⟩
   have mu:ixnMu [.lst (m.map row),.int i] [.int (j+1)]<ixnMu [.lst (m.map row),.int i] [.int j]:=by
    simp only[ixnMu,slMu,bC0];omega
   have i64:I64 (j+1):=by unfold I64;omega
   exact⟨i64,fun _=>⟨inv,fun _=>⟨mu,fun _=>trivial⟩⟩⟩
 ·rw[g]at hge
  rw[bF0 (by omega)]
  exact f
end Go.D
