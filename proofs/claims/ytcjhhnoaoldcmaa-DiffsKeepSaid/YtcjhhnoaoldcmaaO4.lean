/- DiffsKeep: the condition of the reference's kept holds.
  Conditions: none. -/
import Derived.Test.YtcjhhnoaoldcmaaO3
import Derived.Test.YtcjhhnoaoldcmaaA5
import Derived.Test.YtcjhhnoaoldcmaaC5
set_option linter.unusedVariables false
set_option linter.unusedSimpArgs false
noncomputable section
namespace Go.D
open Go Go.Xe Go.Sx
open Go.C36 (row j8 lis)
variable {q:Prop}
theorem ni {x:Int}(h:q):Ni x q:=⟨Int.lt_irrefl _,fun _=>h⟩
theorem nr {x:Int}(h:q):Nr x q:=⟨rfl,fun _=>h⟩
theorem nd {p:Prop}(hp:p)(h:q):Nd p q:=⟨hp,fun _=>h⟩
variable {l:List Tree}
theorem app_rw {c:Tree}:rows l++Sx.chunk 6 1 [.int c.k,.str c.t,.str c.y,.lst (c.a.map Att.row),.str c.x,.lst (rows c.c)]=rows (l++ [c]):=by
 simp only[rows,bE8,bF2,List.map_nil,row_def]
 rfl
theorem take_next {i:Int}{c:Tree}(h0:0<=i)(h:l[i.toNat]? =some c):l.take (i+1).toNat=l.take i.toNat++ [c]:=by
 have e:(i+1).toNat=i.toNat+1:=by omega
 rw[e,List.take_add_one,h]
 rfl
theorem vcRkt_ok (n:Nat):vcRkt n:=by
 unfold vcRkt
 rintro _ _ _ _ _ _ _ _ _ _ _ _ ⟨⟨⟨s,⟨rfl,rfl,rfl,rfl,rfl,rfl⟩,Q⟩,s',⟨rfl,rfl,rfl,rfl,rfl,rfl⟩,v⟩,w⟩
 have w:szRs (rows s'.c)<n+1:=w
 have R:s'.c.length<=16:=(alone_c ((AllA_iff _).1 v.1).1).1
 have V:s.c.length<=16:=(alone_c ((AllA_iff _).1 Q.1).1).1
 have H:(mtch s.c s'.c).length=s'.c.length:=mtch_len _ _
 refine nd ⟨_,_,rfl,rfl,by omega,by omega⟩ fun M E=>?_
 have E:M=(mtch s.c s'.c).map row:=E _ _ rfl rfl
 subst E
 have L0:ln (rows s'.c)=(s'.c.length:Int):=by simp[ln]
 have L1:ln (rows s.c)=(s.c.length:Int):=by simp[ln]
 have L2:ln ((mtch s.c s'.c).map row)=(s'.c.length:Int):=by simp[ln,H]
 have f:(keepL s'.c s.c (mtch s.c s'.c)).length=s'.c.length:=keepL_len _ _ _
 refine nd ⟨bG4 _,by omega,rfl,rfl,rfl,rfl,rfl,fun o c g hc=>by simp⟩ fun i k t y a x O hi=>?_
 obtain⟨i0,i1,rfl,rfl,rfl,rfl,rfl,e⟩:=hi
 have e:=e s.c s'.c rfl rfl
 subst e
 have Z:ln (rows ((keepL s'.c s.c (mtch s.c s'.c)).take i.toNat))=i:=by
  simp only[ln,rows,bC0,bD6,f];omega
 have J:∀ {j:Int},0<=j->j<=20->I64 (j+1):=fun h1 h2=>⟨by omega,by omega⟩
 refine⟨fun hlt=>?_,fun hge=>?_⟩
 ·obtain⟨c,hc⟩:=Sx.get_at (T:=s'.c) i0 (by omega)
  have X:(mtch s.c s'.c)[i.toNat]? =some ((mtch s.c s'.c).getD i.toNat 0):=getD_at i0 (by omega)
  have F:(mtch s.c s'.c).getD i.toNat (-1)=(mtch s.c s'.c).getD i.toNat 0:=by rw[bD2,X];rfl
  obtain⟨v0,v1⟩:=mtch_mem (bB1 X)
  have hk:(keepL s'.c s.c (mtch s.c s'.c))[i.toNat]? =some (if 0<=(mtch s.c s'.c).getD i.toNat 0 then keepT c (s.c.getD ((mtch s.c s'.c).getD i.toNat 0).toNat noT)else c):=by have:=keepL_get (oc:=s.c) (m:=mtch s.c s'.c) hc;rwa[F]at this
  have B:∀d:Tree,(keepL s'.c s.c (mtch s.c s'.c))[i.toNat]? =some d->rpInv [.lst (rows s.c),.lst (rows s'.c),.int s'.k,.str s'.t,.str s'.y,.lst (s'.a.map Att.row),.str s'.x] [.int (i+1),.int s'.k,.str s'.t,.str s'.y,.lst (s'.a.map Att.row),.str s'.x,.lst (rows ((keepL s'.c s.c (mtch s.c s'.c)).take i.toNat)++Sx.chunk 6 1 [.int d.k,.str d.t,.str d.y,.lst (d.a.map Att.row),.str d.x,.lst (rows d.c)])]:=fun d hd=>by
   refine⟨by omega,by omega,rfl,rfl,rfl,rfl,rfl,fun o n g hn=>?_⟩
   rw[rows_eq]at g hn
   subst g;subst hn
   rw[app_rw,take_next i0 hd]
  have mu:∀O,rpMu [.lst (rows s.c),.lst (rows s'.c),.int s'.k,.str s'.t,.str s'.y,.lst (s'.a.map Att.row),.str s'.x] [.int (i+1),.int s'.k,.str s'.t,.str s'.y,.lst (s'.a.map Att.row),.str s'.x,.lst O]<rpMu [.lst (rows s.c),.lst (rows s'.c),.int s'.k,.str s'.t,.str s'.y,.lst (s'.a.map Att.row),.str s'.x] [.int i,.int s'.k,.str s'.t,.str s'.y,.lst (s'.a.map Att.row),.str s'.x,.lst (rows ((keepL s'.c s.c (mtch s.c s'.c)).take i.toNat))]:=fun O=>by
   show(((rows s'.c).length:Int)-(i+1)).toNat<(((rows s'.c).length:Int)-i).toNat
   simp only[rows,bC0];omega
  have big:ln (rows ((keepL s'.c s.c (mtch s.c s'.c)).take i.toNat))+1<67108865:=by rw[Z];omega
  refine nd (by omega) (nd hlt (nd (by omega) (nd (by omega) ?_)))
  simp only[cI_row]
  refine⟨fun U=>?_,fun z=>?_⟩
  ·simp only[cI,cS,cL,cell_rows hc,Go.D.t0,Go.D.t1,Go.D.t2,Go.D.t3,Go.D.t4,Go.D.t5,n7,i5,C9]
   exact ni (nd big (nr (nd (J i0 (by omega)) (ni (nr (nd (B c (by rw[hk,bC1 (by omega)])) (nd (mu _) trivial)))))))
  ·obtain⟨o',p⟩:=Sx.get_at (T:=s.c) (i:=(mtch s.c s'.c).getD i.toNat 0) (by omega) (by omega)
   have he:s.c.getD ((mtch s.c s'.c).getD i.toNat 0).toNat noT=o':=by rw[bD2,p];rfl
   rw[bC3 (by omega),he]at hk
   simp only[cI,cS,cL,cell_rows hc,cell_rows p,Go.D.t0,Go.D.t1,Go.D.t2,Go.D.t3,Go.D.t4,Go.D.t5,n7,i5,C9]
   have aa:=szRs_mem hc
   refine nd (by omega) (nd (by omega) (nd z (nd (by omega) (nd ⟨⟨⟨o',⟨rfl,rfl,rfl,rfl,rfl,rfl⟩,valid_c Q (bB1 p)⟩,c,⟨rfl,rfl,rfl,rfl,rfl,rfl⟩,valid_c v (bB1 hc)⟩,?_⟩ fun k t y a x c' hr=>?_))))
   ·show szRs (rows c.c)<n
    omega
   ·obtain⟨rfl,rfl,rfl,rfl,rfl,rfl⟩:=hr o' c ⟨rfl,rfl,rfl,rfl,rfl,rfl⟩ ⟨rfl,rfl,rfl,rfl,rfl,rfl⟩
    exact ni (nd big (nr (nd (J i0 (by omega)) (ni (nr (nd (B _ hk) (nd (mu _) trivial)))))))
 ·have ht:(keepL s'.c s.c (mtch s.c s'.c)).take i.toNat=keepL s'.c s.c (mtch s.c s'.c):=bF0 (by rw[f];omega)
  rw[ht]
  refine ni (nr (nd ⟨bG4 _,by omega,rfl,rfl,rfl,rfl,rfl,fun o m g hm=>by simp[leftF]⟩ fun j k t y a x O hj=>?_))
  obtain⟨L,j1,rfl,rfl,rfl,rfl,rfl,e⟩:=hj
  have e:=e s.c (mtch s.c s'.c) rfl rfl
  subst e
  have L4:ln (rows (keepL s'.c s.c (mtch s.c s'.c))++rows (leftF s.c (mtch s.c s'.c) j.toNat))<=40:=by
   have:=leftF_len s.c (mtch s.c s'.c) j.toNat
   simp only[ln,rows,bC8,bC0,f];omega
  have Y:(j.toNat:Int)=j:=by omega
  have N:(j+1).toNat=j.toNat+1:=by omega
  have mu:∀O,rqMu [.lst (rows s.c),.lst ((mtch s.c s'.c).map row),.int s'.k,.str s'.t,.str s'.y,.lst (s'.a.map Att.row),.str s'.x,.lst (rows (keepL s'.c s.c (mtch s.c s'.c)))] [.int (j+1),.int s'.k,.str s'.t,.str s'.y,.lst (s'.a.map Att.row),.str s'.x,.lst O]<rqMu [.lst (rows s.c),.lst ((mtch s.c s'.c).map row),.int s'.k,.str s'.t,.str s'.y,.lst (s'.a.map Att.row),.str s'.x,.lst (rows (keepL s'.c s.c (mtch s.c s'.c)))] [.int j,.int s'.k,.str s'.t,.str s'.y,.lst (s'.a.map Att.row),.str s'.x,.lst (rows (keepL s'.c s.c (mtch s.c s'.c))++rows (leftF s.c (mtch s.c s'.c) j.toNat))]\/ ¬j<ln (rows s.c):=fun O=>by
   by_cases h:j<ln (rows s.c)
   ·left
    show(((rows s.c).length:Int)-(j+1)).toNat<(((rows s.c).length:Int)-j).toNat
    simp only[rows,bC0];omega
   ·exact .inr h
  refine⟨fun hlt=>?_,fun S=>?_⟩
  ·have mu:∀O,_:=fun O=>(mu O).resolve_right (fun h=>h hlt)
   obtain⟨c,hc⟩:=Sx.get_at (T:=s.c) L (by omega)
   have inv:∀O,O=rows (keepL s'.c s.c (mtch s.c s'.c))++rows (leftF s.c (mtch s.c s'.c) (j.toNat+1))->rqInv [.lst (rows s.c),.lst ((mtch s.c s'.c).map row),.int s'.k,.str s'.t,.str s'.y,.lst (s'.a.map Att.row),.str s'.x,.lst (rows (keepL s'.c s.c (mtch s.c s'.c)))] [.int (j+1),.int s'.k,.str s'.t,.str s'.y,.lst (s'.a.map Att.row),.str s'.x,.lst O]:=fun O e=>by
    refine⟨by omega,by omega,rfl,rfl,rfl,rfl,rfl,fun o m g hm=>?_⟩
    have G:=(List.map_inj_right (fun a b h=>by simpa [row]using h)).1 hm
    rw[rows_eq]at g
    subst g;subst G
    rw[e,N]
   refine nd (show ln _<=1000 by omega) fun r hr=>?_
   have hr:=hr _ rfl
   refine⟨fun he=>?_,fun I=>?_⟩
   ·have K:=hr.1 he
    simp only[cI,cS,cL,cell_rows hc,Go.D.t0,Go.D.t1,Go.D.t2,Go.D.t3,Go.D.t4,Go.D.t5,n7,i5,C9]
    refine nd (by omega) (nd hlt (ni (nd (by omega) (nr (nd (J L (by omega)) (ni (nr (nd (inv _ ?_) (nd (mu _) trivial)))))))))
    have e1:(s.c.drop j.toNat).take 1=[c]:=by
     have:=(bA4.1 hc).1
     rw[List.drop_eq_getElem_cons this]
     simp[(bA4.1 hc).2]
    have C:leftF s.c (mtch s.c s'.c) (j.toNat+1)=leftF s.c (mtch s.c s'.c) j.toNat++ [c]:=by
     show leftF s.c (mtch s.c s'.c) j.toNat++(if(j.toNat:Int)∈mtch s.c s'.c then []else(s.c.drop j.toNat).take 1)=_
     rw[Y,bC1 K,e1]
    rw[C,bB5,app_rw]
   ·have hm:j∈mtch s.c s'.c:=Classical.byContradiction fun h=>I (hr.2 h)
    refine nd (J L (by omega)) (ni (nr (nd (inv _ ?_) (nd (mu _) trivial))))
    have C:leftF s.c (mtch s.c s'.c) (j.toNat+1)=leftF s.c (mtch s.c s'.c) j.toNat:=by
     show leftF s.c (mtch s.c s'.c) j.toNat++(if(j.toNat:Int)∈mtch s.c s'.c then []else(s.c.drop j.toNat).take 1)=_
     rw[Y,bC3 hm,bI5]
    rw[C]
  ·refine ni (nr (nd (fun u P W A=>?_) trivial))
   rw[isT_self]at W A
   subst W;subst A
   have ej:j.toNat=u.c.length:=by omega
   rw[keepT_eq,ej]
   refine⟨rfl,rfl,rfl,rfl,rfl,?_⟩
   show _=rows (keepL P.c u.c (mtch u.c P.c)++leftF u.c (mtch u.c P.c) u.c.length)
   simp only[rows,bE8]
end Go.D
