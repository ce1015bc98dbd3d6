/- Trees: a copy whose list of children is its own: the condition holds.
  Conditions: none. -/
import Derived.Test.YtcjhhnoaoldcmaaGreatG7
import Derived.Test.YtcjhhnoaoldcmaaGreatA6
set_option linter.unusedVariables false
set_option linter.unusedSimpArgs false
namespace Go.D
open Go Go.Xe Go.Sx
theorem cpo_body (s:Tree)(b:Bool)(hA:AllA s)(k:Int)(D:Sx.Rows)(hi:cpiInv [.lst (rows s.c),.bool b] [.int k,.lst D])(hk:k<((rows s.c).length:Int)):vcCpo0 k (rows s.c) b D:=by
 obtain⟨k0,k1,k2,k3⟩:=hi
 obtain⟨k3,k4⟩:=k3 s.c rfl
 rw[bJ8]at k1 k2 hk
 obtain⟨c,hc⟩:=Sx.get_at k0 hk
 have hA:=(AllA_iff s).1 hA
 have hc16:=(alone_c hA.1).1
 have hcA:=AllAs_mem hA.2 hc
 unfold vcCpo0
 simp only[Nd,Nr,Ni,ln,I64,cI,cS,cB,cL,cell_rows hc,t0,t1,t2,t3,t4,t5,f9,p9,I8,bJ8,cpdPre,cpdMu,cpdRel,cpiMu,slMu,isT_self,forall_eq,exists_eq_left,bO7,bM3,bO2,bP2,k2]
 refine⟨by omega,fun _=>⟨hk,fun _=>⟨hcA,fun _ k' t y a x c' hT=>?_⟩⟩⟩
 refine⟨by omega,fun _=>⟨by omega,fun _=>⟨by omega,fun _=>⟨⟨by omega,by omega⟩,fun _=>⟨by omega,fun _=>?_⟩⟩⟩⟩⟩
 refine⟨by omega,fun _=>⟨?_,fun _=>by omega⟩⟩
 rw[set6 k0 (by omega) k4,isT_row hT]
 refine⟨by omega,by rw[bJ8];omega,by rw[List.length_set,bJ8];omega,fun c2 e=>?_⟩
 rw[<-rows_eq.mp e,take_set k0 (by omega),take_step k0 hc,strips_app,k3]
 refine⟨by simp[rows,strips],fun r hr=>?_⟩
 rcases List.mem_or_eq_of_mem_set hr with h|rfl
 ·exact k4 r h
 ·exact row_len _
theorem vcCpo_ok :vcCpo:=by
 unfold vcCpo
 rintro _ _ _ _ _ _ b ⟨s,⟨rfl,rfl,rfl,rfl,rfl,rfl⟩,hA⟩
 have B:=cpo_body s b hA
 have hA1:=(AllA_iff s).1 hA
 obtain⟨h16,h8⟩:=alone_c hA1.1
 have S:cpiInv [.lst (rows s.c),.bool b] [.int 0,.lst (Sx.part (List.replicate ((ln (rows s.c))).toNat [(.int (0)),(.str ([]:List UInt8)),(.str ([]:List UInt8)),(.lst ([]:Sx.Rows)),(.str ([]:List UInt8)),(.lst ([]:Sx.Rows))]:Sx.Rows) 0 (ln (rows s.c)))]:=by
  refine⟨by omega,by omega,by simp[Sx.part],fun c e=>⟨by simp[strips],fun r hr=>?_⟩⟩
  simp only[Sx.part,bS4,bR5]at hr
  rw[(List.mem_replicate.1 (bQ5 hr)).2];rfl
 have F:∀k D A',cpiInv [.lst (rows s.c),.bool b] [.int k,.lst D]-> ¬k<ln (rows s.c)->A'=s.a.map Att.row->cpoRel [.int s.k,.str s.t,.str s.y,.lst (s.a.map Att.row),.str s.x,.lst (rows s.c),.bool b] [.int s.k,.str s.t,.str (if b then s.y else []),.lst A',.str s.x,.lst D]:=by
  intro k D A' ⟨k0,k1,k2,k3⟩ hk e
  obtain⟨k3,_⟩:=k3 s.c rfl
  unfold ln at hk
  rw[take_full (by omega),take_full (by rw[bJ8]at hk;omega)]at k3
  intro s' h
  rw[isT_self]at h
  subst h;subst e;subst k3
  cases s'
  simp only[strip]
  exact⟨rfl,rfl,rfl,rfl,rfl,rfl⟩
 have e1:Sx.chunk 2 0 []++s.a.map Att.row=s.a.map Att.row:=rfl
 have e2:Sx.part (Sx.over (Sx.chunk 2 0 []) 0 (s.a.map Att.row)) 0 (ln (s.a.map Att.row))=s.a.map Att.row:=by simp[Sx.part,Sx.over,Sx.chunk,ln,<-List.map_take]
 have e3:ln (Sx.over (Sx.chunk 2 0 []) 0 (s.a.map Att.row))=ln (s.a.map Att.row):=by simp[Sx.over,Sx.chunk,ln]
 have e4:ln (s.a.map Att.row)=0->([]:Sx.Rows)=s.a.map Att.row:=fun h=>by
  have:s.a=[]:=by simpa [ln]using h
  rw[this];rfl
 have l1:ln (rows s.c)<=16:=by simp[ln];omega
 have l2:ln (s.a.map Att.row)<=8:=by simp[ln];omega
 have l3:0<=ln (rows s.c):=by simp[ln]
 have l4:0<=ln (s.a.map Att.row):=by simp[ln]
 have l5:ln (List.replicate (ln (rows s.c)).toNat [(.int (0)),(.str ([]:List UInt8)),(.str ([]:List UInt8)),(.lst ([]:Sx.Rows)),(.str ([]:List UInt8)),(.lst ([]:Sx.Rows))]:Sx.Rows)=ln (rows s.c):=by simp[ln]
 simp only[e1,e2,e3,l5]
 have Z:∀k D,cpiInv [.lst (rows s.c),.bool b] [.int k,.lst D]->ln (rows s.c)=ln D:=fun k D h=>by have:=h.2.2.1;simp only[ln];omega
 have Y:∀k D,cpiInv [.lst (rows s.c),.bool b] [.int k,.lst D]->ln D<67108865:=fun k D h=>by have:=Z k D h;omega
 cases b
 all_goals
  simp only[bP1,bR0,bR1]at F
  simp only[Nd,Nr,Ni,false_implies,bM3,bO7,bN5,bP1,not_true_eq_false,bP2]
  repeat' with_reducible first|exact trivial|exact S|exact B _ _ ‹_› ‹_› |exact Z _ _ ‹_› |exact Y _ _ ‹_› |exact F _ _ _ ‹_› ‹_› rfl|exact F _ _ _ ‹_› ‹_› (e4 ‹_›)|omega| (refine bK7 ?_ ?_)|intro _
end Go.D
