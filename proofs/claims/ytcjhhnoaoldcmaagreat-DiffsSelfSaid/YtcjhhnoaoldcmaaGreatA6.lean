/- Trees: the condition of copied holds.
  Conditions: none. -/
import Derived.Test.YtcjhhnoaoldcmaaGreatA5
set_option linter.unusedVariables false
set_option linter.unusedSimpArgs false
namespace Go.D
open Go Go.Xe Go.Sx
theorem set6 {L : Sx.Rows} {i : Int} {a b c d e f : Dat} (h0 : 0 ≤ i) (h : i < (L.length : Int)) (hr : ∀ r ∈ L, r.length = 6) :
  setAt (setAt (setAt (setAt (setAt (setAt L i 0 a) i 1 b) i 2 c) i 3 d) i 4 e) i 5 f=L.set i.toNat [a,b,c,d,e,f]:=by
 obtain⟨r,g⟩:=Sx.get_at h0 h
 have k:=hr r (bG1 g)
 match r,k with
 | [_,_,_,_,_,_],_=>
  refine List.ext_getElem? fun j=>?_
  simp only[setAt,List.getElem?_modify,List.getElem?_set]
  by_cases e:i.toNat=j
  ·subst e;simp[g];omega
  ·simp[e]
theorem take_set {α:Type}{L:List α}{i:Int}{a:α}(h0:0<=i)(h:i<(L.length:Int)):(L.set i.toNat a).take (i+1).toNat=L.take i.toNat++ [a]:=by
 rw[take_step h0 (a:=a) (by rw[List.getElem?_set_self (by omega)]),List.take_set_of_le (bH4 _)]
theorem strips_app (b:Bool)(l m:List Tree):strips b (l++m)=strips b l++strips b m:=by
 induction l with
 |nil=>simp[strips]
 |cons a l c=>simp[strips,c]
theorem row_len (c:Tree):c.row.length=6:=by rw[row_def];rfl
theorem szRs_mem :∀ {l:List Tree} {k:Nat} {c:Tree},l[k]? =some c->szRs (rows c.c)<szRs (rows l)
 | [],k,c,h=>by simp at h
 |a::l,0,c,h=>by
  cases h
  show _<szR a.row+1+szRs (rows l)
  rw[row_def];simp only[szR,szD];omega
 |a::l,k+1,c,h=>by
  have:=szRs_mem (l:=l) (k:=k) (by simpa using h)
  show _<szR a.row+1+szRs (rows l)
  omega
theorem isT_row {s:Tree}{k:Int}{t y x:Str}{a c:Sx.Rows}(h:isT s k t y a x c): [Dat.int k,.str t,.str y,.lst a,.str x,.lst c]=s.row:=by
 obtain⟨rfl,rfl,rfl,rfl,rfl,rfl⟩:=h;exact(row_def s).symm
theorem cpd_body (n:Nat)(s:Tree)(b:Bool)(f:AllA s)(hn:szRs (rows s.c)<n+1)(k:Int)(D:Sx.Rows)(hi:cpiInv [.lst (rows s.c),.bool b] [.int k,.lst D])(hk:k<((rows s.c).length:Int)):vcCpd0 n k (rows s.c) b D:=by
 obtain⟨k0,k1,k2,k3⟩:=hi
 obtain⟨k3,j⟩:=k3 s.c rfl
 rw[bH0]at k1 k2 hk
 obtain⟨c,hc⟩:=Sx.get_at k0 hk
 have f:=(AllA_iff s).1 f
 have i:=(alone_c f.1).1
 have g:=AllAs_mem f.2 hc
 have d:=szRs_mem hc
 have d:szRs (rows c.c)<n:=by omega
 unfold vcCpd0
 simp only[Nd,Nr,Ni,ln,I64,cI,cS,cB,cL,cell_rows hc,t0,t1,t2,t3,t4,t5,i5,j7,I7,bH0,cpdPre,cpdMu,cpdRel,cpiMu,slMu,isT_self,forall_eq,exists_eq_left,bL9,bJ5,bL4,bM4,k2]
 refine⟨by omega,fun _=>⟨hk,fun _=>⟨⟨g,d⟩,fun _ k' t y a x c' l=>?_⟩⟩⟩
 refine⟨by omega,fun _=>⟨by omega,fun _=>⟨by omega,fun _=>⟨⟨by omega,by omega⟩,fun _=>⟨by omega,fun _=>?_⟩⟩⟩⟩⟩
 refine⟨by omega,fun _=>⟨?_,fun _=>by omega⟩⟩
 rw[set6 k0 (by omega) j,isT_row l]
 refine⟨by omega,by rw[bH0];omega,by rw[List.length_set,bH0];omega,fun m e=>?_⟩
 rw[<-rows_eq.mp e,take_set k0 (by omega),take_step k0 hc,strips_app,k3]
 refine⟨by simp[rows,strips],fun r hr=>?_⟩
 rcases List.mem_or_eq_of_mem_set hr with h|rfl
 ·exact j r h
 ·exact row_len _
theorem vcCpd_ok (n:Nat):vcCpd n:=by
 unfold vcCpd
 rintro _ _ _ _ _ _ b ⟨⟨s,⟨rfl,rfl,rfl,rfl,rfl,rfl⟩,g⟩,hn⟩
 have B:=cpd_body n s b g hn
 have f:=(AllA_iff s).1 g
 obtain⟨o,q⟩:=alone_c f.1
 have S:cpiInv [.lst (rows s.c),.bool b] [.int 0,.lst (Sx.part (List.replicate ((ln (rows s.c))).toNat [(.int (0)),(.str ([]:List UInt8)),(.str ([]:List UInt8)),(.lst ([]:Sx.Rows)),(.str ([]:List UInt8)),(.lst ([]:Sx.Rows))]:Sx.Rows) 0 (ln (rows s.c)))]:=by
  refine⟨by omega,by omega,by simp[Sx.part],fun c e=>⟨by simp[strips],fun r hr=>?_⟩⟩
  simp only[Sx.part,bP7,bO7]at hr
  rw[(List.mem_replicate.1 (bN7 hr)).2];rfl
 have F:∀k D d,cpiInv [.lst (rows s.c),.bool b] [.int k,.lst D]-> ¬k<ln (rows s.c)->d=s.a.map Att.row->cpdRel [.int s.k,.str s.t,.str s.y,.lst (s.a.map Att.row),.str s.x,.lst (rows s.c),.bool b] [.int s.k,.str s.t,.str (if b then s.y else []),.lst d,.str s.x,.lst D]:=by
  intro k D d ⟨k0,k1,k2,k3⟩ hk e
  obtain⟨k3,_⟩:=k3 s.c rfl
  unfold ln at hk
  rw[take_full (by omega),take_full (by rw[bH0]at hk;omega)]at k3
  intro s' h
  rw[isT_self]at h
  subst h;subst e;subst k3
  cases s'
  simp only[strip]
  exact⟨rfl,rfl,rfl,rfl,rfl,rfl⟩
 have i:Sx.chunk 2 0 []++s.a.map Att.row=s.a.map Att.row:=rfl
 have j:Sx.part (Sx.over (Sx.chunk 2 0 []) 0 (s.a.map Att.row)) 0 (ln (s.a.map Att.row))=s.a.map Att.row:=by simp[Sx.part,Sx.over,Sx.chunk,ln,<-List.map_take]
 have l:ln (Sx.over (Sx.chunk 2 0 []) 0 (s.a.map Att.row))=ln (s.a.map Att.row):=by simp[Sx.over,Sx.chunk,ln]
 have m:ln (s.a.map Att.row)=0->([]:Sx.Rows)=s.a.map Att.row:=fun h=>by
  have:s.a=[]:=by simpa [ln]using h
  rw[this];rfl
 have u:ln (rows s.c)<=16:=by simp[ln];omega
 have v:ln (s.a.map Att.row)<=8:=by simp[ln];omega
 have w:0<=ln (rows s.c):=by simp[ln]
 have z:0<=ln (s.a.map Att.row):=by simp[ln]
 have p:ln (List.replicate (ln (rows s.c)).toNat [(.int (0)),(.str ([]:List UInt8)),(.str ([]:List UInt8)),(.lst ([]:Sx.Rows)),(.str ([]:List UInt8)),(.lst ([]:Sx.Rows))]:Sx.Rows)=ln (rows s.c):=by simp[ln]
 simp only[i,j,l,p]
 cases b
 all_goals
  simp only[bM3,bO2,bO3]at F
  simp only[Nd,Nr,Ni,false_implies,bJ5,bL9,bK7,bM3,not_true_eq_false,bM4]
  repeat' with_reducible first|exact trivial|exact S|exact B _ _ ‹_› ‹_› |exact F _ _ _ ‹_› ‹_› rfl|exact F _ _ _ ‹_› ‹_› (m ‹_›)|omega| (refine bH9 ?_ ?_)|intro _
end Go.D
