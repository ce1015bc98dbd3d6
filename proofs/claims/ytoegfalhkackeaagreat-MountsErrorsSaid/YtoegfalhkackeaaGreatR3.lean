/- The reference's DOM: the conditions of At, Copy, place, put, without, Find, insert hold.
  Conditions: none. -/
import Derived.Test.YtoegfalhkackeaaGreatR1
set_option maxRecDepth 100000
set_option linter.all false
noncomputable section
namespace Go.D
open Go Go.Xe Go.Sx
section
variable {l :Ah}{c:Nat}{k a:Int}{O:Sx.Rows}
end
section
variable {l :List Att}{k:Int}{n v:Str}{O:Sx.Rows}{p:Bool}
end
open Go Go.Xe Go.Sx
section
variable {D :DM}{L F L' F':Sx.Rows}{i g x y:Int}{K c p k:Nat}{cs cs':Ak}{s:Sl}{q q':Nod->Nod}{c0 c1 c2 c3 c4 c5 c6 c7:Int}
def Sl.r0 (s:Sl):s.row.getD 0 (.int 0)= .int s.g:=by unfold Sl.row;split<;>rfl
theorem Sl.r1 (s:Sl):s.row.getD 1 (.int 0)= .bool s.used:=by unfold Sl.row;split<;>simp_all
def Rf.vld (h:Rf D L F cs):G6 L i g=true↔ ∃c,D.at i g=some c:=by
 obtain⟨rfl,_,_⟩:=h;unfold G6 DM.at;by_cases h0:0<=i
 ·rw[Rh h0];cases hs:D.L[i.toNat]? with
  |none=>have:=List.getElem?_eq_none_iff.1 hs;simp;omega|some s=>
   have hi:i<(D.L.length:Int):=by have:=(QL.1 hs).1;omega
   rw[l6 hs,l6 hs,s.r0,s.r1];simp[h0,hi,Dat.toBool,Dat.toInt];exact fun _=>decide_eq_true_iff
 simp[h0]
def Rf.len (h:Rf D L F cs)(w:WF D K):L.length<=1000:=by rw[h.1,Rc];have:=w.lim;omega
def Rf.cells (h:Rf D L F cs)(hs:D.L[c]? =some s)(a:s.used=true):(c:Int)<ln L/\cI L c 2=s.n.kind/\cL L c 4=s.n.atts.map Att.row/\cI L c 9=s.n.par/\cL L c 10=s.n.ch.map rowI:=by
 obtain⟨rfl,_,_⟩:=h;have hc:D.L[((c:Nat):Int).toNat]? =some s:=by rw[RA];exact hs
 have:=(QL.1 hs).1;simp only[cI,cL,l6 hc,ln,Rc];unfold Sl.row;rw[Rh a];exact⟨by omega,rfl,rfl,rfl,rfl⟩
def Rf.spot (h:Rf D L F cs)(hv:G6 L i g=true):∃(c:Nat) (s:Sl),D.at i g=some c/\i=c/\D.L[c]? =some s/\s.used=true/\D.nod c=s.n/\0<=i/\i<ln L/\cI L i 2=s.n.kind/\cL L i 4=s.n.atts.map Att.row/\cI L i 9=s.n.par/\cL L i 10=s.n.ch.map rowI:=by obtain⟨c,hc⟩:=h.vld.1 hv;obtain⟨s,h1,h2,rfl,_⟩:=Th hc;obtain⟨k1,k2,k3,a,b⟩:=h.cells h1 h2;exact⟨c,s,hc,rfl,h1,h2,Tj h1,by omega,k1,k2,k3,a,b⟩
def Rf.none (h:Rf D L F cs)(hv:¬G6 L i g=true):D.at i g=none:=by
 cases e:D.at i g with
 |none=>rfl|some k=>exact absurd (h.vld.2 ⟨k,e⟩) hv
end
section
variable {D :DM}{L F L' F':Sx.Rows}{i g x y:Int}{K a c d p k:Nat}{cs cs':Ak}{s:Sl}{c0 c1 c2 c3 c4 c5 c6 c7:Int}
def Rf.opt (h:Rf D L F cs)(w:WF D K):(G6 L x y=true->D.opt x y=some x)/\(x=0->y=0->D.opt x y=some (-1))/\(¬G6 L x y=true-> ¬(x=0/\y=0)->D.opt x y=Option.none):=by unfold DM.opt;refine⟨fun hv=>?_,fun b e=>by rw[Rh ⟨b,e⟩],fun hv hn=>by rw[Re hn,h.none hv]⟩;obtain⟨c,s,h1,h2,_⟩:=h.spot hv;have:=(w.u32 h1).2.2;rw[Re (by omega),h1,h2]
end
section
variable {D :DM}{L F L' F':Sx.Rows}{i g k:Int}{K c:Nat}{cs cs':Ak}{c0 c1 c2 c3 c4 c5 c6 c7:Int}{t x s:Str}
end
section
variable {l t d:List Att}{e:Ed}{a:Att}{n v:Str}
end
section
variable {D :DM}{L F:Sx.Rows}{i g:Int}{K:Nat}{cs:Ak}
end
open Go Go.Xe Go.Sx
open Go Go.Xe Go.Sx
section
variable {D :DM}{L F:Sx.Rows}{K c b:Nat}{s:Sl}
end
section
variable {L F L' F' H S N S' N':Sx.Rows}{fr lv fr' lv' e e' i g r i' g' r' k:Int}{bs bs' cs cs':Ak}{K:Nat}{t x:Str}
def BI.op (h:∃K,K+1<=1000/\BI K L F bs H S fr lv cs N):Dc S N fr lv cs/\rfPre L F bs/\HOK H/\H.length<=1000:=by obtain⟨K,b,D,h1,h2,h3,h4,a⟩:=h;exact⟨⟨D,K,h2,h3⟩,⟨D,K,h1,h3⟩,h4,by omega⟩
end