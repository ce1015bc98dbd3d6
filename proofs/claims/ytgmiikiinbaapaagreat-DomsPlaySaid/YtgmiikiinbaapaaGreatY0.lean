/- Both DOMs are the same: what the program answers, in the reference's words: plain lemmas.
  Conditions: none. -/
import Derived.Test.YtgmiikiinbaapaaGreatX3
import Derived.Test.YtgmiikiinbaapaaGreatU1
set_option linter.all false
noncomputable section
namespace Go.D
open Go Go.Xe Go.Sx
section
variable {D :DM}{L F S N:Sx.Rows}{fr lv:Int}{bs cs:Ak}{K c:Nat}{s:Sl}{T:List RS}{M:List RN}
mutual
def uF :∀s:c9,Dk true s=s
 | .mk k t y a x c=>by unfold Dk;rw[strips_true c];rfl
def strips_true :∀l:List c9,strips true l=l
 | []=>rfl|s::l=>by unfold strips;rw[uF s,strips_true l]
end
def hL' (L:Sx.Rows)(j:Nat):Ar:=[.int j,.int (cI L j 0)]
def oP (h:Rf D L F bs)(hs:D.L[c]? =some s):cI L c 0=s.g/\cB L c 1=s.used/\(c:Int)<ln L/\D.gen c=s.g:=by
 obtain⟨rfl,_,_⟩:=h;have hc:D.L[((c:Nat):Int).toNat]? =some s:=by rw[Pu];exact hs
 have:=(OG.1 hs).1;simp only[cI,cB,i4 hc,s.r0,s.r1,ln,OV];exact⟨rfl,rfl,by omega,QJ hs⟩
def xR (h:Rf D L F bs)(o:RlC D S N fr lv cs)(w:WF D K)(hs:D.L[c]? =some s)(d:s.used=true):D.at c s.g=some c/\y4 S c s.g=true/\U32 (c:Int)/\U32 (s.g:Int)/\cI N (atF S c s.g) 0=cI L c 2/\cS N (atF S c s.g) 1=cS L c 3/\cL N (atF S c s.g) 2=cL L c 4/\cS N (atF S c s.g) 3=cS L c 5/\cI N (atF S c s.g) 4=cI L c 6/\cI N (atF S c s.g) 5=cI L c 7/\cB N (atF S c s.g) 6=cB L c 8/\cL L c 4=s.n.atts.map Att.row/\cI L c 9=s.n.par/\cL L c 10=s.n.ch.map A3/\cL N (atF S c s.g) 9=s.n.ch.map (hL' L)/\(cI L c 9<0->cI N (atF S c s.g) 7=0/\cI N (atF S c s.g) 8=0)/\(¬cI L c 9<0->cI L c 9<ln L/\cI L c 9<=1000/\cI N (atF S c s.g) 7=cI L c 9/\cI N (atF S c s.g) 8=cI L (cI L c 9) 0):=by
 have b:D.at c s.g=some c:=by have:=DM.at_of hs d;rwa[QJ hs]at this
 obtain⟨s',h1,h2,h3,h4,r,t,v,a⟩:=o.1.spot b;rw[hs]at h1;cases h1;have u:=w.u32 b;have hc:D.L[((c:Nat):Int).toNat]? =some s:=by rw[Pu];exact hs
 have hL:=h.1;have cel:∀j,y9 L c j=s.row.getD j (.int 0):=fun j=>by rw[hL];exact i4 hc j
 have row:s.row=[.int s.g,.bool true,.int s.n.kind,.str s.n.tag,.lst (s.n.atts.map Att.row),.str s.n.text,.int s.n.top,.int s.n.size,.bool s.n.pin,.int s.n.par,.lst (s.n.ch.map A3)]:=by unfold Sl.row;rw[OY d]
 have lim:=w.lim;have f:cI L c 9=s.n.par:=by simp only[cI,cel,row];rfl
 have l:cI N (atF S c s.g) 7=hI s.n.par:=by simp only[cI,a];rfl
 have m:cI N (atF S c s.g) 8=hG' D.gen s.n.par:=by simp only[cI,a];rfl
 refine⟨b,o.1.vld.2 ⟨c,b⟩,u.1,u.2.1,?_,?_,?_,?_,?_,?_,?_,?_,f,?_,?_,fun hn=>?_,fun hn=>?_⟩
 ·simp only[cI,a,cel,row];rfl
 ·simp only[cS,a,cel,row];rfl
 ·simp only[cL,a,cel,row];rfl
 ·simp only[cS,a,cel,row];rfl
 ·simp only[cI,a,cel,row];rfl
 ·simp only[cI,a,cel,row];rfl
 ·simp only[cB,a,cel,row];rfl
 ·simp only[cL,cel,row];rfl
 ·simp only[cL,cel,row];rfl
 ·have:cL N (atF S c s.g) 9=s.n.ch.map (E2 D.gen):=by simp only[cL,a];rfl
  rw[this];refine List.map_congr_left fun j hj=>?_;obtain⟨sj,k1,k2,_⟩:=(w.ch c s hs d).2 j hj;obtain⟨i,_,_,k⟩:=oP h k1;unfold E2 hL';rw[i,k]
 ·rw[l,m];have:s.n.par= -1:=by rcases w.par c s hs d with e| ⟨p,sp,e,_⟩<;>omega
  rw[this];exact⟨rfl,rfl⟩
 ·rw[l,m,f];rw[f]at hn;rcases w.par c s hs d with e| ⟨p,sp,e,k1,k2,k3⟩
  ·omega
  ·obtain⟨i,_,q,k⟩:=oP h k1;have:=(OG.1 k1).1;unfold hI hG';rw[e,OW (by omega),OW (by omega),Pu,i,k];exact⟨q,by omega,rfl,rfl⟩
def Ny (h:RlT D.gen D T M fr lv)(b:Rf D L F bs):∀ {l:Ah} {i:Int},Ch T i l-> ∀f,l.length<=f->waF (T.map RS.row) f i=l.map (hL' L)
 | [],i,h,f,_=>by have h:i=0:=h;subst h;cases f<;>simp[waF]
 |a::l,i,⟨h1,r,h2,h3,h4⟩,f,hf=>by
  obtain⟨f,rfl⟩:∃k,f=k+1:=⟨f-1,by simp at hf;omega⟩
  have e:i-1=(a:Int):=by omega
  have hr:T[((a:Nat):Int).toNat]? =some r:=by rw[Pu];exact h2
  obtain⟨d,k1,k2,_⟩:=h.back h2;unfold waF;rw[OY (by omega),e,show cI (T.map RS.row) a 2=r.nx by simp only[cI];rw[i4 hr];rfl,show cI (T.map RS.row) a 0=r.g by simp only[cI];rw[i4 hr];rfl,Ny h b h4 f (by simp at hf;omega)];rw[PE];congr 1;unfold hL';rw[(oP b k1).1,k2]
def FL (b:Rf D L F bs)(a:RlC D S N fr lv cs)(w:WF D K):waF S 1001 fr=D.free.map (hL' L):=by obtain⟨T,M,rfl,rfl,h⟩:=a.1;have:=h.len;have:=w.lim;have:=h.free.le h.nodup;exact Ny h b h.free 1001 (by omega)
def Nf :∀ {T:List RS} (k:Nat),hdF (T.map RS.row) k=((List.range T.length).filter fun j=>(T.getD j ⟨0,false,0,0⟩).u).map fun j=>[Dat.int ((k+j:Nat):Int),.int (T.getD j ⟨0,false,0,0⟩).g]
 | [],k=>rfl|r::T,k=>by
  rw[PE];unfold hdF;have b:(RS.row r).getD 1 (.int 0)= .bool r.u:=rfl;have e0:(RS.row r).getD 0 (.int 0)= .int r.g:=rfl;have a:=Nf (T:=T) (k+1);rw[Int.natCast_add]at a;have a:hdF (T.map RS.row) ((k:Int)+1)=_:=a;rw[b,e0,a,Pw,List.range_succ_eq_map,List.filter_cons,List.filter_map];have d:∀l:Ah,(l.map fun j=>[Dat.int ((k+1+j:Nat):Int),.int (T.getD j ⟨0,false,0,0⟩).g])=l.map ((fun j=>[Dat.int ((k+j:Nat):Int),.int ((r::T).getD j ⟨0,false,0,0⟩).g])∘Nat.succ):=fun l=>List.map_congr_left fun j _=>by simp only[Function.comp,List.getD_cons_succ];rw[show k+1+j=k+j.succ by omega]
  have e:((fun j=>((r::T).getD j ⟨0,false,0,0⟩).u)∘Nat.succ)=fun j=>(T.getD j ⟨0,false,0,0⟩).u:=by funext j;rfl
  have hr:((r::T).getD 0 ⟨0,false,0,0⟩)=r:=rfl;rw[e,hr,d];cases f:r.u<;>simp[Dat.toBool,f,List.map_map]
def Kz (a:Rf D L F bs)(f:RlC D S N fr lv cs)(w:WF D K):(hdF S 0).filter (roB S N)=(gT L L.length).map (hL' L):=by
 obtain⟨T,M,rfl,rfl,h⟩:=f.1;have t:T.length=L.length:=by rw[h.len,a.1,OV]
 have:=Nf (T:=T) 0;rw[show hdF (T.map RS.row) 0=_ from this,List.filter_map,List.filter_filter,t];unfold gT;have d:∀j∈List.range L.length,((fun r=>roB (T.map RS.row) (M.map RN.row) r)∘fun j:Nat=>[Dat.int ((0+j:Nat):Int),.int (T.getD j ⟨0,false,0,0⟩).g]) j=true/\(T.getD j ⟨0,false,0,0⟩).u=true↔(cB L j 1&&decide (cI L j 9<0))=true:=fun j hj=>by
  have hj:=List.mem_range.1 hj;rw[a.1,OV]at hj;have hs:D.L[j]? =some D.L[j]:=OO hj;obtain⟨r,h1,h2,h3,_⟩:=h.row j _ hs;have b:T.getD j ⟨0,false,0,0⟩=r:=by rw[Pi,h1];rfl
  obtain⟨B,v,C,E⟩:=oP a hs;show roB (T.map RS.row) (M.map RN.row) [Dat.int ((0+j:Nat):Int),.int (T.getD j ⟨0,false,0,0⟩).g]=true/\(T.getD j ⟨0,false,0,0⟩).u=true↔_;rw[b,v,h3];cases k:(D.L[j]).used with
  |false=>simp|true=>
   obtain⟨_,_,_,_,_,_,_,_,_,_,_,_,l,_,_,m,n⟩:=xR a f w hs k;have e:roB (T.map RS.row) (M.map RN.row) [Dat.int ((0+j:Nat):Int),.int r.g]=(decide (cI (M.map RN.row) (atF (T.map RS.row) j (D.L[j]).g) 7=0)&&decide (cI (M.map RN.row) (atF (T.map RS.row) j (D.L[j]).g) 8=0)):=by unfold roB;rw[show(0+j)=j by omega,h2];rfl
   rw[e];simp only[Bool.true_and,OX,OE,Qc];constructor
   ·rintro ⟨G,H⟩;apply Classical.byContradiction;intro hn;obtain⟨x,y,z,o⟩:=n hn;rcases w.par j _ hs k with e'| ⟨p,sp,e',k1,k2,k3⟩
    ·omega
    ·have A:=w.gen sp (ON k1);have:=(oP a k1).1;rw[l,e']at o;omega
   ·exact fun hn=>m hn
 have q:(List.range L.length).filter (fun j=>((fun r=>roB (T.map RS.row) (M.map RN.row) r)∘fun j:Nat=>[Dat.int ((0+j:Nat):Int),.int (T.getD j ⟨0,false,0,0⟩).g]) j&&(T.getD j ⟨0,false,0,0⟩).u)=(List.range L.length).filter fun i:Nat=>cB L i 1&&decide (cI L i 9<0):=by refine List.filter_congr fun j hj=>?_;rw[Bool.eq_iff_iff,OE];exact d j hj
 rw[q];refine List.map_congr_left fun j hj=>?_;have hj:=List.mem_range.1 (List.mem_filter.1 hj).1;rw[a.1,OV]at hj;have hs:D.L[j]? =some D.L[j]:=OO hj;obtain⟨r,h1,h2,h3,_⟩:=h.row j _ hs;have b:T.getD j ⟨0,false,0,0⟩=r:=by rw[Pi,h1];rfl
 unfold hL';rw[b,(oP a hs).1,h2,show(0+j)=j by omega]
end
end Go.D
