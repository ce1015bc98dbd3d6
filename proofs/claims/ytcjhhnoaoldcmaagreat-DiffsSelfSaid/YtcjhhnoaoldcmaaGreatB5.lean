/- Chapter 36 (rises), the longest rising subsequence: the conditions hold.
  Conditions: none. -/
import Derived.Test.YtcjhhnoaoldcmaaGreatB4
set_option linter.unusedVariables false
set_option linter.unusedSimpArgs false
namespace Go.C36
open Go Go.Xe Go.Sx
theorem setN_snoc {l:List Int}{x:Int}:setN l l.length x=l++ [x]:=by
 unfold setN
 rw[List.take_length,bM2 (by omega)]
structure Pk (l:List Int)(k n:Int)(o:List Int):Prop where
 k0:0<=k
 k1:k<=l.length
 n0:0<=n
 sum:n+o.length=maxL (frm l)
 rg:∀x∈o,0<=x/\x<k
 eq:o++pickL (l.drop k.toNat) ((frm l).drop k.toNat) k n (lastN l o)=lis l
section
variable {l :List Int}{k n:Int}{o:List Int}
theorem Pk.start :Pk l 0 (maxL (frm l)) []:=⟨by omega,by omega,maxL_nn _,by simp,fun x h=>by simp at h,rfl⟩
variable {x:Int}
theorem lastN_snoc (hx:l[k.toNat]? =some x):lastN l (o++ [k])=some x:=by
 unfold lastN
 rw[List.getLast?_concat];exact hx
theorem Pk.take (h:Pk l k n o)(hx:l[k.toNat]? =some x)(hf:(frm l)[k.toNat]? =some n)(hn:0<n)(hl:∀y,lastN l o=some y->y<x):Pk l (k+1) (n-1) (o++ [k]):=by
 have hlt:=(bF4.1 hx).1
 have h0:=h.k0
 refine⟨by omega,by omega,by omega,?_,fun y hy=>?_,?_⟩
 ·have:=h.sum;rw[bH8];simp;omega
 ·rcases bI8.1 hy with hy|hy
  ·have:=h.rg y hy;omega
  ·simp at hy;omega
 ·have e:=h.eq
  rw[Sx.drop_at hx,Sx.drop_at hf,pickL_cons,bH3 ⟨hn,rfl,hl⟩]at e
  rw[lastN_snoc hx,j8 h0,bG5];exact e
theorem Pk.skip {f:Int}(h:Pk l k n o)(hx:l[k.toNat]? =some x)(hf:(frm l)[k.toNat]? =some f)(hn:¬(0<n/\f=n/\ ∀y,lastN l o=some y->y<x)):Pk l (k+1) n o:=by
 have hlt:=(bF4.1 hx).1
 have h0:=h.k0
 refine⟨by omega,by omega,h.n0,h.sum,fun y hy=>by have:=h.rg y hy;omega,?_⟩
 have e:=h.eq
 rw[Sx.drop_at hx,Sx.drop_at hf,pickL_cons,bH1 hn]at e
 rw[j8 h0];exact e
theorem Pk.done0 (h:Pk l k n o)(hn:¬0<n):o=lis l:=by
 have e:=h.eq
 rw[pickL_zero _ _ _ _ _ hn,bO1]at e;exact e
theorem Pk.done (h:Pk l k n o)(hk:¬k<l.length):o=lis l/\maxL (frm l)=o.length:=by
 have e:=h.eq
 rw[bM2 (l:=l) (by omega),pickL_nil,bO1]at e
 exact⟨e,by rw[<-lis_len,e]⟩
theorem Pk.last (h:Pk l k n o)(a:0<(o.length:Int)):∃j y:Int,o[((o.length:Int)+ -1).toNat]? =some j/\0<=j/\j<k/\l[j.toNat]? =some y/\ ∀z,lastN l o=some z↔z=y:=by
 obtain⟨j,hj⟩:=Sx.get_at (T:=o) (i:=(o.length:Int)+ -1) (by omega) (by omega)
 obtain⟨h1,h2⟩:=h.rg j (bG1 hj)
 have hk:=h.k1
 obtain⟨y,hy⟩:=Sx.get_at (T:=l) (i:=j) h1 (by omega)
 refine⟨j,y,hj,h1,h2,hy,fun z=>?_⟩
 have hl:o.getLast? =some j:=by rw[List.getLast?_eq_getElem?,<-hj];congr 1;omega
 unfold lastN
 rw[hl]
 show l[j.toNat]? =some z↔z=y
 rw[hy]
 constructor
 ·intro e;exact(bH7 e).symm
 ·rintro rfl;rfl
theorem lastN_nil (a:¬0<(o.length:Int)):o=[]:=bF7 (by omega)
theorem pk_of (h:Pk l k n o):pickInv [.lst (l.map row),.lst ((frm l).map row)] [.int k,.int n,.lst (o.map row)]:=by
 simp only[pickInv,nums_map,bH0]
 exact⟨h.k0,h.k1,h.n0,h.sum,o,rfl,h.rg,h.eq⟩
theorem pk_get {O:Sx.Rows}(h:pickInv [.lst (l.map row),.lst ((frm l).map row)] [.int k,.int n,.lst O]):∃o:List Int,O=o.map row/\Pk l k n o:=by
 simp only[pickInv,nums_map,bH0]at h
 obtain⟨h1,h2,h3,h4,o,rfl,a,b⟩:=h
 rw[bH0]at h4
 exact⟨o,rfl,h1,h2,h3,h4,a,b⟩
theorem pk_mu {F:Dat}(hk:k<l.length)(a b:List Dat):pickMu [.lst (l.map row),F] (.int (k+1)::a)<pickMu [.lst (l.map row),F] (.int k::b):=by
 simp only[pickMu,bH0]
 omega
end
theorem maxF_le (l:List Int):maxL (frm l)<=l.length:=maxL_le _ _ (by omega) fun x hx=>by
 obtain⟨m,hm⟩:=bK6.1 hx
 exact(frm_bound l m x hm).2
theorem vcLong_ok :vcLong:=by
 unfold vcLong vcLong0 vcLong1
 simp only[Nd,Nr,Ni,ln,I64,cI,cS,cB,cL]
 rintro _ ⟨l,rfl,hl⟩
 simp only[longRel,lenRel,maxRel,lenPre,onePre,maxPre,forall_eq,rep_row,bH0,List.length_replicate,frm_len,nums_map,bN1,bK7,bL9,bJ5,bM4,u6,u5,bL4]
 have hF:=maxF_le l
 have hM:=maxL_nn (frm l)
 refine bH9 (fun h=>by omega) fun _=>bH9 (fun h=>?_) fun h=>bH9 ⟨l,rfl,hl⟩ fun _=>bH9 ⟨frm l,rfl,by rw[frm_len];omega,by rw[frm_len];omega,fun x hx=>?_⟩ fun _=>?_
 ·have:l=[]:=bF7 (by omega)
  rw[this];rfl
 ·obtain⟨m,hm⟩:=bK6.1 hx
  have:=frm_bound l m x hm;omega
 have hs:Sx.part ((List.replicate (maxL (frm l)).toNat 0).map row) 0 0=([]:List Int).map row:=by unfold Sx.part;simp
 repeat (refine bH9 (by omega) fun _=>?_)
 have h1:pickInv [.lst (l.map row),.lst ((frm l).map row)] [.int 0,.int (maxL (frm l)),.lst (Sx.part ((List.replicate (maxL (frm l)).toNat 0).map row) 0 0)]:=by rw[hs];exact pk_of Pk.start
 refine bH9 h1 fun _ k n O hi=>?_
 obtain⟨o,rfl,a⟩:=pk_get hi
 have t:=a.sum
 have d:=a.k0
 have A:=a.n0
 simp only[bH0,bN1,bK7,bL9,bJ5]
 refine bH9 (fun hk=>?_) fun hk=>?_
 ·obtain⟨x,hx⟩:=Sx.get_at (T:=l) (i:=k) d hk
  obtain⟨f,hf⟩:=Sx.get_at (T:=frm l) (i:=k) d (by rw[frm_len];exact hk)
  have hb:=frm_bound l _ f hf
  have r:Sx.part (Sx.over (o.map row) o.length (chunk 1 1 [.int k])) 0 ((o.length:Int)+1)=(o++ [k]).map row:=by
   rw[over_row,bJ2,setN_snoc,part_row (by rw[bH8];simp)]
  have q:((Sx.over (o.map row) o.length (chunk 1 1 [.int k])).length:Int)=o.length+1:=by
   rw[over_row,bJ2,setN_snoc,bH0,bH8];simp
  simp only[e9 hx,e9 hf,row0,i5,r,q,bL9,bJ5]
  repeat (refine bH9 (by omega) fun _=>?_)
  refine bH9 (fun h0=>?_) fun h0=>?_
  ·repeat (refine bH9 (by omega) fun _=>?_)
   rw[<-a.done0 (by omega)]
  ·repeat (refine bH9 (by omega) fun _=>?_)
   refine bH9 (fun b=>?_) fun b=>?_
   ·subst b
    repeat (refine bH9 (by omega) fun _=>?_)
    refine bH9 (fun g=>?_) fun g=>?_
    ·obtain⟨j,y,v,C,D,w,s⟩:=a.last g
     simp only[e9 v,e9 w,row0,i5,bL9,bJ5]
     repeat (refine bH9 (by omega) fun _=>?_)
     have tk:y<x->pickInv [.lst (l.map row),.lst ((frm l).map row)] [.int (k+1),.int (f+ -1),.lst ((o++ [k]).map row)]:=fun h=>pk_of (a.take hx hf (by omega) fun z hz=>by rw[(s z).1 hz];exact h)
     have e:¬y<x->pickInv [.lst (l.map row),.lst ((frm l).map row)] [.int (k+1),.int f,.lst (o.map row)]:=fun h=>pk_of (a.skip hx hf fun c=>h (c.2.2 y ((s y).2 rfl)))
     refine bH9 (fun hy=>?_) fun hy=>?_
     ·have tk:=tk hy
      repeat' first
       |with_reducible exact tk
       | (with_reducible refine bH9 ?_ ?_)
       |intro _
       |omega
       |with_reducible exact pk_mu hk _ _
     ·have e:=e hy
      repeat' first
       |with_reducible exact e
       | (with_reducible refine bH9 ?_ ?_)
       |intro _
       |omega
       |with_reducible exact pk_mu hk _ _
    ·have p:=lastN_nil g
     have tk:pickInv [.lst (l.map row),.lst ((frm l).map row)] [.int (k+1),.int (f+ -1),.lst ((o++ [k]).map row)]:=pk_of (a.take hx hf (by omega) fun z hz=>by rw[p]at hz;cases hz)
     repeat' first
      |with_reducible exact tk
      | (with_reducible refine bH9 ?_ ?_)
      |intro _
      |omega
      |with_reducible exact pk_mu hk _ _
   ·have e:pickInv [.lst (l.map row),.lst ((frm l).map row)] [.int (k+1),.int n,.lst (o.map row)]:=pk_of (a.skip hx hf fun c=>b c.2.1)
    repeat' first
     |with_reducible exact e
     | (with_reducible refine bH9 ?_ ?_)
     |intro _
     |omega
     |with_reducible exact pk_mu hk _ _
 ·obtain⟨u,B⟩:=a.done hk
  repeat (refine bH9 (by omega) fun _=>?_)
  rw[<-u]
end Go.C36
