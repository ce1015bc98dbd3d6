/- Chapter 36 (rises), lengths, the greatest, comparing: the conditions hold.
  Conditions: none. -/
import Derived.Test.YtcjhhnoaoldcmaaGreatB2
import Derived.Test.YtcjhhnoaoldcmaaGreatB3
set_option linter.unusedVariables false
set_option linter.unusedSimpArgs false
namespace Go.C36
open Go Go.Xe Go.Sx
theorem drop_cons_at {l:List Int}{k:Nat}{x:Int}(h:l[k]? =some x):l.drop k=x::l.drop (k+1):=Sx.drop_at h
theorem vcLen_ok : vcLen := by
 unfold vcLen
 simp only[Nd,Nr,Ni,ln,I64,cI,cS,cB,cL]
 rintro _ ⟨l,rfl,hl⟩
 simp only[lenRel,lensInv,lensMu,seMu,rep_row,bH0,List.length_replicate,bJ2,nums_map,bN1,bK7,bL9,bJ5,bM4,u6,u5,bL4]
 repeat (refine bH9 (by omega) fun _=>?_)
 have    B : ∃ d w : List Int, Sx.part ((List.replicate l.length 0).map row) 0 l.length = d.map row ∧ Sx.part ((List.replicate l.length 0).map row) 0 0 = w.map row ∧ d.length = l.length ∧ d.drop ((l.length : Int) + -1 + 1).toNat = frm (l.drop ((l.length : Int) + -1 + 1).toNat) ∧
   St w (l.drop ((l.length:Int)+ -1+1).toNat)/\(w.length:Int)+((l.length:Int)+ -1)+1<=l.length:=by
  refine⟨List.replicate l.length 0,[],part_row (by simp),by unfold Sx.part;simp,by simp,?_,?_,by simp;omega⟩
  ·rw[bM2 (by simp;omega),bM2 (by omega)];rfl
  ·rw[bM2 (by omega)];exact St.nil
 refine bH9 ⟨by omega,by omega,B⟩ fun _ D i W ⟨i0,i1,d,w,Q,R,t,s,f,S⟩=>?_
 subst Q;subst R
 simp only[bH0,bN1,bK7,bL9,bJ5]
 refine bH9 (fun hi=>?_) fun hi=>?_
 ·have e0:(i+1).toNat=0:=by omega
  rw[e0]at s
  have s:d=frm l:=s
  repeat (refine bH9 (by omega) fun _=>?_)
  rw[s]
 ·obtain⟨x,hx⟩:=Sx.get_at (T:=l) (i:=i) (by omega) (by omega)
  have c:=drop_cons_at hx
  have O:=j8 (k:=i) (by omega)
  rw[O]at s f
  simp only[e9 hx,row0,i5]
  have J:seInv [.lst (w.map row),.lst (l.map row),.int i] [.int 0,.int w.length]:=by
   simp only[seInv,bH0,nums_map]
   exact⟨by omega,by omega,by omega,fun j a b h=>by omega,fun j a b h h1=>by have:=(bF4.1 h1).1;omega⟩
  refine bH9 J fun _ a b g=>?_
  simp only[seInv,bH0,nums_map]at g
  obtain⟨Y,Z,bw,lo,z⟩:=g
  refine bH9 (fun hlt=>?_) fun hlt=>?_
  ·have hm:=half_u (a:=a+b) (by omega)
   rw[hm]
   have V:a<=(a+b)/2:=by omega
   have X:(a+b)/2<b:=by omega
   generalize (a+b)/2=m at V X
   obtain⟨y,hy⟩:=Sx.get_at (T:=w) (i:=m) (by omega) (by omega)
   simp only[e9 hy,row0,i5]
   have H:x<y->seInv [.lst (w.map row),.lst (l.map row),.int i] [.int (m+1),.int b]:=fun h=>by
    simp only[seInv,bH0,nums_map]
    refine⟨by omega,by omega,by omega,fun j u v hj p A=>?_,z⟩
    rw[hx]at A
    cases A
    by_cases e:j=m.toNat
    ·rw[e,hy]at p;cases p;exact h
    ·have:=f.desc j m.toNat u y p hy (by omega);omega
   have I:¬x<y->seInv [.lst (w.map row),.lst (l.map row),.int i] [.int a,.int m]:=fun h=>by
    simp only[seInv,bH0,nums_map]
    refine⟨by omega,by omega,by omega,lo,fun j u v hj p A=>?_⟩
    rw[hx]at A
    cases A
    by_cases e:j=m.toNat
    ·rw[e,hy]at p;cases p;omega
    ·have:=f.desc m.toNat j y u hy p (by omega);omega
   repeat (refine bH9 (by omega) fun _=>?_)
   refine bH9 (fun h=>?_) fun h=>?_
   ·have i1:=H h
    repeat' first
     |exact i1
     | (refine bH9 ?_ ?_)
     |intro _
    all_goals omega
   ·have U:=I h
    repeat' first
     |exact U
     | (refine bH9 ?_ ?_)
     |intro _
    all_goals omega
  ·have g:a=b:=by omega
   subst g
   have hk:a.toNat<=w.length:=by omega
   have L:∀(j:Nat) (y:Int),j<a.toNat->w[j]? =some y->x<y:=fun j y hj hy=>lo j y x (by omega) hy hx
   have M:∀(j:Nat) (y:Int),a.toNat<=j->w[j]? =some y->y<=x:=fun j y hj hy=>z j y x (by omega) hy hx
   have hb:=f.len hk L M
   have hs:=f.step hk L M
   have n:i.toNat<d.length:=by omega
   have P:(i+ -1+1).toNat=i.toNat:=by omega
   have N:Sx.part ((setN d i.toNat (a+1)).map row) 0 d.length=(setN d i.toNat (a+1)).map row:=part_row (by rw[setN_len n])
   have K:(setN d i.toNat (a+1)).drop i.toNat=frm (l.drop i.toNat):=by
    rw[setN_drop (by omega),c,frm_cons,hb,s]
    congr 1;omega
   simp only[over_row,bH0,N,P]
   have sl:((setN d i.toNat (a+1)).length:Int)=d.length:=by rw[setN_len n]
   have q:a=w.length->((setN w a.toNat x).length:Int)=a+1:=fun h=>by rw[show a.toNat=w.length by omega,setN_end];omega
   have r:¬a=w.length->((setN w a.toNat x).length:Int)=w.length:=fun h=>by rw[setN_len (by omega)]
   have C:a=w.length-> ∃o w':List Int,(setN d i.toNat (a+1)).map row=o.map row/\Sx.part ((setN w a.toNat x).map row) 0 (a+1)=w'.map row/\o.length=l.length/\o.drop i.toNat=frm (l.drop i.toNat)/\St w' (l.drop i.toNat)/\(w'.length:Int)+(i+ -1)+1<=l.length:=fun h=>
    ⟨_,_,rfl,part_row (by rw[q h]),by rw[setN_len n];exact t,K,by rw[c];exact hs,by rw[q h];omega⟩
   have E:¬a=w.length-> ∃o w':List Int,(setN d i.toNat (a+1)).map row=o.map row/\Sx.part ((setN w a.toNat x).map row) 0 w.length=w'.map row/\o.length=l.length/\o.drop i.toNat=frm (l.drop i.toNat)/\St w' (l.drop i.toNat)/\(w'.length:Int)+(i+ -1)+1<=l.length:=fun h=>
    ⟨_,_,rfl,part_row (by rw[r h]),by rw[setN_len n];exact t,K,by rw[c];exact hs,by rw[r h];omega⟩
   refine bH9 (fun h=>?_) fun h=>?_
   ·have w1:=q h
    have F:=C h
    repeat' first
     |exact F
     | (refine bH9 ?_ ?_)
     |intro _
    all_goals omega
   ·have w2:=r h
    have G:=E h
    repeat' first
     |exact G
     | (refine bH9 ?_ ?_)
     |intro _
    all_goals omega
theorem vcMax_ok :vcMax:=by
 unfold vcMax
 simp only[Nd,Nr,Ni,ln,I64,cI,cS,cB,cL]
 rintro _ ⟨l,rfl,h1,h2,h3⟩
 simp only[maxRel,mxInv,mxMu,bH0,nums_map,u6,u5,bL4,bM4,bL9,bJ5]
 refine bH9 (fun h=>by omega) fun _=>bH9 (by omega) fun _=>?_
 obtain⟨x,hx⟩:=Sx.get_at (T:=l) (i:=0) (by omega) (by omega)
 have c:0<=x:=h3 x (bG1 hx)
 simp only[e9 hx,row0,i5]
 have b:x=maxL (l.take (1:Int).toNat):=by
  rw[show(1:Int).toNat=(0:Int).toNat+1 by rfl,J0 hx]
  show x=maxL [x]
  unfold maxL maxL;omega
 refine bH9 ⟨by omega,by omega,b⟩ fun _ k m ⟨k0,k1,hm⟩=>bH9 (fun hk=>?_) fun hk=>?_
 ·obtain⟨y,hy⟩:=Sx.get_at (T:=l) (i:=k) (by omega) hk
  have a:0<=y:=h3 y (bG1 hy)
  simp only[e9 hy,row0,i5]
  have e:=j8 (k:=k) (by omega)
  have ht:maxL (l.take (k+1).toNat)=max m y:=by rw[e,J0 hy,maxL_app _ _ a,hm]
  have s1:m<y->y=maxL (l.take (k+1).toNat):=fun h=>by rw[ht];omega
  have s2:¬m<y->m=maxL (l.take (k+1).toNat):=fun h=>by rw[ht];omega
  repeat' first
   |omega
   | (refine bH9 ?_ ?_)
   |intro _
 ·rw[hm,bK0 (by omega)]
end Go.C36
