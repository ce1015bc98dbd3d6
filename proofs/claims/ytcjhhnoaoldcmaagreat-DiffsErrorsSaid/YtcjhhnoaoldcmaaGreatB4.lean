/- Chapter 36 (rises), lengths, the greatest, comparing: the conditions hold.
  Conditions: none. -/
import Derived.Test.YtcjhhnoaoldcmaaGreatB2
import Derived.Test.YtcjhhnoaoldcmaaGreatB3
set_option linter.unusedVariables false
set_option linter.unusedSimpArgs false
namespace Go.C36
open Go Go.Xe Go.Sx
theorem drop_cons_at {l:List Int}{k:Nat}{x:Int}(h:l[k]? =some x):l.drop k=x::l.drop (k+1):=Sx.drop_at h
theorem vcLen_ok : vcLen := by
 unfold vcLen
 simp only[Nd,Nr,Ni,ln,I64,cI,cS,cB,cL]
 rintro _ ⟨l,rfl,hl⟩
 simp only[lenRel,lensInv,lensMu,seMu,rep_row,bJ8,List.length_replicate,bM0,nums_map,bP9,bN5,bO7,bM3,bP2,A3,A0,bO2]
 repeat (refine bK7 (by omega) fun _=>?_)
 have inv0 : ∃ d w : List Int, Sx.part ((List.replicate l.length 0).map row) 0 l.length = d.map row ∧ Sx.part ((List.replicate l.length 0).map row) 0 0 = w.map row ∧ d.length = l.length ∧ d.drop ((l.length : Int) + -1 + 1).toNat = frm (l.drop ((l.length : Int) + -1 + 1).toNat) ∧
   St w (l.drop ((l.length:Int)+ -1+1).toNat)/\(w.length:Int)+((l.length:Int)+ -1)+1<=l.length:=by
  refine⟨List.replicate l.length 0,[],part_row (by simp),by unfold Sx.part;simp,by simp,?_,?_,by simp;omega⟩
  ·rw[bP0 (by simp;omega),bP0 (by omega)];rfl
  ·rw[bP0 (by omega)];exact St.nil
 refine bK7 ⟨by omega,by omega,inv0⟩ fun _ D i W ⟨i0,i1,d,w,hD,hW,hdl,hd,hst,hwl⟩=>?_
 subst hD;subst hW
 simp only[bJ8,bP9,bN5,bO7,bM3]
 refine bK7 (fun hi=>?_) fun hi=>?_
 ·have e0:(i+1).toNat=0:=by omega
  rw[e0]at hd
  have hd:d=frm l:=hd
  repeat (refine bK7 (by omega) fun _=>?_)
  rw[hd]
 ·obtain⟨x,hx⟩:=Sx.get_at (T:=l) (i:=i) (by omega) (by omega)
  have hdrop:=drop_cons_at hx
  have e1:=z7 (k:=i) (by omega)
  rw[e1]at hd hst
  simp only[i7 hx,row0,f9]
  have se0:seInv [.lst (w.map row),.lst (l.map row),.int i] [.int 0,.int w.length]:=by
   simp only[seInv,bJ8,nums_map]
   exact⟨by omega,by omega,by omega,fun j a b h=>by omega,fun j a b h h1=>by have:=(bI2.1 h1).1;omega⟩
  refine bK7 se0 fun _ a b hab=>?_
  simp only[seInv,bJ8,nums_map]at hab
  obtain⟨a0,ab,bw,lo,hi'⟩:=hab
  refine bK7 (fun hlt=>?_) fun hlt=>?_
  ·have hm:=half_u (a:=a+b) (by omega)
   rw[hm]
   have m1:a<=(a+b)/2:=by omega
   have m2:(a+b)/2<b:=by omega
   generalize (a+b)/2=m at m1 m2
   obtain⟨y,hy⟩:=Sx.get_at (T:=w) (i:=m) (by omega) (by omega)
   simp only[i7 hy,row0,f9]
   have in1:x<y->seInv [.lst (w.map row),.lst (l.map row),.int i] [.int (m+1),.int b]:=fun h=>by
    simp only[seInv,bJ8,nums_map]
    refine⟨by omega,by omega,by omega,fun j u v hj hu hv=>?_,hi'⟩
    rw[hx]at hv
    cases hv
    by_cases e:j=m.toNat
    ·rw[e,hy]at hu;cases hu;exact h
    ·have:=hst.desc j m.toNat u y hu hy (by omega);omega
   have in2:¬x<y->seInv [.lst (w.map row),.lst (l.map row),.int i] [.int a,.int m]:=fun h=>by
    simp only[seInv,bJ8,nums_map]
    refine⟨by omega,by omega,by omega,lo,fun j u v hj hu hv=>?_⟩
    rw[hx]at hv
    cases hv
    by_cases e:j=m.toNat
    ·rw[e,hy]at hu;cases hu;omega
    ·have:=hst.desc m.toNat j y u hy hu (by omega);omega
   repeat (refine bK7 (by omega) fun _=>?_)
   refine bK7 (fun h=>?_) fun h=>?_
   ·have i1:=in1 h
    repeat' first
     |exact i1
     | (refine bK7 ?_ ?_)
     |intro _
    all_goals omega
   ·have i2:=in2 h
    repeat' first
     |exact i2
     | (refine bK7 ?_ ?_)
     |intro _
    all_goals omega
  ·have hab:a=b:=by omega
   subst hab
   have hk:a.toNat<=w.length:=by omega
   have g1:∀(j:Nat) (y:Int),j<a.toNat->w[j]? =some y->x<y:=fun j y hj hy=>lo j y x (by omega) hy hx
   have g2:∀(j:Nat) (y:Int),a.toNat<=j->w[j]? =some y->y<=x:=fun j y hj hy=>hi' j y x (by omega) hy hx
   have hb:=hst.len hk g1 g2
   have hs:=hst.step hk g1 g2
   have hil:i.toNat<d.length:=by omega
   have ei:(i+ -1+1).toNat=i.toNat:=by omega
   have D1:Sx.part ((setN d i.toNat (a+1)).map row) 0 d.length=(setN d i.toNat (a+1)).map row:=part_row (by rw[setN_len hil])
   have D2:(setN d i.toNat (a+1)).drop i.toNat=frm (l.drop i.toNat):=by
    rw[setN_drop (by omega),hdrop,frm_cons,hb,hd]
    congr 1;omega
   simp only[over_row,bJ8,D1,ei]
   have sl:((setN d i.toNat (a+1)).length:Int)=d.length:=by rw[setN_len hil]
   have wl1:a=w.length->((setN w a.toNat x).length:Int)=a+1:=fun h=>by rw[show a.toNat=w.length by omega,setN_end];omega
   have wl2:¬a=w.length->((setN w a.toNat x).length:Int)=w.length:=fun h=>by rw[setN_len (by omega)]
   have inv1:a=w.length-> ∃d' w':List Int,(setN d i.toNat (a+1)).map row=d'.map row/\Sx.part ((setN w a.toNat x).map row) 0 (a+1)=w'.map row/\d'.length=l.length/\d'.drop i.toNat=frm (l.drop i.toNat)/\St w' (l.drop i.toNat)/\(w'.length:Int)+(i+ -1)+1<=l.length:=fun h=>
    ⟨_,_,rfl,part_row (by rw[wl1 h]),by rw[setN_len hil];exact hdl,D2,by rw[hdrop];exact hs,by rw[wl1 h];omega⟩
   have inv2:¬a=w.length-> ∃d' w':List Int,(setN d i.toNat (a+1)).map row=d'.map row/\Sx.part ((setN w a.toNat x).map row) 0 w.length=w'.map row/\d'.length=l.length/\d'.drop i.toNat=frm (l.drop i.toNat)/\St w' (l.drop i.toNat)/\(w'.length:Int)+(i+ -1)+1<=l.length:=fun h=>
    ⟨_,_,rfl,part_row (by rw[wl2 h]),by rw[setN_len hil];exact hdl,D2,by rw[hdrop];exact hs,by rw[wl2 h];omega⟩
   refine bK7 (fun h=>?_) fun h=>?_
   ·have w1:=wl1 h
    have i1':=inv1 h
    repeat' first
     |exact i1'
     | (refine bK7 ?_ ?_)
     |intro _
    all_goals omega
   ·have w2:=wl2 h
    have i2':=inv2 h
    repeat' first
     |exact i2'
     | (refine bK7 ?_ ?_)
     |intro _
    all_goals omega
theorem vcMax_ok :vcMax:=by
 unfold vcMax
 simp only[Nd,Nr,Ni,ln,I64,cI,cS,cB,cL]
 rintro _ ⟨l,rfl,h1,h2,h3⟩
 simp only[maxRel,mxInv,mxMu,bJ8,nums_map,A3,A0,bO2,bP2,bO7,bM3]
 refine bK7 (fun h=>by omega) fun _=>bK7 (by omega) fun _=>?_
 obtain⟨x,hx⟩:=Sx.get_at (T:=l) (i:=0) (by omega) (by omega)
 have hx0:0<=x:=h3 x (bI9 hx)
 simp only[i7 hx,row0,f9]
 have st0:x=maxL (l.take (1:Int).toNat):=by
  rw[show(1:Int).toNat=(0:Int).toNat+1 by rfl,M0 hx]
  show x=maxL [x]
  unfold maxL maxL;omega
 refine bK7 ⟨by omega,by omega,st0⟩ fun _ k m ⟨k0,k1,hm⟩=>bK7 (fun hk=>?_) fun hk=>?_
 ·obtain⟨y,hy⟩:=Sx.get_at (T:=l) (i:=k) (by omega) hk
  have hy0:0<=y:=h3 y (bI9 hy)
  simp only[i7 hy,row0,f9]
  have e:=z7 (k:=k) (by omega)
  have ht:maxL (l.take (k+1).toNat)=max m y:=by rw[e,M0 hy,maxL_app _ _ hy0,hm]
  have s1:m<y->y=maxL (l.take (k+1).toNat):=fun h=>by rw[ht];omega
  have s2:¬m<y->m=maxL (l.take (k+1).toNat):=fun h=>by rw[ht];omega
  repeat' first
   |omega
   | (refine bK7 ?_ ?_)
   |intro _
 ·rw[hm,bM8 (by omega)]
end Go.C36
