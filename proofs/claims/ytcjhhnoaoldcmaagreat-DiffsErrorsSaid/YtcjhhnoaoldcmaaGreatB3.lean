/- Chapter 36 (rises), the plain laws of rising subsequences.
  Conditions: none. -/
import Derived.Test.YtcjhhnoaoldcmaaGreatB1
set_option linter.unusedVariables false
set_option linter.unusedSimpArgs false
namespace Go.C36
open Go Go.Xe Go.Sx
theorem frm_cons (x:Int)(l:List Int):frm (x::l)=(1+best x l (frm l))::frm l:=rfl
theorem frm_len :∀l:List Int,(frm l).length=l.length
 | []=>rfl
 |x::l=>by rw[frm_cons,bM2,frm_len l,bM2]
theorem best_cons (x y f:Int)(l fs:List Int):best x (y::l) (f::fs)=if x<y then max f (best x l fs)else best x l fs:=rfl
theorem best_nn (x:Int):∀l fs:List Int,0<=best x l fs
 |y::l,f::fs=>by
  have:=best_nn x l fs
  rw[best_cons]
  split<;>omega
 | [],_=>by unfold best;omega
 |_::_,[]=>by unfold best;omega
theorem best_le (x N:Int)(h0:0<=N):∀l fs:List Int,(∀(m:Nat) (f y:Int),fs[m]? =some f->l[m]? =some y->x<y->f<=N)->best x l fs<=N
 |y::l,f::fs,h=>by
  have ih:=best_le x N h0 l fs fun m f y h1 h2=>h (m+1) f y h1 h2
  have:=h 0 f y rfl rfl
  rw[best_cons]
  split<;>omega
 | [],_,_=>by unfold best;omega
 |_::_,[],_=>by unfold best;omega
theorem best_ge (x:Int):∀(l fs:List Int) (m:Nat) (f y:Int),fs[m]? =some f->l[m]? =some y->x<y->f<=best x l fs
 |z::l,g::fs,0,f,y,h1,h2,h3=>by
  cases h1;cases h2
  rw[best_cons,bK1 h3];omega
 |z::l,g::fs,m+1,f,y,h1,h2,h3=>by
  have:=best_ge x l fs m f y h1 h2 h3
  rw[best_cons]
  split<;>omega
 | [],_,m,f,y,h1,h2,h3=>by simp at h2
 |_::_,[],m,f,y,h1,h2,h3=>by simp at h1
theorem best_at (x:Int):∀l fs:List Int,best x l fs=0\/ ∃(m:Nat) (y:Int),fs[m]? =some (best x l fs)/\l[m]? =some y/\x<y
 |y::l,f::fs=>by
  have ih:=best_at x l fs
  rw[best_cons]
  by_cases c:x<y
  ·rw[bK1 c]
   by_cases d:best x l fs<=f
   ·right
    exact⟨0,y,by rw[show max f (best x l fs)=f by omega];rfl,rfl,c⟩
   ·rw[show max f (best x l fs)=best x l fs by omega]
    rcases ih with h| ⟨m,z,h1,h2,h3⟩
    ·exact .inl h
    ·exact .inr ⟨m+1,z,h1,h2,h3⟩
  ·rw[bJ9 c]
   rcases ih with h| ⟨m,z,h1,h2,h3⟩
   ·exact .inl h
   ·exact .inr ⟨m+1,z,h1,h2,h3⟩
 | [],_=>.inl (by unfold best;rfl)
 |_::_,[]=>.inl (by unfold best;rfl)
theorem frm_bound :∀(l:List Int) (m:Nat) (f:Int),(frm l)[m]? =some f->1<=f/\f<=l.length
 | [],m,f,h=>by simp[frm]at h
 |x::l,0,f,h=>by
  rw[frm_cons]at h
  simp only[bJ5,bH9]at h
  have h1:=best_nn x l (frm l)
  have h2:=best_le x l.length (by omega) l (frm l) fun m f y h _ _=>(frm_bound l m f h).2
  simp only[bM2];omega
 |x::l,m+1,f,h=>by
  have:=frm_bound l m f h
  simp only[bM2];omega
def setN (l:List Int)(k:Nat)(x:Int):List Int:=l.take k++x::l.drop (k+1)
theorem setN_get {l:List Int}{k:Nat}{x:Int}(h:k<=l.length)(j:Nat):(setN l k x)[j]? =if j=k then some x else l[j]? :=by
 unfold setN
 have ht:(l.take k).length=k:=by rw[bL4];omega
 by_cases c:j<k
 ·rw[bI8 (by omega),bL2,bK1 c,bJ9 (by omega)]
 ·rw[bI7 (by omega),ht]
  by_cases d:j=k
  ·subst d
   rw[bK1 rfl,bS6];rfl
  ·rw[bJ9 d,show j-k=(j-k-1)+1 by omega,bJ0,bL8]
   congr 1;omega
theorem setN_len {l:List Int}{k:Nat}{x:Int}(h:k<l.length):(setN l k x).length=l.length:=by
 unfold setN
 rw[bK6,bL4,bM2,bN1];omega
theorem setN_end {l:List Int}{x:Int}:(setN l l.length x).length=l.length+1:=by
 unfold setN
 rw[bK6,bL4,bM2,bN1];omega
theorem setN_drop {l:List Int}{k:Nat}{x:Int}(h:k<=l.length):(setN l k x).drop k=x::l.drop (k+1):=by
 unfold setN
 rw[List.drop_append_of_le_length (by rw[bL4];omega),bP0 (by rw[bL4];omega)];rfl
theorem setN_drop' {l:List Int}{k j:Nat}{x:Int}(h:k<=l.length)(hj:k<j):(setN l k x).drop j=l.drop j:=by
 have:j=k+(j-k-1+1):=by omega
 rw[this,<-List.drop_drop,setN_drop h,List.drop_succ_cons,List.drop_drop]
 congr 1;omega
theorem over_row {l:List Int}{k x:Int}:Sx.over (l.map row) k (chunk 1 1 [.int x])=(setN l k.toNat x).map row:=by
 unfold Sx.over setN
 rw[<-List.map_take,bM6,bN0,List.map_drop,bJ3];rfl
theorem part_row {l:List Int}{n:Int}(h:n=l.length):Sx.part (l.map row) 0 n=l.map row:=by
 unfold Sx.part
 rw[show(0:Int).toNat=0 from rfl,bR5,bM8 (by rw[bJ8];omega)]
theorem St.nil :St [] []:=⟨fun i j x y h=>by simp at h,fun j x h=>by simp at h,fun k f x h=>by simp[frm]at h⟩
theorem St.len {w s:List Int}(h:St w s){x:Int}{k:Nat}(hk:k<=w.length)(h1:∀(j:Nat) (y:Int),j<k->w[j]? =some y->x<y)(h2:∀(j:Nat) (y:Int),k<=j->w[j]? =some y->y<=x):best x s (frm s)=k:=by
 have hle:=best_le x k (by omega) s (frm s) fun m f y hf hy hxy=>by
  obtain⟨q1,z,q2,q3⟩:=h.top m f y hf hy
  by_cases c:k<=(f-1).toNat
  ·have:=h2 _ z c q2;omega
  ·omega
 have hge:(k:Int)<=best x s (frm s):=by
  cases k with
  |zero=>have:=best_nn x s (frm s);omega
  |succ k=>
   have hw:w[k]? =some w[k]:=bJ1 (by omega)
   obtain⟨m,q1,q2⟩:=h.has k _ hw
   have:=best_ge x s (frm s) m _ _ q1 q2 (h1 k _ (by omega) hw)
   omega
 omega
theorem St.step {w s:List Int}(h:St w s){x:Int}{k:Nat}(hk:k<=w.length)(h1:∀(j:Nat) (y:Int),j<k->w[j]? =some y->x<y)(h2:∀(j:Nat) (y:Int),k<=j->w[j]? =some y->y<=x):St (setN w k x) (x::s):=by
 have hb:=h.len hk h1 h2
 refine⟨fun i j a b ha hb' hij=>?_,fun j a ha=>?_,fun m f a hf ha=>?_⟩
 ·rw[setN_get hk]at ha hb'
  by_cases ci:i=k
  ·rw[bK1 ci]at ha
   rw[bJ9 (by omega)]at hb'
   cases ha
   have hl:=(bI2.1 hb').1
   have hwk:w[k]? =some w[k]:=bJ1 (by omega)
   have q1:=h.desc k j _ b hwk hb' (by omega)
   have q2:=h2 k _ (bK2 k) hwk
   omega
  ·rw[bJ9 ci]at ha
   by_cases cj:j=k
   ·rw[bK1 cj]at hb'
    cases hb'
    exact h1 i a (by omega) ha
   ·rw[bJ9 cj]at hb'
    exact h.desc i j a b ha hb' hij
 ·rw[setN_get hk]at ha
  by_cases cj:j=k
  ·rw[bK1 cj]at ha
   cases ha
   refine⟨0,?_,rfl⟩
   rw[frm_cons,hb,cj]
   show some (1+(k:Int))=_
   congr 1;omega
  ·rw[bJ9 cj]at ha
   obtain⟨m,q1,q2⟩:=h.has j a ha
   exact⟨m+1,q1,q2⟩
 ·cases m with
  |zero=>
   rw[frm_cons,hb]at hf
   simp only[bJ5,bH9]at hf ha
   subst hf;subst ha
   refine⟨by omega,x,?_,bO3 x⟩
   rw[setN_get hk,bK1 (by omega)]
  |succ m=>
   obtain⟨q1,y,q2,q3⟩:=h.top m f a hf ha
   refine⟨q1,?_⟩
   by_cases c:(f-1).toNat=k
   ·refine⟨x,by rw[setN_get hk,bK1 c],?_⟩
    have:=h2 k y (bK2 k) (by rw[<-c];exact q2)
    omega
   ·exact⟨y,by rw[setN_get hk,bJ9 c];exact q2,q3⟩
theorem pickL_cons (x f:Int)(l fs:List Int)(i n:Int)(last:Option Int):pickL (x::l) (f::fs) i n last=if 0<n/\f=n/\(∀y,last=some y->y<x)then i::pickL l fs (i+1) (n-1) (some x)else pickL l fs (i+1) n last:=by rw[pickL]
theorem pickL_nil (fs:List Int)(i n:Int)(last:Option Int):pickL [] fs i n last=[]:=by cases fs<;>rfl
theorem pickL_zero :∀(l fs:List Int) (i n:Int) (last:Option Int),¬0<n->pickL l fs i n last=[]
 |x::l,f::fs,i,n,last,h=>by rw[pickL_cons,bJ9 (fun c=>h c.1),pickL_zero l fs _ _ _ h]
 | [],fs,i,n,last,h=>pickL_nil fs i n last
 |x::l,[],i,n,last,h=>rfl
theorem pick_len :∀(l:List Int) (i n:Int) (last:Option Int),0<=n->(0<n-> ∃(m:Nat) (y:Int),(frm l)[m]? =some n/\l[m]? =some y/\ ∀z,last=some z->z<y)->((pickL l (frm l) i n last).length:Int)=n
 | [],i,n,last,h0,h=>by
  rw[pickL_nil]
  by_cases c:0<n
  ·obtain⟨m,y,h1,h2,_⟩:=h c
   simp at h2
  ·show(0:Int)=n;omega
 |x::l,i,n,last,h0,h=>by
  rw[frm_cons,pickL_cons]
  by_cases c:0<n/\1+best x l (frm l)=n/\ ∀y,last=some y->y<x
  ·rw[bK1 c]
   have ih:=pick_len l (i+1) (n-1) (some x) (by omega) fun hn=>by
    rcases best_at x l (frm l)with e| ⟨m,y,e1,e2,e3⟩
    ·omega
    ·exact⟨m,y,by rw[e1];congr 1;omega,e2,fun z hz=>by cases hz;exact e3⟩
   rw[bM2];omega
  ·rw[bJ9 c]
   refine pick_len l (i+1) n last h0 fun hn=>?_
   obtain⟨m,y,h1,h2,h3⟩:=h hn
   cases m with
   |zero=>
    simp only[frm_cons,bJ5,bH9]at h1 h2
    subst h2
    exact absurd ⟨hn,h1,h3⟩ c
   |succ m=>exact⟨m,y,h1,h2,h3⟩
theorem maxL_nn :∀l:List Int,0<=maxL l
 | []=>by unfold maxL;omega
 |x::l=>by have:=maxL_nn l;unfold maxL;omega
theorem maxL_at :∀l:List Int,maxL l=0\/ ∃m:Nat,l[m]? =some (maxL l)
 | []=>.inl rfl
 |x::l=>by
  have ih:=maxL_at l
  unfold maxL
  by_cases c:maxL l<=x
  ·rw[show max x (maxL l)=x by omega];exact .inr ⟨0,rfl⟩
  ·rw[show max x (maxL l)=maxL l by omega]
   rcases ih with h| ⟨m,h⟩
   ·exact .inl h
   ·exact .inr ⟨m+1,h⟩
theorem lis_len (l:List Int):((lis l).length:Int)=maxL (frm l):=by
 unfold lis
 refine pick_len l 0 _ none (maxL_nn _) fun hn=>?_
 rcases maxL_at (frm l)with h| ⟨m,h⟩
 ·omega
 ·have hl:=(bI2.1 h).1
  rw[frm_len]at hl
  exact⟨m,l[m],h,bJ1 hl,fun z hz=>by cases hz⟩
theorem maxL_app (l:List Int)(x:Int)(hx:0<=x):maxL (l++ [x])=max (maxL l) x:=by
 induction l with
 |nil=>unfold maxL;show max x (maxL [])=max 0 x;unfold maxL;omega
 |cons y l ih=>show max y (maxL (l++ [x]))=max (max y (maxL l)) x;rw[ih];omega
theorem maxL_le :∀(l:List Int) (N:Int),0<=N->(∀x∈l,x<=N)->maxL l<=N
 | [],N,h,_=>h
 |x::l,N,h,k=>by
  have:=maxL_le l N h fun y hy=>k y (by simp[hy])
  have:=k x (by simp)
  unfold maxL;omega
theorem nums_map (l:List Int):t6 (l.map row)=l:=by
 unfold t6;rw[List.map_map];exact List.map_id' l
theorem row0 (n:Int):(row n).getD 0 (.int 0)= .int n:=rfl
theorem map_app_row (o:List Int)(n:Int):o.map row++chunk 1 1 [.int n]=(o++ [n]).map row:=by rw[bM6];rfl
theorem rep_row (n:Nat):List.replicate n [(Dat.int 0)]=(List.replicate n 0).map row:=by rw[List.map_replicate];rfl
theorem row_inj {l m:List Int}(h:l.map row=m.map row):l=m:=Sx.map_inj_of (fun a b e=>by cases e;rfl) h
theorem half_u {a:Int}(h:0<=a):shrI .u64 a 1=a/2:=by
 unfold shrI
 exact Int.fdiv_eq_ediv_of_nonneg a (by decide)
end Go.C36
