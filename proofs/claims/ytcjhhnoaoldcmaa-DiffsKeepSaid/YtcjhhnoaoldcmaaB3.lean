/- Chapter 36 (rises), the plain laws of rising subsequences.
  Conditions: none. -/
import Derived.Test.YtcjhhnoaoldcmaaF0
set_option linter.unusedVariables false
set_option linter.unusedSimpArgs false
namespace Go.C36
open Go Go.Xe Go.Sx
theorem frm_cons (x:Int)(l:List Int):frm (x::l)=(1+best x l (frm l))::frm l:=rfl
theorem frm_len :∀l:List Int,(frm l).length=l.length
 | []=>rfl
 |x::l=>by rw[frm_cons,bE4,frm_len l,bE4]
theorem best_cons (x y f:Int)(l a:List Int):best x (y::l) (f::a)=if x<y then max f (best x l a)else best x l a:=rfl
theorem best_nn (x:Int):∀l a:List Int,0<=best x l a
 |y::l,f::a=>by
  have:=best_nn x l a
  rw[best_cons]
  split<;>omega
 | [],_=>by unfold best;omega
 |_::_,[]=>by unfold best;omega
theorem best_le (x N:Int)(h0:0<=N):∀l a:List Int,(∀(m:Nat) (f y:Int),a[m]? =some f->l[m]? =some y->x<y->f<=N)->best x l a<=N
 |y::l,f::a,h=>by
  have b:=best_le x N h0 l a fun m f y h1 h2=>h (m+1) f y h1 h2
  have:=h 0 f y rfl rfl
  rw[best_cons]
  split<;>omega
 | [],_,_=>by unfold best;omega
 |_::_,[],_=>by unfold best;omega
theorem best_ge (x:Int):∀(l a:List Int) (m:Nat) (f y:Int),a[m]? =some f->l[m]? =some y->x<y->f<=best x l a
 |z::l,g::a,0,f,y,h1,h2,h3=>by
  cases h1;cases h2
  rw[best_cons,bC3 h3];omega
 |z::l,g::a,m+1,f,y,h1,h2,h3=>by
  have:=best_ge x l a m f y h1 h2 h3
  rw[best_cons]
  split<;>omega
 | [],_,m,f,y,h1,h2,h3=>by simp at h2
 |_::_,[],m,f,y,h1,h2,h3=>by simp at h1
theorem best_at (x:Int):∀l a:List Int,best x l a=0\/ ∃(m:Nat) (y:Int),a[m]? =some (best x l a)/\l[m]? =some y/\x<y
 |y::l,f::a=>by
  have b:=best_at x l a
  rw[best_cons]
  by_cases c:x<y
  ·rw[bC3 c]
   by_cases d:best x l a<=f
   ·right
    exact⟨0,y,by rw[show max f (best x l a)=f by omega];rfl,rfl,c⟩
   ·rw[show max f (best x l a)=best x l a by omega]
    rcases b with h| ⟨m,z,h1,h2,h3⟩
    ·exact .inl h
    ·exact .inr ⟨m+1,z,h1,h2,h3⟩
  ·rw[bC1 c]
   rcases b with h| ⟨m,z,h1,h2,h3⟩
   ·exact .inl h
   ·exact .inr ⟨m+1,z,h1,h2,h3⟩
 | [],_=>.inl (by unfold best;rfl)
 |_::_,[]=>.inl (by unfold best;rfl)
theorem frm_bound :∀(l:List Int) (m:Nat) (f:Int),(frm l)[m]? =some f->1<=f/\f<=l.length
 | [],m,f,h=>by simp[frm]at h
 |x::l,0,f,h=>by
  rw[frm_cons]at h
  simp only[bB7,bA1]at h
  have h1:=best_nn x l (frm l)
  have h2:=best_le x l.length (by omega) l (frm l) fun m f y h _ _=>(frm_bound l m f h).2
  simp only[bE4];omega
 |x::l,m+1,f,h=>by
  have:=frm_bound l m f h
  simp only[bE4];omega
def setN (l:List Int)(k:Nat)(x:Int):List Int:=l.take k++x::l.drop (k+1)
variable {l:List Int}{k:Nat}{x:Int}
theorem setN_get (h:k<=l.length)(j:Nat):(setN l k x)[j]? =if j=k then some x else l[j]? :=by
 unfold setN
 have ht:(l.take k).length=k:=by rw[bD6];omega
 by_cases c:j<k
 ·rw[bB0 (by omega),bD4,bC3 c,bC1 (by omega)]
 ·rw[bA9 (by omega),ht]
  by_cases d:j=k
  ·subst d
   rw[bC3 rfl,bJ7];rfl
  ·rw[bC1 d,show j-k=(j-k-1)+1 by omega,bB2,bE0]
   congr 1;omega
theorem setN_len (h:k<l.length):(setN l k x).length=l.length:=by
 unfold setN
 rw[bC8,bD6,bE4,List.length_drop];omega
theorem setN_drop (h:k<=l.length):(setN l k x).drop k=x::l.drop (k+1):=by
 unfold setN
 rw[List.drop_append_of_le_length (by rw[bD6];omega),bH0 (by rw[bD6];omega)];rfl
theorem setN_drop' {j:Nat}(h:k<=l.length)(hj:k<j):(setN l k x).drop j=l.drop j:=by
 have:j=k+(j-k-1+1):=by omega
 rw[this,<-List.drop_drop,setN_drop h,List.drop_succ_cons,List.drop_drop]
 congr 1;omega
theorem St.nil :St [] []:=⟨fun i j x y h=>by simp at h,fun j x h=>by simp at h,fun k f x h=>by simp[frm]at h⟩
variable {s w:List Int}
theorem St.len (h:St w s)(hk:k<=w.length)(h1:∀(j:Nat) (y:Int),j<k->w[j]? =some y->x<y)(h2:∀(j:Nat) (y:Int),k<=j->w[j]? =some y->y<=x):best x s (frm s)=k:=by
 have b:=best_le x k (by omega) s (frm s) fun m f y hf hy d=>by
  obtain⟨q1,z,q2,e⟩:=h.top m f y hf hy
  by_cases c:k<=(f-1).toNat
  ·have:=h2 _ z c q2;omega
  ·omega
 have hge:(k:Int)<=best x s (frm s):=by
  cases k with
  |zero=>have:=best_nn x s (frm s);omega
  |succ k=>
   have a:w[k]? =some w[k]:=bB3 (by omega)
   obtain⟨m,q1,q2⟩:=h.has k _ a
   have:=best_ge x s (frm s) m _ _ q1 q2 (h1 k _ (by omega) a)
   omega
 omega
theorem St.step (h:St w s)(hk:k<=w.length)(h1:∀(j:Nat) (y:Int),j<k->w[j]? =some y->x<y)(h2:∀(j:Nat) (y:Int),k<=j->w[j]? =some y->y<=x):St (setN w k x) (x::s):=by
 have hb:=h.len hk h1 h2
 refine⟨fun i j a b e d o=>?_,fun j a e=>?_,fun m f a hf e=>?_⟩
 ·rw[setN_get hk]at e d
  by_cases p:i=k
  ·rw[bC3 p]at e
   rw[bC1 (by omega)]at d
   cases e
   have hl:=(bA4.1 d).1
   have n:w[k]? =some w[k]:=bB3 (by omega)
   have q1:=h.desc k j _ b n d (by omega)
   have q2:=h2 k _ (bC4 k) n
   omega
  ·rw[bC1 p]at e
   by_cases g:j=k
   ·rw[bC3 g]at d
    cases d
    exact h1 i a (by omega) e
   ·rw[bC1 g]at d
    exact h.desc i j a b e d o
 ·rw[setN_get hk]at e
  by_cases g:j=k
  ·rw[bC3 g]at e
   cases e
   refine⟨0,?_,rfl⟩
   rw[frm_cons,hb,g]
   show some (1+(k:Int))=_
   congr 1;omega
  ·rw[bC1 g]at e
   obtain⟨m,q1,q2⟩:=h.has j a e
   exact⟨m+1,q1,q2⟩
 ·cases m with
  |zero=>
   rw[frm_cons,hb]at hf
   simp only[bB7,bA1]at hf e
   subst hf;subst e
   refine⟨by omega,x,?_,bG4 x⟩
   rw[setN_get hk,bC3 (by omega)]
  |succ m=>
   obtain⟨q1,y,q2,q⟩:=h.top m f a hf e
   refine⟨q1,?_⟩
   by_cases c:(f-1).toNat=k
   ·refine⟨x,by rw[setN_get hk,bC3 c],?_⟩
    have:=h2 k y (bC4 k) (by rw[<-c];exact q2)
    omega
   ·exact⟨y,by rw[setN_get hk,bC1 c];exact q2,q⟩
theorem pickL_cons (x f:Int)(l a:List Int)(i n:Int)(last:Option Int):pickL (x::l) (f::a) i n last=if 0<n/\f=n/\(∀y,last=some y->y<x)then i::pickL l a (i+1) (n-1) (some x)else pickL l a (i+1) n last:=by rw[pickL]
theorem pickL_nil (a:List Int)(i n:Int)(last:Option Int):pickL [] a i n last=[]:=by cases a<;>rfl
theorem pick_len :∀(l:List Int) (i n:Int) (last:Option Int),0<=n->(0<n-> ∃(m:Nat) (y:Int),(frm l)[m]? =some n/\l[m]? =some y/\ ∀z,last=some z->z<y)->((pickL l (frm l) i n last).length:Int)=n
 | [],i,n,last,h0,h=>by
  rw[pickL_nil]
  by_cases c:0<n
  ·obtain⟨m,y,h1,h2,_⟩:=h c
   simp at h2
  ·show(0:Int)=n;omega
 |x::l,i,n,last,h0,h=>by
  rw[frm_cons,pickL_cons]
  by_cases c:0<n/\1+best x l (frm l)=n/\ ∀y,last=some y->y<x
  ·rw[bC3 c]
   have f:=pick_len l (i+1) (n-1) (some x) (by omega) fun hn=>by
    rcases best_at x l (frm l)with e| ⟨m,y,a,b,d⟩
    ·omega
    ·exact⟨m,y,by rw[a];congr 1;omega,b,fun z hz=>by cases hz;exact d⟩
   rw[bE4];omega
  ·rw[bC1 c]
   refine pick_len l (i+1) n last h0 fun hn=>?_
   obtain⟨m,y,h1,h2,h3⟩:=h hn
   cases m with
   |zero=>
    simp only[frm_cons,bB7,bA1]at h1 h2
    subst h2
    exact absurd ⟨hn,h1,h3⟩ c
   |succ m=>exact⟨m,y,h1,h2,h3⟩
theorem maxL_nn :∀l:List Int,0<=maxL l
 | []=>by unfold maxL;omega
 |x::l=>by have:=maxL_nn l;unfold maxL;omega
theorem maxL_at :∀l:List Int,maxL l=0\/ ∃m:Nat,l[m]? =some (maxL l)
 | []=>.inl rfl
 |x::l=>by
  have a:=maxL_at l
  unfold maxL
  by_cases c:maxL l<=x
  ·rw[show max x (maxL l)=x by omega];exact .inr ⟨0,rfl⟩
  ·rw[show max x (maxL l)=maxL l by omega]
   rcases a with h| ⟨m,h⟩
   ·exact .inl h
   ·exact .inr ⟨m+1,h⟩
theorem lis_len (l:List Int):((lis l).length:Int)=maxL (frm l):=by
 unfold lis
 refine pick_len l 0 _ none (maxL_nn _) fun hn=>?_
 rcases maxL_at (frm l)with h| ⟨m,h⟩
 ·omega
 ·have hl:=(bA4.1 h).1
  rw[frm_len]at hl
  exact⟨m,l[m],h,bB3 hl,fun z hz=>by cases hz⟩
theorem row0 (n:Int):(row n).getD 0 (.int 0)= .int n:=rfl
theorem row_inj {m:List Int}(h:l.map row=m.map row):l=m:=Sx.map_inj_of (fun a b e=>by cases e;rfl) h
end Go.C36
