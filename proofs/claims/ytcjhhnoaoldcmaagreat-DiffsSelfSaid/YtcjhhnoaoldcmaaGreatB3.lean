/- Chapter 36 (rises), the plain laws of rising subsequences.
  Conditions: none. -/
import Derived.Test.YtcjhhnoaoldcmaaGreatB1
set_option linter.unusedVariables false
set_option linter.unusedSimpArgs false
namespace Go.C36
open Go Go.Xe Go.Sx
theorem frm_cons (x:Int)(l:List Int):frm (x::l)=(1+best x l (frm l))::frm l:=rfl
theorem frm_len :∀l:List Int,(frm l).length=l.length
 | []=>rfl
 |x::l=>by rw[frm_cons,bJ4,frm_len l,bJ4]
theorem best_cons (x y f:Int)(l fs:List Int):best x (y::l) (f::fs)=if x<y then max f (best x l fs)else best x l fs:=rfl
theorem best_nn (x:Int):∀l fs:List Int,0<=best x l fs
 |y::l,f::fs=>by
  have:=best_nn x l fs
  rw[best_cons]
  split<;>omega
 | [],_=>by unfold best;omega
 |_::_,[]=>by unfold best;omega
theorem best_le (x N:Int)(h0:0<=N):∀l fs:List Int,(∀(m:Nat) (f y:Int),fs[m]? =some f->l[m]? =some y->x<y->f<=N)->best x l fs<=N
 |y::l,f::fs,h=>by
  have a:=best_le x N h0 l fs fun m f y h1 h2=>h (m+1) f y h1 h2
  have:=h 0 f y rfl rfl
  rw[best_cons]
  split<;>omega
 | [],_,_=>by unfold best;omega
 |_::_,[],_=>by unfold best;omega
theorem best_ge (x:Int):∀(l fs:List Int) (m:Nat) (f y:Int),fs[m]? =some f->l[m]? =some y->x<y->f<=best x l fs
 |z::l,g::fs,0,f,y,h1,h2,h3=>by
  cases h1;cases h2
  rw[best_cons,bH3 h3];omega
 |z::l,g::fs,m+1,f,y,h1,h2,h3=>by
  have:=best_ge x l fs m f y h1 h2 h3
  rw[best_cons]
  split<;>omega
 | [],_,m,f,y,h1,h2,h3=>by simp at h2
 |_::_,[],m,f,y,h1,h2,h3=>by simp at h1
theorem best_at (x:Int):∀l fs:List Int,best x l fs=0\/ ∃(m:Nat) (y:Int),fs[m]? =some (best x l fs)/\l[m]? =some y/\x<y
 |y::l,f::fs=>by
  have a:=best_at x l fs
  rw[best_cons]
  by_cases c:x<y
  ·rw[bH3 c]
   by_cases d:best x l fs<=f
   ·right
    exact⟨0,y,by rw[show max f (best x l fs)=f by omega];rfl,rfl,c⟩
   ·rw[show max f (best x l fs)=best x l fs by omega]
    rcases a with h| ⟨m,z,h1,h2,h3⟩
    ·exact .inl h
    ·exact .inr ⟨m+1,z,h1,h2,h3⟩
  ·rw[bH1 c]
   rcases a with h| ⟨m,z,h1,h2,h3⟩
   ·exact .inl h
   ·exact .inr ⟨m+1,z,h1,h2,h3⟩
 | [],_=>.inl (by unfold best;rfl)
 |_::_,[]=>.inl (by unfold best;rfl)
theorem frm_bound :∀(l:List Int) (m:Nat) (f:Int),(frm l)[m]? =some f->1<=f/\f<=l.length
 | [],m,f,h=>by simp[frm]at h
 |x::l,0,f,h=>by
  rw[frm_cons]at h
  simp only[bG7,bF1]at h
  have h1:=best_nn x l (frm l)
  have h2:=best_le x l.length (by omega) l (frm l) fun m f y h _ _=>(frm_bound l m f h).2
  simp only[bJ4];omega
 |x::l,m+1,f,h=>by
  have:=frm_bound l m f h
  simp only[bJ4];omega
def setN (l:List Int)(k:Nat)(x:Int):List Int:=l.take k++x::l.drop (k+1)
variable {l:List Int}{k:Nat}{x:Int}
theorem setN_get (h:k<=l.length)(j:Nat):(setN l k x)[j]? =if j=k then some x else l[j]? :=by
 unfold setN
 have ht:(l.take k).length=k:=by rw[bI6];omega
 by_cases c:j<k
 ·rw[bG0 (by omega),bI4,bH3 c,bH1 (by omega)]
 ·rw[bF9 (by omega),ht]
  by_cases d:j=k
  ·subst d
   rw[bH3 rfl,bP9];rfl
  ·rw[bH1 d,show j-k=(j-k-1)+1 by omega,bG2,bJ0]
   congr 1;omega
theorem setN_len (h:k<l.length):(setN l k x).length=l.length:=by
 unfold setN
 rw[bH8,bI6,bJ4,bK3];omega
theorem setN_end :(setN l l.length x).length=l.length+1:=by
 unfold setN
 rw[bH8,bI6,bJ4,bK3];omega
theorem setN_drop (h:k<=l.length):(setN l k x).drop k=x::l.drop (k+1):=by
 unfold setN
 rw[List.drop_append_of_le_length (by rw[bI6];omega),bM2 (by rw[bI6];omega)];rfl
theorem setN_drop' {j:Nat}(h:k<=l.length)(hj:k<j):(setN l k x).drop j=l.drop j:=by
 have:j=k+(j-k-1+1):=by omega
 rw[this,<-List.drop_drop,setN_drop h,List.drop_succ_cons,List.drop_drop]
 congr 1;omega
theorem over_row {k:Int}:Sx.over (l.map row) k (chunk 1 1 [.int x])=(setN l k.toNat x).map row:=by
 unfold Sx.over setN
 rw[<-List.map_take,bJ8,bK2,List.map_drop,bG5];rfl
theorem part_row {n:Int}(h:n=l.length):Sx.part (l.map row) 0 n=l.map row:=by
 unfold Sx.part
 rw[show(0:Int).toNat=0 from rfl,bO7,bK0 (by rw[bH0];omega)]
theorem St.nil :St [] []:=⟨fun i j x y h=>by simp at h,fun j x h=>by simp at h,fun k f x h=>by simp[frm]at h⟩
variable {s w:List Int}
theorem St.len (h:St w s)(hk:k<=w.length)(h1:∀(j:Nat) (y:Int),j<k->w[j]? =some y->x<y)(h2:∀(j:Nat) (y:Int),k<=j->w[j]? =some y->y<=x):best x s (frm s)=k:=by
 have b:=best_le x k (by omega) s (frm s) fun m f y hf hy d=>by
  obtain⟨q1,z,q2,e⟩:=h.top m f y hf hy
  by_cases c:k<=(f-1).toNat
  ·have:=h2 _ z c q2;omega
  ·omega
 have hge:(k:Int)<=best x s (frm s):=by
  cases k with
  |zero=>have:=best_nn x s (frm s);omega
  |succ k=>
   have a:w[k]? =some w[k]:=bG3 (by omega)
   obtain⟨m,q1,q2⟩:=h.has k _ a
   have:=best_ge x s (frm s) m _ _ q1 q2 (h1 k _ (by omega) a)
   omega
 omega
theorem St.step (h:St w s)(hk:k<=w.length)(h1:∀(j:Nat) (y:Int),j<k->w[j]? =some y->x<y)(h2:∀(j:Nat) (y:Int),k<=j->w[j]? =some y->y<=x):St (setN w k x) (x::s):=by
 have hb:=h.len hk h1 h2
 refine⟨fun i j a b d hb' n=>?_,fun j a d=>?_,fun m f a hf d=>?_⟩
 ·rw[setN_get hk]at d hb'
  by_cases o:i=k
  ·rw[bH3 o]at d
   rw[bH1 (by omega)]at hb'
   cases d
   have hl:=(bF4.1 hb').1
   have g:w[k]? =some w[k]:=bG3 (by omega)
   have q1:=h.desc k j _ b g hb' (by omega)
   have q2:=h2 k _ (bH4 k) g
   omega
  ·rw[bH1 o]at d
   by_cases e:j=k
   ·rw[bH3 e]at hb'
    cases hb'
    exact h1 i a (by omega) d
   ·rw[bH1 e]at hb'
    exact h.desc i j a b d hb' n
 ·rw[setN_get hk]at d
  by_cases e:j=k
  ·rw[bH3 e]at d
   cases d
   refine⟨0,?_,rfl⟩
   rw[frm_cons,hb,e]
   show some (1+(k:Int))=_
   congr 1;omega
  ·rw[bH1 e]at d
   obtain⟨m,q1,q2⟩:=h.has j a d
   exact⟨m+1,q1,q2⟩
 ·cases m with
  |zero=>
   rw[frm_cons,hb]at hf
   simp only[bG7,bF1]at hf d
   subst hf;subst d
   refine⟨by omega,x,?_,bL5 x⟩
   rw[setN_get hk,bH3 (by omega)]
  |succ m=>
   obtain⟨q1,y,q2,p⟩:=h.top m f a hf d
   refine⟨q1,?_⟩
   by_cases c:(f-1).toNat=k
   ·refine⟨x,by rw[setN_get hk,bH3 c],?_⟩
    have:=h2 k y (bH4 k) (by rw[<-c];exact q2)
    omega
   ·exact⟨y,by rw[setN_get hk,bH1 c];exact q2,p⟩
theorem pickL_cons (x f:Int)(l fs:List Int)(i n:Int)(last:Option Int):pickL (x::l) (f::fs) i n last=if 0<n/\f=n/\(∀y,last=some y->y<x)then i::pickL l fs (i+1) (n-1) (some x)else pickL l fs (i+1) n last:=by rw[pickL]
theorem pickL_nil (fs:List Int)(i n:Int)(last:Option Int):pickL [] fs i n last=[]:=by cases fs<;>rfl
theorem pickL_zero :∀(l fs:List Int) (i n:Int) (last:Option Int),¬0<n->pickL l fs i n last=[]
 |x::l,f::fs,i,n,last,h=>by rw[pickL_cons,bH1 (fun c=>h c.1),pickL_zero l fs _ _ _ h]
 | [],fs,i,n,last,h=>pickL_nil fs i n last
 |x::l,[],i,n,last,h=>rfl
theorem pick_len :∀(l:List Int) (i n:Int) (last:Option Int),0<=n->(0<n-> ∃(m:Nat) (y:Int),(frm l)[m]? =some n/\l[m]? =some y/\ ∀z,last=some z->z<y)->((pickL l (frm l) i n last).length:Int)=n
 | [],i,n,last,h0,h=>by
  rw[pickL_nil]
  by_cases c:0<n
  ·obtain⟨m,y,h1,h2,_⟩:=h c
   simp at h2
  ·show(0:Int)=n;omega
 |x::l,i,n,last,h0,h=>by
  rw[frm_cons,pickL_cons]
  by_cases c:0<n/\1+best x l (frm l)=n/\ ∀y,last=some y->y<x
  ·rw[bH3 c]
   have f:=pick_len l (i+1) (n-1) (some x) (by omega) fun hn=>by
    rcases best_at x l (frm l)with e| ⟨m,y,a,b,d⟩
    ·omega
    ·exact⟨m,y,by rw[a];congr 1;omega,b,fun z hz=>by cases hz;exact d⟩
   rw[bJ4];omega
  ·rw[bH1 c]
   refine pick_len l (i+1) n last h0 fun hn=>?_
   obtain⟨m,y,h1,h2,h3⟩:=h hn
   cases m with
   |zero=>
    simp only[frm_cons,bG7,bF1]at h1 h2
    subst h2
    exact absurd ⟨hn,h1,h3⟩ c
   |succ m=>exact⟨m,y,h1,h2,h3⟩
theorem maxL_nn :∀l:List Int,0<=maxL l
 | []=>by unfold maxL;omega
 |x::l=>by have:=maxL_nn l;unfold maxL;omega
theorem maxL_at :∀l:List Int,maxL l=0\/ ∃m:Nat,l[m]? =some (maxL l)
 | []=>.inl rfl
 |x::l=>by
  have a:=maxL_at l
  unfold maxL
  by_cases c:maxL l<=x
  ·rw[show max x (maxL l)=x by omega];exact .inr ⟨0,rfl⟩
  ·rw[show max x (maxL l)=maxL l by omega]
   rcases a with h| ⟨m,h⟩
   ·exact .inl h
   ·exact .inr ⟨m+1,h⟩
theorem lis_len (l:List Int):((lis l).length:Int)=maxL (frm l):=by
 unfold lis
 refine pick_len l 0 _ none (maxL_nn _) fun hn=>?_
 rcases maxL_at (frm l)with h| ⟨m,h⟩
 ·omega
 ·have hl:=(bF4.1 h).1
  rw[frm_len]at hl
  exact⟨m,l[m],h,bG3 hl,fun z hz=>by cases hz⟩
theorem maxL_app (l:List Int)(x:Int)(hx:0<=x):maxL (l++ [x])=max (maxL l) x:=by
 induction l with
 |nil=>unfold maxL;show max x (maxL [])=max 0 x;unfold maxL;omega
 |cons y l a=>show max y (maxL (l++ [x]))=max (max y (maxL l)) x;rw[a];omega
theorem maxL_le :∀(l:List Int) (N:Int),0<=N->(∀x∈l,x<=N)->maxL l<=N
 | [],N,h,_=>h
 |x::l,N,h,k=>by
  have:=maxL_le l N h fun y hy=>k y (by simp[hy])
  have:=k x (by simp)
  unfold maxL;omega
theorem nums_map (l:List Int):j0 (l.map row)=l:=by
 unfold j0;rw[List.map_map];exact List.map_id' l
theorem row0 (n:Int):(row n).getD 0 (.int 0)= .int n:=rfl
theorem map_app_row (o:List Int)(n:Int):o.map row++chunk 1 1 [.int n]=(o++ [n]).map row:=by rw[bJ8];rfl
theorem rep_row (n:Nat):List.replicate n [(Dat.int 0)]=(List.replicate n 0).map row:=by rw[List.map_replicate];rfl
theorem row_inj {m:List Int}(h:l.map row=m.map row):l=m:=Sx.map_inj_of (fun a b e=>by cases e;rfl) h
theorem half_u {a:Int}(h:0<=a):shrI .u64 a 1=a/2:=by
 unfold shrI
 exact Int.fdiv_eq_ediv_of_nonneg a (by decide)
end Go.C36
