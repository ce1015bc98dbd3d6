/- Chapter 36 (rises), lengths, the greatest, comparing: the conditions hold.
  Conditions: none. -/
import Derived.Test.YtcjhhnoaoldcmaaA5
import Derived.Test.YtcjhhnoaoldcmaaB3
set_option linter.unusedVariables false
set_option linter.unusedSimpArgs false
namespace Go.C36
open Go Go.Xe Go.Sx
open Go Go.Xe Go.Sx
structure Pk (l:List Int)(k n:Int)(o:List Int):Prop where
 k0:0<=k
 k1:k<=l.length
 n0:0<=n
 sum:n+o.length=maxL (frm l)
 rg:∀x∈o,0<=x/\x<k
 eq:o++pickL (l.drop k.toNat) ((frm l).drop k.toNat) k n (lastN l o)=lis l
section
variable {l :List Int}{k n:Int}{o:List Int}
theorem Pk.start :Pk l 0 (maxL (frm l)) []:=⟨by omega,by omega,maxL_nn _,by simp,fun x h=>by simp at h,rfl⟩
variable {x:Int}
theorem lastN_snoc (hx:l[k.toNat]? =some x):lastN l (o++ [k])=some x:=by
 unfold lastN
 rw[List.getLast?_concat];exact hx
theorem Pk.take (h:Pk l k n o)(hx:l[k.toNat]? =some x)(hf:(frm l)[k.toNat]? =some n)(hn:0<n)(hl:∀y,lastN l o=some y->y<x):Pk l (k+1) (n-1) (o++ [k]):=by
 have hlt:=(bA4.1 hx).1
 have h0:=h.k0
 refine⟨by omega,by omega,by omega,?_,fun y hy=>?_,?_⟩
 ·have:=h.sum;rw[bC8];simp;omega
 ·rcases bD8.1 hy with hy|hy
  ·have:=h.rg y hy;omega
  ·simp at hy;omega
 ·have e:=h.eq
  rw[Sx.drop_at hx,Sx.drop_at hf,pickL_cons,bC3 ⟨hn,rfl,hl⟩]at e
  rw[lastN_snoc hx,v8 h0,bB5];exact e
theorem Pk.skip {f:Int}(h:Pk l k n o)(hx:l[k.toNat]? =some x)(hf:(frm l)[k.toNat]? =some f)(hn:¬(0<n/\f=n/\ ∀y,lastN l o=some y->y<x)):Pk l (k+1) n o:=by
 have hlt:=(bA4.1 hx).1
 have h0:=h.k0
 refine⟨by omega,by omega,h.n0,h.sum,fun y hy=>by have:=h.rg y hy;omega,?_⟩
 have e:=h.eq
 rw[Sx.drop_at hx,Sx.drop_at hf,pickL_cons,bC1 hn]at e
 rw[v8 h0];exact e
theorem Pk.done (h:Pk l k n o)(hk:¬k<l.length):o=lis l/\maxL (frm l)=o.length:=by
 have e:=h.eq
 rw[bH0 (l:=l) (by omega),pickL_nil,bI5]at e
 exact⟨e,by rw[<-lis_len,e]⟩
theorem Pk.last (h:Pk l k n o)(a:0<(o.length:Int)):∃j y:Int,o[((o.length:Int)+ -1).toNat]? =some j/\0<=j/\j<k/\l[j.toNat]? =some y/\ ∀z,lastN l o=some z↔z=y:=by
 obtain⟨j,hj⟩:=Sx.get_at (T:=o) (i:=(o.length:Int)+ -1) (by omega) (by omega)
 obtain⟨h1,h2⟩:=h.rg j (bB1 hj)
 have hk:=h.k1
 obtain⟨y,hy⟩:=Sx.get_at (T:=l) (i:=j) h1 (by omega)
 refine⟨j,y,hj,h1,h2,hy,fun z=>?_⟩
 have hl:o.getLast? =some j:=by rw[List.getLast?_eq_getElem?,<-hj];congr 1;omega
 unfold lastN
 rw[hl]
 show l[j.toNat]? =some z↔z=y
 rw[hy]
 constructor
 ·intro e;exact(bC7 e).symm
 ·rintro rfl;rfl
end
open Go Go.Xe Go.Sx
structure Ou (l:List Int)(m i:Int)(f:List Int):Prop where
 i0: -1<=i
 i1:i<l.length
 fl:f.length=l.length
 fd:f.drop (i+1).toNat=frm (l.drop (i+1).toNat)
 mx:m=maxL (frm (l.drop (i+1).toNat))
structure In (l:List Int)(i k:Int)(f:List Int)(x v:Int):Prop where
 i0:0<=i
 k0:i<k
 k1:k<=l.length
 fl:f.length=l.length
 fd:f.drop (i+1).toNat=frm (l.drop (i+1).toNat)
 lx:l[i.toNat]? =some x
 fx:f[i.toNat]? =some v
 v1:1<=v
 eq:max v (1+best x (l.drop k.toNat) (f.drop k.toNat))=1+best x (l.drop (i+1).toNat) (f.drop (i+1).toNat)
section
variable {l f:List Int}{m i k x v y g:Int}
theorem Ou.start :Ou l 0 ((l.length:Int)+ -1) (List.replicate l.length 0):=by
 refine⟨by omega,by omega,by simp,?_,?_⟩
 ·rw[bH0 (by simp;omega),bH0 (by omega)];rfl
 ·rw[bH0 (by omega)];rfl
theorem In.start (h:Ou l m i f)(hi:0<=i)(hx:l[i.toNat]? =some x):In l i (i+1) (setN f i.toNat 1) x 1:=by
 have a:i.toNat<f.length:=by have:=h.fl;have:=h.i1;omega
 have b:=v8 hi
 have hd:(setN f i.toNat 1).drop (i+1).toNat=f.drop (i+1).toNat:=by rw[b,setN_drop' (by omega) (by omega)]
 refine⟨hi,by omega,by have:=h.i1;omega,by rw[setN_len a];exact h.fl,by rw[hd];exact h.fd,hx,by rw[setN_get (by omega),bC3 rfl],by omega,?_⟩
 have:=best_nn x (l.drop (i+1).toNat) ((setN f i.toNat 1).drop (i+1).toNat)
 omega
theorem In.at (h:In l i k f x v)(a:f[k.toNat]? =some g):1<=g/\g<=l.length:=by
 have hk:=h.k0
 have hi:=h.i0
 have e:(f.drop (i+1).toNat)[k.toNat-(i+1).toNat]? =some g:=by
  rw[bE0,<-a];congr 1;omega
 rw[h.fd]at e
 have:=frm_bound _ _ _ e
 rw[List.length_drop]at this
 omega
theorem In.step (h:In l i k f x v)(hy:l[k.toNat]? =some y)(a:f[k.toNat]? =some g):max v (1+if x<y then max g (best x (l.drop (k+1).toNat) (f.drop (k+1).toNat))else best x (l.drop (k+1).toNat) (f.drop (k+1).toNat))=1+best x (l.drop (i+1).toNat) (f.drop (i+1).toNat):=by
 have hk:=h.k0
 have hi:=h.i0
 rw[<-h.eq,Sx.drop_at hy,Sx.drop_at a,best_cons,v8 (k:=k) (by omega)]
theorem In.skip (h:In l i k f x v)(hy:l[k.toNat]? =some y)(a:f[k.toNat]? =some g)(hc:x<y-> ¬v<g+1):In l i (k+1) f x v:=by
 have hlt:=(bA4.1 hy).1
 have hk:=h.k0
 have hi:=h.i0
 refine⟨hi,by omega,by omega,h.fl,h.fd,h.lx,h.fx,h.v1,?_⟩
 have:=h.step hy a
 rw[<-this]
 by_cases c:x<y
 ·rw[bC3 c];have:=hc c;omega
 ·rw[bC1 c]
theorem In.take (h:In l i k f x v)(hy:l[k.toNat]? =some y)(d:f[k.toNat]? =some g)(hc:x<y)(j:v<g+1):In l i (k+1) (setN f i.toNat (g+1)) x (g+1):=by
 have hlt:=(bA4.1 hy).1
 have a:=(bA4.1 h.fx).1
 have hk:=h.k0
 have hi:=h.i0
 have e:=h.v1
 have b:(setN f i.toNat (g+1)).drop (i+1).toNat=f.drop (i+1).toNat:=setN_drop' (by omega) (by omega)
 have c:(setN f i.toNat (g+1)).drop (k+1).toNat=f.drop (k+1).toNat:=setN_drop' (by omega) (by omega)
 refine⟨hi,by omega,by omega,by rw[setN_len a];exact h.fl,by rw[b];exact h.fd,h.lx,by rw[setN_get (by omega),bC3 rfl],by omega,?_⟩
 have:=h.step hy d
 rw[b,c,<-this,bC3 hc]
 omega
theorem In.done {j:List Int}(h:In l i k f x v)(p:Ou l m i j)(hk:¬k<l.length):Ou l (max m v) (i+ -1) f:=by
 have o:=h.k1
 have hi:=h.i0
 have n:=h.k0
 have e:=h.eq
 rw[bH0 (l:=l) (i:=k.toNat) (by omega)]at e
 have b0:best x [] (f.drop k.toNat)=0:=by unfold best;rfl
 rw[b0]at e
 have q:=h.v1
 have hd:=Sx.drop_at h.lx
 have a:=Sx.drop_at h.fx
 have c:=v8 hi
 have d:(i+ -1+1).toNat=i.toNat:=by omega
 have b:f.drop i.toNat=frm (l.drop i.toNat):=by
  rw[a,hd,frm_cons,<-c,h.fd]
  rw[h.fd]at e
  congr 1;omega
 refine⟨by omega,by omega,h.fl,by rw[d];exact b,?_⟩
 rw[d,hd,frm_cons,p.mx,<-c]
 rw[h.fd]at e
 show _=max _ _
 omega
end
end Go.C36
