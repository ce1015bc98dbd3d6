/- The definition's longest rising subsequence: the condition holds.
  Conditions: none. -/
import Derived.Test.YtcjhhnoaoldcmaaGreatB5
set_option linter.unusedVariables false
set_option linter.unusedSimpArgs false
namespace Go.C36
open Go Go.Xe Go.Sx
structure Ou (l:List Int)(m i:Int)(f:List Int):Prop where
 i0: -1<=i
 i1:i<l.length
 fl:f.length=l.length
 fd:f.drop (i+1).toNat=frm (l.drop (i+1).toNat)
 mx:m=maxL (frm (l.drop (i+1).toNat))
structure In (l:List Int)(i k:Int)(f:List Int)(x v:Int):Prop where
 i0:0<=i
 k0:i<k
 k1:k<=l.length
 fl:f.length=l.length
 fd:f.drop (i+1).toNat=frm (l.drop (i+1).toNat)
 lx:l[i.toNat]? =some x
 fx:f[i.toNat]? =some v
 v1:1<=v
 eq:max v (1+best x (l.drop k.toNat) (f.drop k.toNat))=1+best x (l.drop (i+1).toNat) (f.drop (i+1).toNat)
section
variable {l f:List Int}{m i k x v y g:Int}
theorem ou_of (h:Ou l m i f):outInv [.lst (l.map row)] [.int m,.int i,.lst (f.map row)]:=by
 simp only[outInv,nums_map,bH0]
 exact⟨h.i0,h.i1,f,rfl,h.fl,h.fd,h.mx⟩
variable {F:Sx.Rows}
theorem ou_get (h:outInv [.lst (l.map row)] [.int m,.int i,.lst F]):∃f:List Int,F=f.map row/\Ou l m i f:=by
 simp only[outInv,nums_map,bH0]at h
 obtain⟨h1,h2,f,h3,h4,a,b⟩:=h
 exact⟨f,h3,h1,h2,h4,a,b⟩
theorem ou_mu (hi:0<=i)(A a b c d:Dat)(X:List Dat):outMu X [a,.int (i+ -1),c]<outMu X [b,.int i,d]:=by
 simp only[outMu]
 omega
theorem in_of (h:In l i k f x v):innInv [.lst (l.map row),.int i] [.int k,.lst (f.map row)]:=by
 simp only[innInv,nums_map,bH0]
 exact⟨h.i0,h.k0,h.k1,f,x,v,rfl,h.fl,h.fd,h.lx,h.fx,h.v1,h.eq⟩
theorem in_get (h:innInv [.lst (l.map row),.int i] [.int k,.lst F]):∃(f:List Int) (x v:Int),F=f.map row/\In l i k f x v:=by
 simp only[innInv,nums_map,bH0]at h
 obtain⟨h1,h2,h3,f,x,v,h4,b,c,d,e,j,a⟩:=h
 exact⟨f,x,v,h4,h1,h2,h3,b,c,d,e,j,a⟩
theorem in_mu {I:Dat}(hk:k<l.length)(a b:List Dat):innMu [.lst (l.map row),I] (.int (k+1)::a)<innMu [.lst (l.map row),I] (.int k::b):=by
 simp only[innMu,bH0]
 omega
theorem Ou.start :Ou l 0 ((l.length:Int)+ -1) (List.replicate l.length 0):=by
 refine⟨by omega,by omega,by simp,?_,?_⟩
 ·rw[bM2 (by simp;omega),bM2 (by omega)];rfl
 ·rw[bM2 (by omega)];rfl
theorem In.start (h:Ou l m i f)(hi:0<=i)(hx:l[i.toNat]? =some x):In l i (i+1) (setN f i.toNat 1) x 1:=by
 have a:i.toNat<f.length:=by have:=h.fl;have:=h.i1;omega
 have b:=j8 hi
 have c:(setN f i.toNat 1).drop (i+1).toNat=f.drop (i+1).toNat:=by rw[b,setN_drop' (by omega) (by omega)]
 refine⟨hi,by omega,by have:=h.i1;omega,by rw[setN_len a];exact h.fl,by rw[c];exact h.fd,hx,by rw[setN_get (by omega),bH3 rfl],by omega,?_⟩
 have:=best_nn x (l.drop (i+1).toNat) ((setN f i.toNat 1).drop (i+1).toNat)
 omega
theorem In.at (h:In l i k f x v)(a:f[k.toNat]? =some g):1<=g/\g<=l.length:=by
 have hk:=h.k0
 have hi:=h.i0
 have e:(f.drop (i+1).toNat)[k.toNat-(i+1).toNat]? =some g:=by
  rw[bJ0,<-a];congr 1;omega
 rw[h.fd]at e
 have:=frm_bound _ _ _ e
 rw[bK3]at this
 omega
theorem In.step (h:In l i k f x v)(hy:l[k.toNat]? =some y)(a:f[k.toNat]? =some g):max v (1+if x<y then max g (best x (l.drop (k+1).toNat) (f.drop (k+1).toNat))else best x (l.drop (k+1).toNat) (f.drop (k+1).toNat))=1+best x (l.drop (i+1).toNat) (f.drop (i+1).toNat):=by
 have hk:=h.k0
 have hi:=h.i0
 rw[<-h.eq,Sx.drop_at hy,Sx.drop_at a,best_cons,j8 (k:=k) (by omega)]
theorem In.skip (h:In l i k f x v)(hy:l[k.toNat]? =some y)(a:f[k.toNat]? =some g)(hc:x<y-> ¬v<g+1):In l i (k+1) f x v:=by
 have hlt:=(bF4.1 hy).1
 have hk:=h.k0
 have hi:=h.i0
 refine⟨hi,by omega,by omega,h.fl,h.fd,h.lx,h.fx,h.v1,?_⟩
 have:=h.step hy a
 rw[<-this]
 by_cases c:x<y
 ·rw[bH3 c];have:=hc c;omega
 ·rw[bH1 c]
theorem In.take (h:In l i k f x v)(hy:l[k.toNat]? =some y)(d:f[k.toNat]? =some g)(hc:x<y)(j:v<g+1):In l i (k+1) (setN f i.toNat (g+1)) x (g+1):=by
 have hlt:=(bF4.1 hy).1
 have a:=(bF4.1 h.fx).1
 have hk:=h.k0
 have hi:=h.i0
 have e:=h.v1
 have b:(setN f i.toNat (g+1)).drop (i+1).toNat=f.drop (i+1).toNat:=setN_drop' (by omega) (by omega)
 have c:(setN f i.toNat (g+1)).drop (k+1).toNat=f.drop (k+1).toNat:=setN_drop' (by omega) (by omega)
 refine⟨hi,by omega,by omega,by rw[setN_len a];exact h.fl,by rw[b];exact h.fd,h.lx,by rw[setN_get (by omega),bH3 rfl],by omega,?_⟩
 have:=h.step hy d
 rw[b,c,<-this,bH3 hc]
 omega
theorem In.done {n:List Int}(h:In l i k f x v)(q:Ou l m i n)(hk:¬k<l.length):Ou l (max m v) (i+ -1) f:=by
 have p:=h.k1
 have hi:=h.i0
 have o:=h.k0
 have e:=h.eq
 rw[bM2 (l:=l) (i:=k.toNat) (by omega)]at e
 have b0:best x [] (f.drop k.toNat)=0:=by unfold best;rfl
 rw[b0]at e
 have r:=h.v1
 have j:=Sx.drop_at h.lx
 have a:=Sx.drop_at h.fx
 have c:=j8 hi
 have d:(i+ -1+1).toNat=i.toNat:=by omega
 have b:f.drop i.toNat=frm (l.drop i.toNat):=by
  rw[a,j,frm_cons,<-c,h.fd]
  rw[h.fd]at e
  congr 1;omega
 refine⟨by omega,by omega,h.fl,by rw[d];exact b,?_⟩
 rw[d,j,frm_cons,q.mx,<-c]
 rw[h.fd]at e
 show _=max _ _
 omega
end
theorem rp_of {l o:List Int}{k m n:Int}(h:Pk l k n o)(hn:n=m-o.length)(hm:m=maxL (frm l)):rpInv [.lst (l.map row),.lst ((frm l).map row),.int m] [.int k,.lst (o.map row)]:=by
 refine⟨by rw[nums_map];exact hm,?_⟩
 rw[bH0,<-hn];exact pk_of h
theorem vcRlong_ok :vcRlong:=by
 unfold vcRlong vcRlong0 vcRlong1 vcRlong2
 simp only[Nd,Nr,Ni,ln,I64,cI,cS,cB,cL]
 rintro _ ⟨l,rfl,hl⟩
 simp only[rlongRel,rep_row,bH0,List.length_replicate,bJ2,nums_map,bN1,bK7,bL9,bJ5,bM4,u6,u5,bL4]
 repeat (refine bH9 (by omega) fun _=>?_)
 have hs:Sx.part ((List.replicate l.length 0).map row) 0 l.length=(List.replicate l.length 0).map row:=part_row (by simp)
 rw[hs]
 refine bH9 (ou_of Ou.start) fun _ m i F hi=>?_
 obtain⟨f,rfl,s⟩:=ou_get hi
 have i0:=s.i0
 have i1:=s.i1
 have fl:=s.fl
 simp only[bH0,bN1,bK7,bL9,bJ5]
 refine bH9 (fun hi=>?_) fun hi=>?_
 ·have e0:(i+1).toNat=0:=by omega
  have hf:f=frm l:=by have:=s.fd;rw[e0]at this;exact this
  have hm:m=maxL (frm l):=by have:=s.mx;rw[e0]at this;exact this
  subst hf
  subst hm
  refine bH9 (rp_of (o:=[]) Pk.start (by simp) rfl) fun _ k O hi=>?_
  obtain⟨_,hi⟩:=hi
  obtain⟨o,rfl,t⟩:=pk_get hi
  have hF:=maxF_le l
  rw[bH0]at t
  have B:=t.k0
  have R:=t.n0
  have mu:∀a b,k<l.length->rpMu [.lst (l.map row),.lst ((frm l).map row),.int (maxL (frm l))] [.int (k+1),a]<rpMu [.lst (l.map row),.lst ((frm l).map row),.int (maxL (frm l))] [.int k,b]:=fun a b h=>by simp only[rpMu,bH0];omega
  generalize hM:maxL (frm l)=M at*
  simp only[bH0,frm_len,bN1,bK7,bL9,bJ5]
  refine bH9 (fun hk=>?_) fun hk=>by rw[(t.done hk).1]
  obtain⟨x,hx⟩:=Sx.get_at (T:=l) (i:=k) B hk
  obtain⟨g,e⟩:=Sx.get_at (T:=frm l) (i:=k) B (by rw[frm_len];exact hk)
  have hb:=frm_bound l _ g e
  have mu:=fun a b=>mu a b hk
  simp only[e9 hx,e9 e,row0,i5,map_app_row]
  have U:o.length<=l.length:=by omega
  have d:¬(0<M-o.length/\g=M-o.length/\ ∀y,lastN l o=some y->y<x)->rpInv [.lst (l.map row),.lst ((frm l).map row),.int M] [.int (k+1),.lst (o.map row)]:=fun h=>rp_of (t.skip hx e h) rfl hM.symm
  have tk:g=M-o.length->(∀y,lastN l o=some y->y<x)->rpInv [.lst (l.map row),.lst ((frm l).map row),.int M] [.int (k+1),.lst ((o++ [k]).map row)]:=fun h h2=>rp_of (t.take hx (by rw[<-h];exact e) (by omega) h2) (by simp;omega) hM.symm
  repeat (refine bH9 (by omega) fun _=>?_)
  refine bH9 (fun q=>?_) fun q=>?_
  ·refine bH9 (fun S=>?_) fun S=>?_
   ·have I:=lastN_nil (o:=o) (by omega)
    have tk:=tk q fun z hz=>by rw[I]at hz;cases hz
    have d:¬(o.length:Int)<M->_:=fun h=>d fun c=>h (by omega)
    repeat' first
     |with_reducible exact tk
     |exact d ‹_›
     | (with_reducible refine bH9 ?_ ?_)
     |intro _
     |omega
     |with_reducible exact mu _ _
   ·obtain⟨j,y,P,V,W,Q,K⟩:=t.last (by omega)
    simp only[e9 P,e9 Q,row0,i5,bL9,bJ5]
    repeat (refine bH9 (by omega) fun _=>?_)
    refine bH9 (fun hy=>?_) fun hy=>?_
    ·have tk:=tk q fun z hz=>by rw[(K z).1 hz];exact hy
     have d:¬(o.length:Int)<M->_:=fun h=>d fun c=>h (by omega)
     repeat' first
      |with_reducible exact tk
      |exact d ‹_›
      | (with_reducible refine bH9 ?_ ?_)
      |intro _
      |omega
      |with_reducible exact mu _ _
    ·have d:=d fun c=>hy (c.2.2 y ((K y).2 rfl))
     repeat' first
      |with_reducible exact d
      | (with_reducible refine bH9 ?_ ?_)
      |intro _
      |omega
      |with_reducible exact mu _ _
  ·have d:=d fun c=>q c.2.1
   repeat' first
    |with_reducible exact d
    | (with_reducible refine bH9 ?_ ?_)
    |intro _
    |omega
    |with_reducible exact mu _ _
 ·obtain⟨x,hx⟩:=Sx.get_at (T:=l) (i:=i) (by omega) i1
  have A:i.toNat<f.length:=by omega
  have so:Sx.part (Sx.over (f.map row) i (chunk 1 1 [.int 1])) 0 f.length=(setN f i.toNat 1).map row:=by rw[over_row,part_row (by rw[setN_len A])]
  have sl:((Sx.over (f.map row) i (chunk 1 1 [.int 1])).length:Int)=f.length:=by rw[over_row,bH0,setN_len A]
  simp only[so,sl,e9 hx,row0,i5,bN1,bK7,bL9,bJ5]
  repeat (refine bH9 (by omega) fun _=>?_)
  refine bH9 (in_of (In.start s (by omega) hx)) fun _ k F' H=>?_
  obtain⟨n,x',v,rfl,p⟩:=in_get H
  have C:=p.lx
  rw[hx]at C
  cases C
  have k0:=p.k0
  have N:=p.fl
  have r:i.toNat<n.length:=by omega
  have L:=p.fx
  simp only[bH0,bN1,bK7,bL9,bJ5]
  refine bH9 (fun hk=>?_) fun hk=>?_
  ·obtain⟨y,hy⟩:=Sx.get_at (T:=l) (i:=k) (by omega) hk
   obtain⟨g,e⟩:=Sx.get_at (T:=n) (i:=k) (by omega) (by omega)
   have hb:=p.at e
   have J:Sx.part (Sx.over (n.map row) i (chunk 1 1 [.int (g+1)])) 0 n.length=(setN n i.toNat (g+1)).map row:=by rw[over_row,part_row (by rw[setN_len r])]
   have sl':((Sx.over (n.map row) i (chunk 1 1 [.int (g+1)])).length:Int)=n.length:=by rw[over_row,bH0,setN_len r]
   simp only[e9 hy,e9 e,e9 L,row0,i5,J,sl',bL9,bJ5]
   repeat (refine bH9 (by omega) fun _=>?_)
   refine bH9 (fun w=>?_) fun w=>?_
   ·repeat (refine bH9 (by omega) fun _=>?_)
    refine bH9 (fun u=>?_) fun u=>?_
    ·have tk:=in_of (p.take hy e w u)
     repeat' first
      |with_reducible exact tk
      | (with_reducible refine bH9 ?_ ?_)
      |intro _
      |omega
      |with_reducible exact in_mu hk _ _
    ·have d:=in_of (p.skip hy e fun _=>u)
     repeat' first
      |with_reducible exact d
      | (with_reducible refine bH9 ?_ ?_)
      |intro _
      |omega
      |with_reducible exact in_mu hk _ _
   ·have d:=in_of (p.skip hy e fun c=>absurd c w)
    repeat' first
     |with_reducible exact d
     | (with_reducible refine bH9 ?_ ?_)
     |intro _
     |omega
     |with_reducible exact in_mu hk _ _
  ·have D:=p.done s hk
   simp only[e9 L,row0,i5]
   repeat (refine bH9 (by omega) fun _=>?_)
   have E:m<v->outInv [.lst (l.map row)] [.int v,.int (i+ -1),.lst (n.map row)]:=fun h=>by rw[show max m v=v by omega]at D;exact ou_of D
   have G:¬m<v->outInv [.lst (l.map row)] [.int m,.int (i+ -1),.lst (n.map row)]:=fun h=>by rw[show max m v=m by omega]at D;exact ou_of D
   refine bH9 (fun hy=>?_) fun hy=>?_
   ·have E:=E hy
    repeat' first
     |with_reducible exact E
     | (with_reducible refine bH9 ?_ ?_)
     |intro _
     |omega
     |exact ou_mu (by omega) (.int 0) _ _ _ _ _
   ·have G:=G hy
    repeat' first
     |with_reducible exact G
     | (with_reducible refine bH9 ?_ ?_)
     |intro _
     |omega
     |exact ou_mu (by omega) (.int 0) _ _ _ _ _
end Go.C36
