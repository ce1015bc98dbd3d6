/- The definition's longest rising subsequence: the condition holds.
  Conditions: none. -/
import Derived.Test.YtcjhhnoaoldcmaaGreatB5
set_option linter.unusedVariables false
set_option linter.unusedSimpArgs false
namespace Go.C36
open Go Go.Xe Go.Sx
structure Ou (l:List Int)(m i:Int)(f:List Int):Prop where
 i0: -1<=i
 i1:i<l.length
 fl:f.length=l.length
 fd:f.drop (i+1).toNat=frm (l.drop (i+1).toNat)
 mx:m=maxL (frm (l.drop (i+1).toNat))
structure In (l:List Int)(i k:Int)(f:List Int)(x v:Int):Prop where
 i0:0<=i
 k0:i<k
 k1:k<=l.length
 fl:f.length=l.length
 fd:f.drop (i+1).toNat=frm (l.drop (i+1).toNat)
 lx:l[i.toNat]? =some x
 fx:f[i.toNat]? =some v
 v1:1<=v
 eq:max v (1+best x (l.drop k.toNat) (f.drop k.toNat))=1+best x (l.drop (i+1).toNat) (f.drop (i+1).toNat)
section
variable {l f:List Int}{m i k x v y g:Int}
theorem ou_of (h:Ou l m i f):outInv [.lst (l.map row)] [.int m,.int i,.lst (f.map row)]:=by
 simp only[outInv,nums_map,bJ8]
 exact⟨h.i0,h.i1,f,rfl,h.fl,h.fd,h.mx⟩
theorem ou_get {F:Sx.Rows}(h:outInv [.lst (l.map row)] [.int m,.int i,.lst F]):∃f:List Int,F=f.map row/\Ou l m i f:=by
 simp only[outInv,nums_map,bJ8]at h
 obtain⟨h1,h2,f,h3,h4,h5,h6⟩:=h
 exact⟨f,h3,h1,h2,h4,h5,h6⟩
theorem ou_mu (hi:0<=i)(A a b c d:Dat)(X:List Dat):outMu X [a,.int (i+ -1),c]<outMu X [b,.int i,d]:=by
 simp only[outMu]
 omega
theorem in_of (h:In l i k f x v):innInv [.lst (l.map row),.int i] [.int k,.lst (f.map row)]:=by
 simp only[innInv,nums_map,bJ8]
 exact⟨h.i0,h.k0,h.k1,f,x,v,rfl,h.fl,h.fd,h.lx,h.fx,h.v1,h.eq⟩
theorem in_get {F:Sx.Rows}(h:innInv [.lst (l.map row),.int i] [.int k,.lst F]):∃(f:List Int) (x v:Int),F=f.map row/\In l i k f x v:=by
 simp only[innInv,nums_map,bJ8]at h
 obtain⟨h1,h2,h3,f,x,v,h4,h5,h6,h7,h8,h9,h10⟩:=h
 exact⟨f,x,v,h4,h1,h2,h3,h5,h6,h7,h8,h9,h10⟩
theorem in_mu {I:Dat}(hk:k<l.length)(a b:List Dat):innMu [.lst (l.map row),I] (.int (k+1)::a)<innMu [.lst (l.map row),I] (.int k::b):=by
 simp only[innMu,bJ8]
 omega
theorem Ou.start :Ou l 0 ((l.length:Int)+ -1) (List.replicate l.length 0):=by
 refine⟨by omega,by omega,by simp,?_,?_⟩
 ·rw[bP0 (by simp;omega),bP0 (by omega)];rfl
 ·rw[bP0 (by omega)];rfl
theorem In.start (h:Ou l m i f)(hi:0<=i)(hx:l[i.toNat]? =some x):In l i (i+1) (setN f i.toNat 1) x 1:=by
 have hil:i.toNat<f.length:=by have:=h.fl;have:=h.i1;omega
 have e1:=z7 hi
 have hd:(setN f i.toNat 1).drop (i+1).toNat=f.drop (i+1).toNat:=by rw[e1,setN_drop' (by omega) (by omega)]
 refine⟨hi,by omega,by have:=h.i1;omega,by rw[setN_len hil];exact h.fl,by rw[hd];exact h.fd,hx,by rw[setN_get (by omega),bK1 rfl],by omega,?_⟩
 have:=best_nn x (l.drop (i+1).toNat) ((setN f i.toNat 1).drop (i+1).toNat)
 omega
theorem In.at (h:In l i k f x v)(hg:f[k.toNat]? =some g):1<=g/\g<=l.length:=by
 have hk:=h.k0
 have hi:=h.i0
 have e:(f.drop (i+1).toNat)[k.toNat-(i+1).toNat]? =some g:=by
  rw[bL8,<-hg];congr 1;omega
 rw[h.fd]at e
 have:=frm_bound _ _ _ e
 rw[bN1]at this
 omega
theorem In.step (h:In l i k f x v)(hy:l[k.toNat]? =some y)(hg:f[k.toNat]? =some g):max v (1+if x<y then max g (best x (l.drop (k+1).toNat) (f.drop (k+1).toNat))else best x (l.drop (k+1).toNat) (f.drop (k+1).toNat))=1+best x (l.drop (i+1).toNat) (f.drop (i+1).toNat):=by
 have hk:=h.k0
 have hi:=h.i0
 rw[<-h.eq,Sx.drop_at hy,Sx.drop_at hg,best_cons,z7 (k:=k) (by omega)]
theorem In.skip (h:In l i k f x v)(hy:l[k.toNat]? =some y)(hg:f[k.toNat]? =some g)(hc:x<y-> ¬v<g+1):In l i (k+1) f x v:=by
 have hlt:=(bI2.1 hy).1
 have hk:=h.k0
 have hi:=h.i0
 refine⟨hi,by omega,by omega,h.fl,h.fd,h.lx,h.fx,h.v1,?_⟩
 have:=h.step hy hg
 rw[<-this]
 by_cases c:x<y
 ·rw[bK1 c];have:=hc c;omega
 ·rw[bJ9 c]
theorem In.take (h:In l i k f x v)(hy:l[k.toNat]? =some y)(hg:f[k.toNat]? =some g)(hc:x<y)(hv:v<g+1):In l i (k+1) (setN f i.toNat (g+1)) x (g+1):=by
 have hlt:=(bI2.1 hy).1
 have hil:=(bI2.1 h.fx).1
 have hk:=h.k0
 have hi:=h.i0
 have hv1:=h.v1
 have d1:(setN f i.toNat (g+1)).drop (i+1).toNat=f.drop (i+1).toNat:=setN_drop' (by omega) (by omega)
 have d2:(setN f i.toNat (g+1)).drop (k+1).toNat=f.drop (k+1).toNat:=setN_drop' (by omega) (by omega)
 refine⟨hi,by omega,by omega,by rw[setN_len hil];exact h.fl,by rw[d1];exact h.fd,h.lx,by rw[setN_get (by omega),bK1 rfl],by omega,?_⟩
 have:=h.step hy hg
 rw[d1,d2,<-this,bK1 hc]
 omega
theorem In.done {g':List Int}(h:In l i k f x v)(ho:Ou l m i g')(hk:¬k<l.length):Ou l (max m v) (i+ -1) f:=by
 have hk1:=h.k1
 have hi:=h.i0
 have hi1:=h.k0
 have e:=h.eq
 rw[bP0 (l:=l) (i:=k.toNat) (by omega)]at e
 have b0:best x [] (f.drop k.toNat)=0:=by unfold best;rfl
 rw[b0]at e
 have hv1:=h.v1
 have hd:=Sx.drop_at h.lx
 have hfd:=Sx.drop_at h.fx
 have e1:=z7 hi
 have ei:(i+ -1+1).toNat=i.toNat:=by omega
 have hfr:f.drop i.toNat=frm (l.drop i.toNat):=by
  rw[hfd,hd,frm_cons,<-e1,h.fd]
  rw[h.fd]at e
  congr 1;omega
 refine⟨by omega,by omega,h.fl,by rw[ei];exact hfr,?_⟩
 rw[ei,hd,frm_cons,ho.mx,<-e1]
 rw[h.fd]at e
 show _=max _ _
 omega
end
theorem rp_of {l o:List Int}{k m n:Int}(h:Pk l k n o)(hn:n=m-o.length)(hm:m=maxL (frm l)):rpInv [.lst (l.map row),.lst ((frm l).map row),.int m] [.int k,.lst (o.map row)]:=by
 refine⟨by rw[nums_map];exact hm,?_⟩
 rw[bJ8,<-hn];exact pk_of h
theorem vcRlong_ok :vcRlong:=by
 unfold vcRlong vcRlong0 vcRlong1 vcRlong2
 simp only[Nd,Nr,Ni,ln,I64,cI,cS,cB,cL]
 rintro _ ⟨l,rfl,hl⟩
 simp only[rlongRel,rep_row,bJ8,List.length_replicate,bM0,nums_map,bP9,bN5,bO7,bM3,bP2,A3,A0,bO2]
 repeat (refine bK7 (by omega) fun _=>?_)
 have hs:Sx.part ((List.replicate l.length 0).map row) 0 l.length=(List.replicate l.length 0).map row:=part_row (by simp)
 rw[hs]
 refine bK7 (ou_of Ou.start) fun _ m i F hi=>?_
 obtain⟨f,rfl,hO⟩:=ou_get hi
 have i0:=hO.i0
 have i1:=hO.i1
 have fl:=hO.fl
 simp only[bJ8,bP9,bN5,bO7,bM3]
 refine bK7 (fun hi=>?_) fun hi=>?_
 ·have e0:(i+1).toNat=0:=by omega
  have hf:f=frm l:=by have:=hO.fd;rw[e0]at this;exact this
  have hm:m=maxL (frm l):=by have:=hO.mx;rw[e0]at this;exact this
  subst hf
  subst hm
  refine bK7 (rp_of (o:=[]) Pk.start (by simp) rfl) fun _ k O hi=>?_
  obtain⟨_,hi⟩:=hi
  obtain⟨o,rfl,hP⟩:=pk_get hi
  have hF:=maxF_le l
  rw[bJ8]at hP
  have hk0:=hP.k0
  have hn0:=hP.n0
  have mu:∀a b,k<l.length->rpMu [.lst (l.map row),.lst ((frm l).map row),.int (maxL (frm l))] [.int (k+1),a]<rpMu [.lst (l.map row),.lst ((frm l).map row),.int (maxL (frm l))] [.int k,b]:=fun a b h=>by simp only[rpMu,bJ8];omega
  generalize hM:maxL (frm l)=M at*
  simp only[bJ8,frm_len,bP9,bN5,bO7,bM3]
  refine bK7 (fun hk=>?_) fun hk=>by rw[(hP.done hk).1]
  obtain⟨x,hx⟩:=Sx.get_at (T:=l) (i:=k) hk0 hk
  obtain⟨g,hg⟩:=Sx.get_at (T:=frm l) (i:=k) hk0 (by rw[frm_len];exact hk)
  have hb:=frm_bound l _ g hg
  have mu:=fun a b=>mu a b hk
  simp only[i7 hx,i7 hg,row0,f9,map_app_row]
  have hol:o.length<=l.length:=by omega
  have sk:¬(0<M-o.length/\g=M-o.length/\ ∀y,lastN l o=some y->y<x)->rpInv [.lst (l.map row),.lst ((frm l).map row),.int M] [.int (k+1),.lst (o.map row)]:=fun h=>rp_of (hP.skip hx hg h) rfl hM.symm
  have tk:g=M-o.length->(∀y,lastN l o=some y->y<x)->rpInv [.lst (l.map row),.lst ((frm l).map row),.int M] [.int (k+1),.lst ((o++ [k]).map row)]:=fun h h2=>rp_of (hP.take hx (by rw[<-h];exact hg) (by omega) h2) (by simp;omega) hM.symm
  repeat (refine bK7 (by omega) fun _=>?_)
  refine bK7 (fun hgn=>?_) fun hgn=>?_
  ·refine bK7 (fun ho=>?_) fun ho=>?_
   ·have ho':=lastN_nil (o:=o) (by omega)
    have tk:=tk hgn fun z hz=>by rw[ho']at hz;cases hz
    have sk:¬(o.length:Int)<M->_:=fun h=>sk fun c=>h (by omega)
    repeat' first
     |with_reducible exact tk
     |exact sk ‹_›
     | (with_reducible refine bK7 ?_ ?_)
     |intro _
     |omega
     |with_reducible exact mu _ _
   ·obtain⟨j,y,g1,g2,g3,g4,g5⟩:=hP.last (by omega)
    simp only[i7 g1,i7 g4,row0,f9,bO7,bM3]
    repeat (refine bK7 (by omega) fun _=>?_)
    refine bK7 (fun hy=>?_) fun hy=>?_
    ·have tk:=tk hgn fun z hz=>by rw[(g5 z).1 hz];exact hy
     have sk:¬(o.length:Int)<M->_:=fun h=>sk fun c=>h (by omega)
     repeat' first
      |with_reducible exact tk
      |exact sk ‹_›
      | (with_reducible refine bK7 ?_ ?_)
      |intro _
      |omega
      |with_reducible exact mu _ _
    ·have sk:=sk fun c=>hy (c.2.2 y ((g5 y).2 rfl))
     repeat' first
      |with_reducible exact sk
      | (with_reducible refine bK7 ?_ ?_)
      |intro _
      |omega
      |with_reducible exact mu _ _
  ·have sk:=sk fun c=>hgn c.2.1
   repeat' first
    |with_reducible exact sk
    | (with_reducible refine bK7 ?_ ?_)
    |intro _
    |omega
    |with_reducible exact mu _ _
 ·obtain⟨x,hx⟩:=Sx.get_at (T:=l) (i:=i) (by omega) i1
  have hil:i.toNat<f.length:=by omega
  have so:Sx.part (Sx.over (f.map row) i (chunk 1 1 [.int 1])) 0 f.length=(setN f i.toNat 1).map row:=by rw[over_row,part_row (by rw[setN_len hil])]
  have sl:((Sx.over (f.map row) i (chunk 1 1 [.int 1])).length:Int)=f.length:=by rw[over_row,bJ8,setN_len hil]
  simp only[so,sl,i7 hx,row0,f9,bP9,bN5,bO7,bM3]
  repeat (refine bK7 (by omega) fun _=>?_)
  refine bK7 (in_of (In.start hO (by omega) hx)) fun _ k F' hi'=>?_
  obtain⟨f',x',v,rfl,hI⟩:=in_get hi'
  have hx':=hI.lx
  rw[hx]at hx'
  cases hx'
  have k0:=hI.k0
  have fl':=hI.fl
  have hil':i.toNat<f'.length:=by omega
  have hv:=hI.fx
  simp only[bJ8,bP9,bN5,bO7,bM3]
  refine bK7 (fun hk=>?_) fun hk=>?_
  ·obtain⟨y,hy⟩:=Sx.get_at (T:=l) (i:=k) (by omega) hk
   obtain⟨g,hg⟩:=Sx.get_at (T:=f') (i:=k) (by omega) (by omega)
   have hb:=hI.at hg
   have so':Sx.part (Sx.over (f'.map row) i (chunk 1 1 [.int (g+1)])) 0 f'.length=(setN f' i.toNat (g+1)).map row:=by rw[over_row,part_row (by rw[setN_len hil'])]
   have sl':((Sx.over (f'.map row) i (chunk 1 1 [.int (g+1)])).length:Int)=f'.length:=by rw[over_row,bJ8,setN_len hil']
   simp only[i7 hy,i7 hg,i7 hv,row0,f9,so',sl',bO7,bM3]
   repeat (refine bK7 (by omega) fun _=>?_)
   refine bK7 (fun hxy=>?_) fun hxy=>?_
   ·repeat (refine bK7 (by omega) fun _=>?_)
    refine bK7 (fun hvg=>?_) fun hvg=>?_
    ·have tk:=in_of (hI.take hy hg hxy hvg)
     repeat' first
      |with_reducible exact tk
      | (with_reducible refine bK7 ?_ ?_)
      |intro _
      |omega
      |with_reducible exact in_mu hk _ _
    ·have sk:=in_of (hI.skip hy hg fun _=>hvg)
     repeat' first
      |with_reducible exact sk
      | (with_reducible refine bK7 ?_ ?_)
      |intro _
      |omega
      |with_reducible exact in_mu hk _ _
   ·have sk:=in_of (hI.skip hy hg fun c=>absurd c hxy)
    repeat' first
     |with_reducible exact sk
     | (with_reducible refine bK7 ?_ ?_)
     |intro _
     |omega
     |with_reducible exact in_mu hk _ _
  ·have dn:=hI.done hO hk
   simp only[i7 hv,row0,f9]
   repeat (refine bK7 (by omega) fun _=>?_)
   have d1:m<v->outInv [.lst (l.map row)] [.int v,.int (i+ -1),.lst (f'.map row)]:=fun h=>by rw[show max m v=v by omega]at dn;exact ou_of dn
   have d2:¬m<v->outInv [.lst (l.map row)] [.int m,.int (i+ -1),.lst (f'.map row)]:=fun h=>by rw[show max m v=m by omega]at dn;exact ou_of dn
   refine bK7 (fun hy=>?_) fun hy=>?_
   ·have d1:=d1 hy
    repeat' first
     |with_reducible exact d1
     | (with_reducible refine bK7 ?_ ?_)
     |intro _
     |omega
     |exact ou_mu (by omega) (.int 0) _ _ _ _ _
   ·have d2:=d2 hy
    repeat' first
     |with_reducible exact d2
     | (with_reducible refine bK7 ?_ ?_)
     |intro _
     |omega
     |exact ou_mu (by omega) (.int 0) _ _ _ _ _
end Go.C36
