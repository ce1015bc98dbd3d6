/- The writer of a diff: the condition of node holds.
  Conditions: none. -/
import Derived.Test.YtcjhhnoaoldcmaaGreatD5
set_option linter.unusedVariables false
set_option linter.unusedSimpArgs false
namespace Go.D
open Go Go.Xe Go.Sx
open Go.C36 (row j0 lis cLong cRlong longPre longRel rlongPre rlongRel)
theorem part_all (l:List Int):Sx.part (l.map row) 0 (ln (l.map row))=l.map row:=by
 rw[part_row,bP7,bO7,bK0 (by simp only[ln,bH0];omega)]
theorem ins_ln_end {l:List Int}:¬((ln (l.map row)+1)+ln (Sx.part (l.map row) (ln (l.map row)) (ln (l.map row)-ln (l.map row))))<ln (l.map row)+1:=by
 have h:=ins_ln (l:=l) (k:=ln (l.map row)) (by simp only[ln];omega) (by simp only[ln,bH0];omega)
 rwa[part_all]at h
variable {L:Sx.Rows}{k:Int}
theorem ixn_mu {v:Int}(h0:0<=k)(h:k<ln L):ixnMu [.lst L,.int v] [.int (k+1)]<ixnMu [.lst L,.int v] [.int k]:=by
 show((L.length:Int)-(k+1)).toNat<((L.length:Int)-k).toNat
 simp only[ln]at h;omega
theorem nd_mu {C N M Q P a L0 T d b:Sx.Rows}(h0:0<=k)(h:k<ln N):ndMu [.lst C,.lst N,.lst M,.lst Q,.lst P,.lst a,.lst L0] [.int (k+1),.lst d,.lst b]<ndMu [.lst C,.lst N,.lst M,.lst Q,.lst P,.lst a,.lst L0] [.int k,.lst T,.lst L]:=by
 show((N.length:Int)-(k+1)).toNat<((N.length:Int)-k).toNat
 simp only[ln]at h;omega
variable {q:List Bool}{i:Int}
theorem ah_mu (h:ahInv [.lst (q.map brow),.int i] [.int k])(hk:k<(q.length:Int)):ahMu [.lst (q.map brow),.int i] [.int (k+1)]<ahMu [.lst (q.map brow),.int i] [.int k]:=by
 obtain⟨h0,h1,_⟩:=ah_inv.1 h
 show(ln (q.map brow)+i+1-(k+1)).toNat<(ln (q.map brow)+i+1-k).toNat
 simp only[ln,bH0];omega
theorem ah_step (h:ahInv [.lst (q.map brow),.int i] [.int k])(hk:k<(q.length:Int))(hq:¬q.getD k.toNat false=true):ahInv [.lst (q.map brow),.int i] [.int (k+1)]:=by
 obtain⟨h0,h1,h2,h3⟩:=ah_inv.1 h
 refine ah_inv.2 ⟨h0,by omega,by omega,fun j a b=>?_⟩
 by_cases e:(j:Int)<k
 ·exact h3 j a e
 ·have:j=k.toNat:=by omega
  subst this;simpa using hq
theorem ah_0 (h:0<=i):ahInv [.lst (q.map brow),.int i] [.int (i+1)]:=ah_inv.2 ⟨h,by omega,by omega,fun j a b=>by omega⟩
section
variable {o n:List Tree}{m t t0:List Int}{q:List Bool}{P L0 L:Sx.Rows}{i v:Int}{c co:Tree}
variable {N:Nat}
theorem node1 {k j:Int}(a:m.getD j.toNat 0=v)(hx:ixnInv [.lst (t.map row),.int v] [.int k])(hk:k<ln (t.map row))(he:¬v=t.getD k.toNat 0)(ht:t.length<=100):vcNode1 N k (t.map row) (m.map row) j:=by
 obtain⟨k0,k1,_⟩:=ixn_inv.1 hx
 simp only[vcNode1,Nd,I64,cI_row,a]
 simp only[ln,bH0]at hk
 exact⟨⟨by omega,by omega⟩,fun _=>⟨ixn_step hx hk he,fun _=>⟨ixn_mu k0 (by simp only[ln,bH0];exact hk),fun _=>trivial⟩⟩⟩
variable {S1:Sx.Rows}
theorem node2   {a : Int} (h : ND o n m q P t0 L0 i t L) (hc : n[i.toNat]? = some c) ( l : m.getD i.toNat 0 = v) (hb : q.getD i.toNat false = true) (hn : 0 ≤ v) ( j : o[v.toNat]? = some co) ( e : (t.idxOf v : Nat) = a) (hl : S1.length ≤ 100 * c.size)
  (d:∀f,c.depth<=f->S1=diffN f co c (P++ [[.int a]])) (g:c.depth<=Tree.depths n) (b:n.length<=16):
  vcNode2 N i (t.map row) (L++S1) (rows o) (rows n) (m.map row) (q.map brow) P (t0.map row) L0 L:=by
 have h2:=nd_stay h hc l hb hn j e hl d g
 have hi:=(bF4.1 hc).1
 have h0:=h.1
 simp only[vcNode2,Nd,Nr,Ni,I64,bN1,bK7,bL9,bJ5]
 exact⟨⟨by omega,by omega⟩,fun _=>⟨nd_inv.2 ⟨t,rfl,h2⟩,fun _=>⟨nd_mu h0 (by simp only[ln,bH0];omega),fun _=>trivial⟩⟩⟩
theorem stay_mem {k:Int}(hm:OKm m)(hi:m[i.toNat]? =some v)(hb:(stayM m)[i.toNat]? =some false)(hk:(stayM m)[k.toNat]? =some true):∃x,m[k.toNat]? =some x/\x∈pl m/\x≠v:=by
 obtain⟨x,h1,h2⟩:=stay_true hk
 refine⟨x,h1,mem_pl.2 ⟨bG1 h1,h2⟩,okm_ne hm h1 hi h2 fun e=>?_⟩
 rw[e,hb]at hk;cases hk
theorem node3   {a : Int} (  F : OKm m) (hq : q = stayM m) (h : ND o n m q P t0 L0 i t L) (hc : n[i.toNat]? = some c) ( O : m[i.toNat]? = some v) (hb : q[i.toNat]? = some false) (hm : m.length = q.length) ( aa : m.length = n.length) (hn : 0 ≤ v) (ho : o[v.toNat]? = some co) (  B : (t.idxOf v : Nat) = a) (hl : S1.length ≤ 100 * c.size)
  (Y:∀f,c.depth<=f->S1=diffN f co c (P++ [[.int a]])) (hd1:c.depth<=Tree.depths n)
  (X:n.length<=16) (p:0<=a) (g:a<(t.length:Int)) (s:v=t.getD a.toNat 0) (ht:t.length<=100) (K:P.length<=1000) (J:(L++S1).length<=100000):vcNode3 N a (t.map row) i (q.map brow) (m.map row) (L++S1) P (rows o) (rows n) (t0.map row) L0 L:=by
 have hi:=(bF4.1 hc).1
 have h0:=h.1
 have hd:=del_len p g
 have u:m.getD i.toNat 0=v:=by rw[bI2,O];rfl
 have C:q.getD i.toNat false=false:=by rw[bI2,hb];rfl
 unfold vcNode3
 rw[del_row p g,del_ln p g,del_ln' p g]
 simp only[Nd,Nr,Ni,I64,cI_row,cB_row,u,putPre,putRel,forall_eq,bN1,bK7,bL9,bJ5]
 generalize A:del t a=d at*
 have D:ln (d.map row)=(d.length:Int):=by simp[ln]
 have Z:ln (m.map row)=(m.length:Int):=by simp[ln]
 have ab:ln (q.map brow)=(q.length:Int):=by simp[ln]
 have ac:ln (t.map row)=(t.length:Int):=by simp[ln]
 have G:∀b,0<=b->b<=ln (d.map row)->b=aheadF d (m.drop (i.toNat+1)) (q.drop (i.toNat+1))->ndInv [.lst (rows o),.lst (rows n),.lst (m.map row),.lst (q.map brow),.lst P,.lst (t0.map row),.lst L0] [.int (i+1),.lst (Sx.part ((Sx.part (d.map row) 0 b++Sx.chunk 1 1 [.int v])++Sx.part (d.map row) b (ln (d.map row)-b)) 0 (ln (d.map row)+1)),.lst ((L++S1)++ [[.int 6,.lst P,.str [],.str [],.int a,.int b,.int 0,.str [],.str [],.lst [],.str [],.lst []]])]:=fun b b0 I z=>by
  rw[ins_row b0 (by omega),<-A]
  exact nd_inv.2 ⟨_,rfl,nd_move h hc u C hn ho B hl Y hd1 p g s (A▸z)⟩
 have M:∀ {S R:Sx.Rows},ndMu [.lst (rows o),.lst (rows n),.lst (m.map row),.lst (q.map brow),.lst P,.lst (t0.map row),.lst L0] [.int (i+1),.lst S,.lst R]<ndMu [.lst (rows o),.lst (rows n),.lst (m.map row),.lst (q.map brow),.lst P,.lst (t0.map row),.lst L0] [.int i,.lst (t.map row),.lst L]:=nd_mu h0 (by simp only[ln,bH0];omega)
 have H:∀b,0<=b->b<=ln (d.map row)-> ¬((ln (Sx.part (d.map row) 0 b)+1)+ln (Sx.part (d.map row) b (ln (d.map row)-b)))<ln (d.map row)+1:=fun b b0 I=>ins_ln b0 (by omega)
 refine⟨⟨by omega,by omega⟩,fun _=>⟨by omega,fun _=>⟨by omega,fun _=>⟨by omega,fun _=>⟨by omega,fun _=>⟨ah_0 h0,fun _ k hk=>?_⟩⟩⟩⟩⟩⟩
 obtain⟨_,k1,k2,k3⟩:=ah_inv.1 hk
 refine⟨fun r=>⟨by omega,fun _=>⟨by omega,fun _=>⟨fun l=>?_,fun l=>?_⟩⟩⟩,fun r=>?_⟩
 ·refine⟨by omega,fun _=>⟨r,fun _=>⟨ixn_0 _ _,fun _ b hx=>?_⟩⟩⟩
  have Q:=ahead_at (t:=d) hm h0 k1 (by omega) k3 l
  obtain⟨b0,I,z⟩:=ixn_inv.1 hx
  refine⟨fun j=>⟨by omega,fun _=>⟨j,fun _=>⟨j,fun _=>⟨fun e=>?_,fun e=>?_⟩⟩⟩⟩,fun j=>?_⟩
  ·have w:=G b b0 (by omega) (by rw[Q];exact(idx_at b0 (by omega) e z).symm)
   have y:=H b b0 (by omega)
   repeat' with_reducible first|exact trivial|exact w|exact y|exact M|exact K|exact J|omega| (refine bH9 ?_ ?_)|intro _
  ·exact⟨⟨by omega,by omega⟩,fun _=>⟨ixn_step hx (by omega) e,fun _=>⟨ixn_mu b0 j,fun _=>trivial⟩⟩⟩
  ·have E:q[k.toNat]? =some true:=by rw[<-l];exact getD_at (by omega) (by omega)
   subst hq
   obtain⟨x,T,U,V⟩:=stay_mem F O hb E
   have W:m.getD k.toNat 0=x:=by rw[bI2,T];rfl
   rw[W]at hx
   refine absurd ?_ (ixn_none hx (by omega))
   rw[<-A]
   exact mem_del p g (h.2.2.2.1 x U) (fun c=>V (c.trans s.symm))
 ·exact⟨⟨by omega,by omega⟩,fun _=>⟨ah_step hk (by omega) l,fun _=>⟨ah_mu hk (by omega),fun _=>trivial⟩⟩⟩
 ·have w:=G (ln (d.map row)) (by omega) (by omega) (by rw[ahead_end hm h0 (by omega) (by omega) k3];exact D)
  have y:=H (ln (d.map row)) (by omega) (by omega)
  repeat' with_reducible first|exact trivial|exact w|exact y|exact M|exact K|exact J|omega| (refine bH9 ?_ ?_)|intro _
end
end Go.D
