/- The writer of a diff: the condition of node holds.
  Conditions: none. -/
import Derived.Test.YtcjhhnoaoldcmaaGreatD5
set_option linter.unusedVariables false
set_option linter.unusedSimpArgs false
namespace Go.D
open Go Go.Xe Go.Sx
open Go.C36 (row t6 lis cLong cRlong longPre longRel rlongPre rlongRel)
theorem part_all (l:List Int):Sx.part (l.map row) 0 (ln (l.map row))=l.map row:=by
 rw[part_row,bS4,bR5,bM8 (by simp only[ln,bJ8];omega)]
theorem ins_ln_end {l:List Int}:¬((ln (l.map row)+1)+ln (Sx.part (l.map row) (ln (l.map row)) (ln (l.map row)-ln (l.map row))))<ln (l.map row)+1:=by
 have h:=ins_ln (l:=l) (k:=ln (l.map row)) (by simp only[ln];omega) (by simp only[ln,bJ8];omega)
 rwa[part_all]at h
theorem ixn_mu {L:Sx.Rows}{v k:Int}(h0:0<=k)(h:k<ln L):ixnMu [.lst L,.int v] [.int (k+1)]<ixnMu [.lst L,.int v] [.int k]:=by
 show((L.length:Int)-(k+1)).toNat<((L.length:Int)-k).toNat
 simp only[ln]at h;omega
theorem nd_mu {N M Q P T0 L0 T L T' L':Sx.Rows}{k:Int}(h0:0<=k)(h:k<ln N):ndMu [.lst N,.lst M,.lst Q,.lst P,.lst T0,.lst L0] [.int (k+1),.lst T',.lst L']<ndMu [.lst N,.lst M,.lst Q,.lst P,.lst T0,.lst L0] [.int k,.lst T,.lst L]:=by
 show((N.length:Int)-(k+1)).toNat<((N.length:Int)-k).toNat
 simp only[ln]at h;omega
theorem ah_mu {M:Sx.Rows}{k:Int}(h0:0<=k)(h:k<ln M):ahMu [.lst M] [.int (k+1)]<ahMu [.lst M] [.int k]:=by
 show((M.length:Int)-(k+1)).toNat<((M.length:Int)-k).toNat
 simp only[ln]at h;omega
section
variable {n :List Tree}{m t:List Int}{q:List Bool}{P T0 L0 L:Sx.Rows}{i v:Int}{c:Tree}
theorem node1 {N:Nat}{k j:Int}(hv:m.getD j.toNat 0=v)(hx:ixnInv [.lst (t.map row),.int v] [.int k])(hk:k<ln (t.map row))(he:¬v=t.getD k.toNat 0)(ht:t.length<=100):vcNode1 N k (t.map row) (m.map row) j:=by
 obtain⟨k0,k1,_⟩:=ixn_inv.1 hx
 simp only[vcNode1,Nd,I64,cI_row,hv]
 simp only[ln,bJ8]at hk
 exact⟨⟨by omega,by omega⟩,fun _=>⟨ixn_step hx hk he,fun _=>⟨ixn_mu k0 (by simp only[ln,bJ8];exact hk),fun _=>trivial⟩⟩⟩
theorem node2 {N : Nat} {S1 : Sx.Rows} (h : ND n m q P.length T0.length L0 i t L) (hc : n[i.toNat]? = some c) (hv : m[i.toNat]? = some v) (hb : q[i.toNat]? = some true) (hm : m.length = q.length) (hn : 0 ≤ v) (hl : S1.length ≤ 100 * c.size) (hS : SOK 1 6 (P.length + 1) S1) (h16 : n.length ≤ 16) :
  vcNode2 N i (t.map row) (L++S1) (rows n) (m.map row) (q.map brow) P T0 L0 L:=by
 have h2:=nd_stay h hc hv hb hm hn hl hS
 have hi:=(bI2.1 hc).1
 have h0:=h.1
 simp only[vcNode2,Nd,Nr,Ni,I64,bP9,bN5,bO7,bM3]
 exact⟨⟨by omega,by omega⟩,fun _=>⟨nd_inv.2 ⟨t,rfl,h2⟩,fun _=>⟨nd_mu h0 (by simp only[ln,bJ8];omega),fun _=>trivial⟩⟩⟩
theorem stay_mem {k:Int}(hm:OKm m)(hi:m[i.toNat]? =some v)(hb:(stayM m)[i.toNat]? =some false)(hk:(stayM m)[k.toNat]? =some true):∃x,m[k.toNat]? =some x/\x∈pl m/\x≠v:=by
 obtain⟨x,h1,h2⟩:=stay_true hk
 refine⟨x,h1,mem_pl.2 ⟨bI9 h1,h2⟩,okm_ne hm h1 hi h2 fun e=>?_⟩
 rw[e,hb]at hk;cases hk
theorem node3 {N : Nat} {S1 : Sx.Rows} {a : Int} (hok : OKm m) (hq : q = stayM m) (h : ND n m q P.length T0.length L0 i t L) (hc : n[i.toNat]? = some c) (hv : m[i.toNat]? = some v) (hb : q[i.toNat]? = some false) (hm : m.length = q.length) (hnm : m.length = n.length) (hn : 0 ≤ v) (hl : S1.length ≤ 100 * c.size) (hS : SOK 1 6 (P.length + 1) S1)
  (h16:n.length<=16) (ha:0<=a) (ha2:a<(t.length:Int)) (hta:v=t.getD a.toNat 0) (ht:t.length<=100) (hP:P.length<=1000) (hL:(L++S1).length<=100000):vcNode3 N a (t.map row) i (m.map row) (q.map brow) (L++S1) P (rows n) T0 L0 L:=by
 have hi:=(bI2.1 hc).1
 have h0:=h.1
 have hd:=del_len ha ha2
 have hvD:m.getD i.toNat 0=v:=by rw[bL0,hv];rfl
 unfold vcNode3
 rw[del_row ha ha2,del_ln ha ha2,del_ln' ha ha2]
 simp only[Nd,Nr,Ni,I64,cI_row,cB_row,hvD,ahInv,putPre,putRel,forall_eq,bP9,bN5,bO7,bM3]
 generalize ed:del t a=d at*
 have hdl:ln (d.map row)=(d.length:Int):=by simp[ln]
 have hml:ln (m.map row)=(m.length:Int):=by simp[ln]
 have hql:ln (q.map brow)=(q.length:Int):=by simp[ln]
 have htl:ln (t.map row)=(t.length:Int):=by simp[ln]
 have G:∀b l,0<=b->b<=ln (d.map row)->ndInv [.lst (rows n),.lst (m.map row),.lst (q.map brow),.lst P,.lst T0,.lst L0] [.int (i+1),.lst (Sx.part ((Sx.part (d.map row) 0 b++Sx.chunk 1 1 [.int v])++Sx.part (d.map row) b (ln (d.map row)-b)) 0 (ln (d.map row)+1)),.lst ((L++S1)++ [.int 6:: .lst P::l])]:=fun b l b0 b1=>by
  rw[ins_row b0 (by omega),<-ed]
  exact nd_inv.2 ⟨_,rfl,nd_move h hc hv hb hm hn hl hS ha ha2 hta⟩
 have M:∀ {T' L':Sx.Rows},ndMu [.lst (rows n),.lst (m.map row),.lst (q.map brow),.lst P,.lst T0,.lst L0] [.int (i+1),.lst T',.lst L']<ndMu [.lst (rows n),.lst (m.map row),.lst (q.map brow),.lst P,.lst T0,.lst L0] [.int i,.lst (t.map row),.lst L]:=nd_mu h0 (by simp only[ln,bJ8];omega)
 have IL:∀b,0<=b->b<=ln (d.map row)-> ¬((ln (Sx.part (d.map row) 0 b)+1)+ln (Sx.part (d.map row) b (ln (d.map row)-b)))<ln (d.map row)+1:=fun b b0 b1=>ins_ln b0 (by omega)
 refine⟨⟨by omega,by omega⟩,fun _=>⟨by omega,fun _=>⟨by omega,fun _=>⟨by omega,fun _=>⟨by omega,fun _=>⟨by omega,fun _ k hk=>⟨fun hkm=>⟨by omega,fun _=>⟨by omega,fun _=>⟨fun hq1=>?_,fun _=>?_⟩⟩⟩,fun hkm=>?_⟩⟩⟩⟩⟩⟩⟩
 ·refine⟨by omega,fun _=>⟨hkm,fun _=>⟨ixn_0 _ _,fun _ b hx=>?_⟩⟩⟩
  obtain⟨b0,b1,_⟩:=ixn_inv.1 hx
  refine⟨fun hbd=>⟨by omega,fun _=>⟨hbd,fun _=>⟨hbd,fun _=>⟨fun e=>?_,fun e=>?_⟩⟩⟩⟩,fun hbd=>?_⟩
  ·have G1:=fun l=>G b l b0 (by omega)
   have I1:=IL b b0 (by omega)
   repeat' with_reducible first|exact trivial|exact G1 _|exact I1|exact M|exact hP|exact hL|omega| (refine bK7 ?_ ?_)|intro _
  ·exact⟨⟨by omega,by omega⟩,fun _=>⟨ixn_step hx (by omega) e,fun _=>⟨ixn_mu b0 hbd,fun _=>trivial⟩⟩⟩
  ·have hk1:q[k.toNat]? =some true:=by rw[<-hq1];exact getD_at hk (by omega)
   subst hq
   obtain⟨x,e1,e2,e3⟩:=stay_mem hok hv hb hk1
   have e4:m.getD k.toNat 0=x:=by rw[bL0,e1];rfl
   rw[e4]at hx
   refine absurd ?_ (ixn_none hx (by omega))
   rw[<-ed]
   exact mem_del ha ha2 (h.2.2.2.1 x e2) (fun c=>e3 (c.trans hta.symm))
 ·exact⟨⟨by omega,by omega⟩,fun _=>⟨by omega,fun _=>⟨ah_mu hk hkm,fun _=>trivial⟩⟩⟩
 ·have G1:=fun l=>G (ln (d.map row)) l (by omega) (by omega)
  have I1:=IL (ln (d.map row)) (by omega) (by omega)
  repeat' with_reducible first|exact trivial|exact G1 _|exact I1|exact M|exact hP|exact hL|omega| (refine bK7 ?_ ?_)|intro _
end
end Go.D
