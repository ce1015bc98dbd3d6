/- The writer of a diff: how its lists change.
  Conditions: none. -/
import Derived.Test.YtcjhhnoaoldcmaaGreatD4
set_option linter.unusedVariables false
set_option linter.unusedSimpArgs false
namespace Go.D
open Go Go.Xe Go.Sx
open Go.C36 (row j0 lis cLong cRlong longPre longRel rlongPre rlongRel)
theorem cI_row (l:List Int)(i:Int):cI (l.map row) i 0=l.getD i.toNat 0:=by
 unfold cI v5
 simp only[bI2,bK1]
 cases l[i.toNat]? <;>rfl
theorem cB_row (l:List Bool)(i:Int):cB (l.map brow) i 0=l.getD i.toNat false:=by
 unfold cB v5
 simp only[bI2,bK1]
 cases l[i.toNat]? <;>rfl
theorem brow_eq {l m:List Bool}:(l.map brow=m.map brow)=(l=m):=propext ⟨fun h=>map_inj_of (fun a b e=>by simpa [brow]using e) h,fun h=>h▸rfl⟩
variable {i:Int}
theorem getD_at {α:Type}{l:List α}{d:α}(h0:0<=i)(h:i<(l.length:Int)):l[i.toNat]? =some (l.getD i.toNat d):=by
 rw[bI2,bG3 (by omega)];rfl
variable {l:List Int}{k v:Int}
theorem ixn_inv :ixnInv [.lst (l.map row),.int v] [.int k]↔0<=k/\k<=(l.length:Int)/\v∉l.take k.toNat:=by
 simp only[ixnInv,ln,bH0,rowm_eq,bO9]
theorem ixn_0 (l:List Int)(v:Int):ixnInv [.lst (l.map row),.int v] [.int 0]:=ixn_inv.2 ⟨by omega,by omega,by simp⟩
theorem ixn_step (h:ixnInv [.lst (l.map row),.int v] [.int k])(hk:k<(l.length:Int))(a:¬v=l.getD k.toNat 0):ixnInv [.lst (l.map row),.int v] [.int (k+1)]:=by
 obtain⟨h0,h1,h2⟩:=ixn_inv.1 h
 refine ixn_inv.2 ⟨by omega,by omega,?_⟩
 rw[take_step h0 (getD_at h0 hk),bI8,bL6]
 exact fun c=>c.elim h2 a
theorem ixn_none (h:ixnInv [.lst (l.map row),.int v] [.int k])(hk:¬k<(l.length:Int)):v∉l:=by
 obtain⟨h0,h1,h2⟩:=ixn_inv.1 h
 rwa[take_full (by omega)]at h2
theorem ins_len (l:List Int)(k v:Int):(ins l k v).length=l.length+1:=by
 unfold ins
 simp only[bH8,bJ4,bI6,bK3];omega
theorem del_len (h0:0<=k)(h:k<(l.length:Int)):((del l k).length:Int)=l.length-1:=by
 unfold del
 simp only[bH8,bI6,bK3];omega
theorem mem_ins {x:Int}:x∈ins l k v↔x=v\/x∈l:=by
 unfold ins
 rw[bI8,bI9]
 have:=bO5 k.toNat l
 constructor
 ·rintro (h|h|h)
  ·exact .inr (bN7 h)
  ·exact .inl h
  ·exact .inr (bN8 h)
 ·rintro (h|h)
  ·exact .inr (.inl h)
  ·rw[<-this,bI8]at h
   exact h.elim .inl fun h=>.inr (.inr h)
theorem mem_del {x:Int}(h0:0<=k)(hk:k<(l.length:Int))(hx:x∈l)(hn:x≠l.getD k.toNat 0):x∈del l k:=by
 have e:l=l.take k.toNat++l.getD k.toNat 0::l.drop (k+1).toNat:=by
  rw[j8 h0,<-Sx.drop_at (getD_at h0 hk),bO5]
 rw[e]at hx
 unfold del
 simp only[bI8,bI9]at hx⊢
 rcases hx with h|h|h
 ·exact .inl h
 ·exact absurd h hn
 ·exact .inr h
theorem part_row {a n:Int}:Sx.part (l.map row) a n=((l.drop a.toNat).take n.toNat).map row:=aR8
theorem ins_row (h0:0<=k)(h:k<=(l.length:Int)):Sx.part ((Sx.part (l.map row) 0 k++Sx.chunk 1 1 [.int v])++Sx.part (l.map row) k (ln (l.map row)-k)) 0 (ln (l.map row)+1)=(ins l k v).map row:=by
 have e:(Sx.part (l.map row) 0 k++Sx.chunk 1 1 [.int v])++Sx.part (l.map row) k (ln (l.map row)-k)=(ins l k v).map row:=by
  rw[part_row,part_row,chunk1]
  unfold ins
  rw[bP7,bO7,bK0 (l:=l.drop k.toNat) (by simp only[ln,bH0,bK3];omega)]
  simp[row]
 rw[e,part_row,bP7,bO7,bK0 (by rw[ins_len];simp only[ln,bH0];omega)]
theorem ins_ln (h0:0<=k)(h:k<=(l.length:Int)):¬((ln (Sx.part (l.map row) 0 k)+1)+ln (Sx.part (l.map row) k (ln (l.map row)-k)))<ln (l.map row)+1:=by
 rw[part_row,part_row]
 simp only[ln,bH0,bI6,bK3,bP7];omega
theorem del_row (h0:0<=k)(h:k<(l.length:Int)):Sx.part (l.map row) 0 k++Sx.part (l.map row) (k+1) (ln (l.map row)-(k+1))=(del l k).map row:=by
 rw[part_row,part_row]
 unfold del
 rw[bP7,bO7,bK0 (l:=l.drop (k+1).toNat) (by simp only[ln,bH0,bK3];omega),bJ8]
theorem del_ln (h0:0<=k)(h:k<(l.length:Int)):ln (Sx.part (l.map row) 0 k)+ln (Sx.part (l.map row) (k+1) (ln (l.map row)-(k+1)))=ln ((del l k).map row):=by
 rw[<-del_row h0 h];simp[ln]
theorem del_ln' (h0:0<=k)(h:k<(l.length:Int)):k+(ln (l.map row)-(k+1))=ln ((del l k).map row):=by
 have:=del_len h0 h
 simp only[ln,bH0];omega
theorem thereL_step (m:List Int)(h:0<=i):thereL m (i+1).toNat=if i∈m then thereL m i.toNat++ [i]else thereL m i.toNat:=by
 unfold thereL
 rw[j8 h,List.range_succ,bJ8,List.filter_append]
 rw[List.map_singleton,show Int.ofNat i.toNat=i from Int.toNat_of_nonneg h]
 by_cases hm:i∈m<;>simp[hm]
theorem freesS_step (m:List Int)(P:Sx.Rows)(h:0<=i):freesS m P (i+1).toNat=if i∈m then freesS m P i.toNat else freesS m P i.toNat++ [stp 4 P [] [] (thereL m i.toNat).length 0 zT]:=by
 rw[j8 h]
 conv=>lhs;unfold freesS
 rw[show((i.toNat:Nat):Int)=i from Int.toNat_of_nonneg h]
def FR (o:List Tree)(m:List Int)(P L0:Sx.Rows)(i:Int)(t:List Int)(L:Sx.Rows):Prop:=0<=i/\i<=(o.length:Int)/\t=thereL m i.toNat/\L=L0++freesS m P i.toNat/\(L.length:Int)+t.length=L0.length+i
variable {o:List Tree}{m:List Int}{L L0 P T:Sx.Rows}
theorem fr_inv :frInv [.lst (rows o),.lst (m.map row),.lst P,.lst L0] [.int i,.lst T,.lst L]↔ ∃t:List Int,T=t.map row/\FR o m P L0 i t L:=by
 simp only[frInv,ln,bH0,rowm_eq,bO9,FR]
 constructor
 ·rintro ⟨h0,h1,e,h2,h3⟩
  exact⟨_,e,h0,h1,rfl,h2,by rw[e,bH0]at h3;exact h3⟩
 ·rintro ⟨t,rfl,h0,h1,rfl,h2,h3⟩
  exact⟨h0,h1,rfl,h2,by rw[bH0];exact h3⟩
variable {t:List Int}
theorem fr_keep (h:FR o m P L0 i t L)(hi:i<(o.length:Int))(hm:i∈m):FR o m P L0 (i+1) (t++ [i]) L:=by
 obtain⟨h0,h1,rfl,h2,h3⟩:=h
 exact⟨by omega,by omega,by rw[thereL_step m h0,bH3 hm],by rw[freesS_step m P h0,bH3 hm];exact h2,by rw[bH8,List.length_singleton];omega⟩
theorem fr_free (h:FR o m P L0 i t L)(hi:i<(o.length:Int))(hm:i∉m):FR o m P L0 (i+1) t (L++ [stp 4 P [] [] t.length 0 zT]):=by
 obtain⟨h0,h1,rfl,rfl,h3⟩:=h
 refine⟨by omega,by omega,by rw[thereL_step m h0,bH1 hm],by rw[freesS_step m P h0,bH1 hm,bG5],by rw[bH8,List.length_singleton];omega⟩
theorem idx_at {d:Int}(h0:0<=d)(h1:d<(t.length:Int))(a:v=t.getD d.toNat 0)(hn:v∉t.take d.toNat):((t.idxOf v:Nat):Int)=d:=by
 have e:t=t.take d.toNat++v::t.drop (d.toNat+1):=by
  have:=getD_at (l:=t) (d:=0) h0 h1
  rw[<-a]at this
  rw[<-Sx.drop_at this,bO5]
 have b:(t.take d.toNat).length=d.toNat:=by rw[bI6];omega
 have:t.idxOf v=d.toNat:=by
  rw[e,List.idxOf_append,bH1 hn,List.idxOf_cons_self,b,bI3]
 omega
variable {q:List Bool}
theorem ahead_skip (hl:m.length=q.length){a b:Nat}(f:a<=b)(hb:b<=q.length)(h:∀j:Nat,a<=j->j<b->q.getD j false=false):aheadF t (m.drop a) (q.drop a)=aheadF t (m.drop b) (q.drop b):=by
 induction b with
 |zero=>
  obtain rfl:a=0:=by omega
  rfl
 |succ b d=>
  by_cases e:a=b+1
  ·subst e;rfl
  ·have d:=d (by omega) (by omega) fun j h1 h2=>h j h1 (by omega)
   rw[d]
   have hm:=bG3 (l:=m) (i:=b) (by omega)
   have hq:=bG3 (l:=q) (i:=b) (by omega)
   have hf:=h b (by omega) (by omega)
   rw[bI2,hq]at hf
   rw[Sx.drop_at hm,Sx.drop_at hq]
   conv=>lhs;unfold aheadF
   have hf:q[b]=false:=hf
   rw[hf];rfl
theorem ahead_at   (hl : m.length = q.length)  (h0 : 0 ≤ i) (  e : i < k) (hk : k < (q.length : Int)) (h : ∀ j : Nat, i < j → (j : Int) < k → q.getD j false = false) (hq : q.getD k.toNat false = true) :
  aheadF t (m.drop (i.toNat+1)) (q.drop (i.toNat+1))=(t.idxOf (m.getD k.toNat 0):Nat):=by
 rw[ahead_skip hl (b:=k.toNat) (by omega) (by omega) fun j h1 h2=>h j (by omega) (by omega)]
 have hm:=getD_at (l:=m) (d:=0) (i:=k) (by omega) (by omega)
 have a:=getD_at (l:=q) (d:=false) (i:=k) (by omega) (by omega)
 rw[Sx.drop_at hm,Sx.drop_at a]
 unfold aheadF
 rw[hq];rfl
theorem ahead_end (hl:m.length=q.length)(h0:0<=i)(hi:i<(q.length:Int))(hk:(q.length:Int)<=k)(h:∀j:Nat,i<j->(j:Int)<k->q.getD j false=false):aheadF t (m.drop (i.toNat+1)) (q.drop (i.toNat+1))=t.length:=by
 rw[ahead_skip hl (b:=q.length) (by omega) (bH4 _) fun j h1 h2=>h j (by omega) (by omega),List.drop_eq_nil_of_le (by omega),List.drop_eq_nil_of_le (by omega)]
 rfl
theorem ah_inv :ahInv [.lst (q.map brow),.int i] [.int k]↔0<=i/\i<k/\k<=(q.length:Int)+i+1/\ ∀j:Nat,i<j->(j:Int)<k->q.getD j false=false:=by
 simp only[ahInv,ln,bH0,brow_eq,bO9]
def ND (o n:List Tree)(m:List Int)(q:List Bool)(P:Sx.Rows)(t0:List Int)(L0:Sx.Rows)(i:Int)(t:List Int)(L:Sx.Rows):Prop:=0<=i/\i<=(n.length:Int)/\t.length<=t0.length+i/\(∀x∈pl m,x∈t)/\
 ∃S,L=L0++S/\S.length<=100*Tree.sizes (n.take i.toNat)+i/\ ∀f,Tree.depths n<=f->kidS (diffN f) o n m q P t0 i.toNat=(t,S)
theorem nd_inv {n:List Tree}{t0:List Int}:ndInv [.lst (rows o),.lst (rows n),.lst (m.map row),.lst (q.map brow),.lst P,.lst (t0.map row),.lst L0] [.int i,.lst T,.lst L]↔ ∃t:List Int,T=t.map row/\ND o n m q P t0 L0 i t L:=by
 simp only[ndInv,ln,bH0]
 constructor
 ·rintro ⟨h0,h1,h⟩
  obtain⟨t,S,h2,h3,h4,a,b,d⟩:=h o n m q t0 rfl rfl rfl rfl rfl
  exact⟨t,h2,h0,h1,h4,b,S,h3,a,d⟩
 ·rintro ⟨t,h2,h0,h1,h4,b,S,h3,a,d⟩
  refine⟨h0,h1,fun o' n' r s p e0 e f g j=>?_⟩
  rw[rows_eq]at e0 e
  rw[rowm_eq]at f j
  rw[brow_eq]at g
  subst e0;subst e;subst f;subst g;subst j
  exact⟨t,S,h2,h3,h4,a,b,d⟩
section
variable {o n:List Tree}{m t t0:List Int}{q:List Bool}{P L0 L:Sx.Rows}{i v:Int}{c co:Tree}
theorem sizes_step (h0:0<=i)(hc:n[i.toNat]? =some c):Tree.sizes (n.take (i+1).toNat)=Tree.sizes (n.take i.toNat)+c.size:=by
 rw[take_step h0 hc,sizes_app,one_s]
variable {S1:Sx.Rows}
theorem nd_step  {t' : List Int} (h : ND o n m q P t0 L0 i t L) (hc : n[i.toNat]? = some c) (ht : t'.length ≤ t.length + 1) (hp : ∀ x ∈ t, x ∈ t')
  (hl:S1.length<=100*c.size+1) (hk:∀f,Tree.depths n<=f->kidR (diffN f) o n m q P i.toNat t=(t',S1)):ND o n m q P t0 L0 (i+1) t' (L++S1):=by
 obtain⟨h0,h1,d,a,S,rfl,e,b⟩:=h
 have hi:=(bF4.1 hc).1
 refine⟨by omega,by omega,by omega,fun x hx=>hp x (a x hx),S++S1,by simp,?_,fun f hf=>?_⟩
 ·rw[sizes_step h0 hc,bH8];omega
 ·rw[j8 h0]
  unfold kidS
  simp only[b f hf,hk f hf]
theorem nd_mount {to:Int}(h:ND o n m q P t0 L0 i t L)(hc:n[i.toNat]? =some c)(d:m.getD i.toNat 0=v)(hn:v<0)(a:to=aheadF t (m.drop (i.toNat+1)) (q.drop (i.toNat+1))):ND o n m q P t0 L0 (i+1) (ins t to (-1-i)) (L++ [stp 5 P [] [] 0 to c]):=
 nd_step h hc (by rw[ins_len];omega) (fun x hx=>mem_ins.2 (.inr hx)) (by have:=size_pos c;simp) fun f _=>by
  have h0:=h.1
  have b:n.getD i.toNat zT=c:=by rw[bI2,hc];rfl
  unfold kidR
  simp only[d,hn,bO3,b,<-a,show((i.toNat:Nat):Int)=i from Int.toNat_of_nonneg h0]
theorem nd_stay  {a : Int} (h : ND o n m q P t0 L0 i t L) (hc : n[i.toNat]? = some c) ( p : m.getD i.toNat 0 = v) (hb : q.getD i.toNat false = true) (hn : 0 ≤ v) ( j : o[v.toNat]? = some co) ( g : (t.idxOf v : Nat) = a) (hl : S1.length ≤ 100 * c.size)
  (e:∀f,c.depth<=f->S1=diffN f co c (P++ [[.int a]])) (r:c.depth<=Tree.depths n):ND o n m q P t0 L0 (i+1) t (L++S1):=
 nd_step h hc (by omega) (fun x hx=>hx) (by omega) fun f hf=>by
  have b:n.getD i.toNat zT=c:=by rw[bI2,hc];rfl
  have d:o.getD v.toNat zT=co:=by rw[bI2,j];rfl
  unfold kidR
  rw[p]
  simp only[bH1 (show¬v<0 by omega),b,d,hb,bO3,g]
  rw[<-e f (by omega)]
theorem nd_move  {a to : Int} (h : ND o n m q P t0 L0 i t L) (hc : n[i.toNat]? = some c) ( y : m.getD i.toNat 0 = v) (hb : q.getD i.toNat false = false) (hn : 0 ≤ v) ( w : o[v.toNat]? = some co) ( u : (t.idxOf v : Nat) = a) (hl : S1.length ≤ 100 * c.size)
  (s:∀f,c.depth<=f->S1=diffN f co c (P++ [[.int a]])) (z:c.depth<=Tree.depths n) (b:0<=a) (d:a<(t.length:Int)) (g:v=t.getD a.toNat 0) (j:to=aheadF (del t a) (m.drop (i.toNat+1)) (q.drop (i.toNat+1))):
  ND o n m q P t0 L0 (i+1) (ins (del t a) to v) ((L++S1)++ [stp 6 P [] [] a to zT]):=by
 rw[bG5]
 have:=del_len b d
 refine nd_step h hc (by rw[ins_len];omega) (fun x hx=>mem_ins.2 ?_) (by simp;omega) fun f hf=>?_
 ·by_cases e:x=v
  ·exact .inl e
  ·exact .inr (mem_del b d hx (fun c=>e (c.trans g.symm)))
 ·have p:n.getD i.toNat zT=c:=by rw[bI2,hc];rfl
  have r:o.getD v.toNat zT=co:=by rw[bI2,w];rfl
  unfold kidR
  rw[y]
  simp only[bH1 (show¬v<0 by omega),p,r,hb,bM3,bO2,u,<-j]
  rw[<-s f (by omega)]
end
end Go.D
