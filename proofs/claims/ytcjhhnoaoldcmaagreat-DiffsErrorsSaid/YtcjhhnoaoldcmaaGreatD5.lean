/- The writer of a diff: how its lists change.
  Conditions: none. -/
import Derived.Test.YtcjhhnoaoldcmaaGreatD4
set_option linter.unusedVariables false
set_option linter.unusedSimpArgs false
namespace Go.D
open Go Go.Xe Go.Sx
open Go.C36 (row t6 lis cLong cRlong longPre longRel rlongPre rlongRel)
theorem cI_row (l:List Int)(i:Int):cI (l.map row) i 0=l.getD i.toNat 0:=by
 unfold cI A9
 simp only[bL0,bM9]
 cases l[i.toNat]? <;>rfl
theorem cB_row (l:List Bool)(i:Int):cB (l.map brow) i 0=l.getD i.toNat false:=by
 unfold cB A9
 simp only[bL0,bM9]
 cases l[i.toNat]? <;>rfl
theorem brow_eq {l m:List Bool}:(l.map brow=m.map brow)=(l=m):=propext ⟨fun h=>map_inj_of (fun a b e=>by simpa [brow]using e) h,fun h=>h▸rfl⟩
theorem getD_at {α:Type}{l:List α}{i:Int}{d:α}(h0:0<=i)(h:i<(l.length:Int)):l[i.toNat]? =some (l.getD i.toNat d):=by
 rw[bL0,bJ1 (by omega)];rfl
theorem ixn_inv {l:List Int}{v k:Int}:ixnInv [.lst (l.map row),.int v] [.int k]↔0<=k/\k<=(l.length:Int)/\v∉l.take k.toNat:=by
 simp only[ixnInv,ln,bJ8,rowm_eq,bR7]
theorem ixn_0 (l:List Int)(v:Int):ixnInv [.lst (l.map row),.int v] [.int 0]:=ixn_inv.2 ⟨by omega,by omega,by simp⟩
theorem ixn_step {l:List Int}{v k:Int}(h:ixnInv [.lst (l.map row),.int v] [.int k])(hk:k<(l.length:Int))(hv:¬v=l.getD k.toNat 0):ixnInv [.lst (l.map row),.int v] [.int (k+1)]:=by
 obtain⟨h0,h1,h2⟩:=ixn_inv.1 h
 refine ixn_inv.2 ⟨by omega,by omega,?_⟩
 rw[take_step h0 (getD_at h0 hk),bL6,bO4]
 exact fun c=>c.elim h2 hv
theorem ixn_none {l:List Int}{v k:Int}(h:ixnInv [.lst (l.map row),.int v] [.int k])(hk:¬k<(l.length:Int)):v∉l:=by
 obtain⟨h0,h1,h2⟩:=ixn_inv.1 h
 rwa[take_full (by omega)]at h2
def ins (l:List Int)(k v:Int):List Int:=l.take k.toNat++v::l.drop k.toNat
def del (l:List Int)(k:Int):List Int:=l.take k.toNat++l.drop (k+1).toNat
theorem ins_len (l:List Int)(k v:Int):(ins l k v).length=l.length+1:=by
 unfold ins
 simp only[bK6,bM2,bL4,bN1];omega
theorem del_len {l:List Int}{k:Int}(h0:0<=k)(h:k<(l.length:Int)):((del l k).length:Int)=l.length-1:=by
 unfold del
 simp only[bK6,bL4,bN1];omega
theorem mem_ins {l:List Int}{k v x:Int}:x∈ins l k v↔x=v\/x∈l:=by
 unfold ins
 rw[bL6,bL7]
 have:=bR3 k.toNat l
 constructor
 ·rintro (h|h|h)
  ·exact .inr (bQ5 h)
  ·exact .inl h
  ·exact .inr (bQ6 h)
 ·rintro (h|h)
  ·exact .inr (.inl h)
  ·rw[<-this,bL6]at h
   exact h.elim .inl fun h=>.inr (.inr h)
theorem mem_del {l:List Int}{k x:Int}(h0:0<=k)(hk:k<(l.length:Int))(hx:x∈l)(hn:x≠l.getD k.toNat 0):x∈del l k:=by
 have e:l=l.take k.toNat++l.getD k.toNat 0::l.drop (k+1).toNat:=by
  rw[z7 h0,<-Sx.drop_at (getD_at h0 hk),bR3]
 rw[e]at hx
 unfold del
 simp only[bL6,bL7]at hx⊢
 rcases hx with h|h|h
 ·exact .inl h
 ·exact absurd h hn
 ·exact .inr h
theorem part_row {l:List Int}{a n:Int}:Sx.part (l.map row) a n=((l.drop a.toNat).take n.toNat).map row:=bw4
theorem ins_row {l:List Int}{k v:Int}(h0:0<=k)(h:k<=(l.length:Int)):Sx.part ((Sx.part (l.map row) 0 k++Sx.chunk 1 1 [.int v])++Sx.part (l.map row) k (ln (l.map row)-k)) 0 (ln (l.map row)+1)=(ins l k v).map row:=by
 have e:(Sx.part (l.map row) 0 k++Sx.chunk 1 1 [.int v])++Sx.part (l.map row) k (ln (l.map row)-k)=(ins l k v).map row:=by
  rw[part_row,part_row,chunk1]
  unfold ins
  rw[bS4,bR5,bM8 (l:=l.drop k.toNat) (by simp only[ln,bJ8,bN1];omega)]
  simp[row]
 rw[e,part_row,bS4,bR5,bM8 (by rw[ins_len];simp only[ln,bJ8];omega)]
theorem ins_ln {l:List Int}{k:Int}(h0:0<=k)(h:k<=(l.length:Int)):¬((ln (Sx.part (l.map row) 0 k)+1)+ln (Sx.part (l.map row) k (ln (l.map row)-k)))<ln (l.map row)+1:=by
 rw[part_row,part_row]
 simp only[ln,bJ8,bL4,bN1,bS4];omega
theorem del_row {l:List Int}{k:Int}(h0:0<=k)(h:k<(l.length:Int)):Sx.part (l.map row) 0 k++Sx.part (l.map row) (k+1) (ln (l.map row)-(k+1))=(del l k).map row:=by
 rw[part_row,part_row]
 unfold del
 rw[bS4,bR5,bM8 (l:=l.drop (k+1).toNat) (by simp only[ln,bJ8,bN1];omega),bM6]
theorem del_ln {l:List Int}{k:Int}(h0:0<=k)(h:k<(l.length:Int)):ln (Sx.part (l.map row) 0 k)+ln (Sx.part (l.map row) (k+1) (ln (l.map row)-(k+1)))=ln ((del l k).map row):=by
 rw[<-del_row h0 h];simp[ln]
theorem del_ln' {l:List Int}{k:Int}(h0:0<=k)(h:k<(l.length:Int)):k+(ln (l.map row)-(k+1))=ln ((del l k).map row):=by
 have:=del_len h0 h
 simp only[ln,bJ8];omega
def thereL (m:List Int)(i:Nat):List Int:=((List.range i).map Int.ofNat).filter fun x=>decide (x∈m)
theorem thereL_step (m:List Int){i:Int}(h:0<=i):thereL m (i+1).toNat=if i∈m then thereL m i.toNat++ [i]else thereL m i.toNat:=by
 unfold thereL
 rw[z7 h,List.range_succ,bM6,List.filter_append]
 rw[List.map_singleton,show Int.ofNat i.toNat=i from Int.toNat_of_nonneg h]
 by_cases hm:i∈m<;>simp[hm]
def FR (o:List Tree)(m:List Int)(p:Nat)(L0:Sx.Rows)(i:Int)(t:List Int)(L:Sx.Rows):Prop:=0<=i/\i<=(o.length:Int)/\t=thereL m i.toNat/\ ∃S,L=L0++S/\S.length+t.length=i/\SOK 4 4 p S/\cnt 4 p S=S.length
theorem fr_inv {o:List Tree}{m:List Int}{P L0 T L:Sx.Rows}{i:Int}:frInv [.lst (rows o),.lst (m.map row),.lst P,.lst L0] [.int i,.lst T,.lst L]↔ ∃t:List Int,T=t.map row/\FR o m P.length L0 i t L:=by
 simp only[frInv,ln,bJ8,rowm_eq,bR7,FR]
 constructor
 ·rintro ⟨h0,h1,e,S,h2,h3,h4,h5⟩
  exact⟨_,e,h0,h1,rfl,S,h2,by rw[e,bJ8]at h3;exact h3,h4,h5⟩
 ·rintro ⟨t,rfl,h0,h1,rfl,S,h2,h3,h4,h5⟩
  exact⟨h0,h1,rfl,S,h2,by rw[bJ8];exact h3,h4,h5⟩
theorem cnt_one {k w:Int}{p:Nat}{P:Sx.Rows}{l:List Dat}:cnt k p [.int w:: .lst P::l]=if w=k/\P.length=p then 1 else 0:=by
 have h1:wh (.int w:: .lst P::l)=w:=rfl
 have h2:pln (.int w:: .lst P::l)=P.length:=rfl
 unfold cnt
 by_cases h:w=k/\P.length=p
 ·rw[List.filter_cons_of_pos (by rw[h1,h2];simpa using h),bK1 h];rfl
 ·rw[List.filter_cons_of_neg (by rw[h1,h2];simpa using h),bJ9 h];rfl
theorem SOK_one {a b w:Int}{P:Sx.Rows}{l:List Dat}(h:a<=w/\w<=b):SOK a b P.length [.int w:: .lst P::l]:=fun r hr=>by
 cases bO4.1 hr
 exact⟨h.1,h.2,bK2 _⟩
theorem fr_keep {o:List Tree}{m t:List Int}{p:Nat}{L0 L:Sx.Rows}{i:Int}(h:FR o m p L0 i t L)(hi:i<(o.length:Int))(hm:i∈m):FR o m p L0 (i+1) (t++ [i]) L:=by
 obtain⟨h0,h1,rfl,S,h2,h3,h4,h5⟩:=h
 exact⟨by omega,by omega,by rw[thereL_step m h0,bK1 hm],S,h2,by rw[bK6,List.length_singleton];omega,h4,h5⟩
theorem fr_free {o:List Tree}{m t:List Int}{P L0 L:Sx.Rows}{i:Int}{l:List Dat}(h:FR o m P.length L0 i t L)(hi:i<(o.length:Int))(hm:i∉m):FR o m P.length L0 (i+1) t (L++ [.int 4:: .lst P::l]):=by
 obtain⟨h0,h1,rfl,S,rfl,h3,h4,h5⟩:=h
 refine⟨by omega,by omega,by rw[thereL_step m h0,bJ9 hm],S++ [.int 4:: .lst P::l],by simp,by rw[bK6,List.length_singleton];omega,SOK_app.2 ⟨h4,SOK_one (by omega)⟩,?_⟩
 rw[cnt_app,cnt_one,bK1 ⟨rfl,rfl⟩,h5,bK6,List.length_singleton]
def ND (n:List Tree)(m:List Int)(q:List Bool)(p z:Nat)(L0:Sx.Rows)(i:Int)(t:List Int)(L:Sx.Rows):Prop:=0<=i/\i<=(n.length:Int)/\t.length<=z+i/\(∀x∈pl m,x∈t)/\ ∃S,L=L0++S/\S.length<=100*Tree.sizes (n.take i.toNat)+i/\
 SOK 1 6 p S/\cnt 4 p S=0/\cnt 5 p S=negs (m.take i.toNat)/\cnt 6 p S=mvs (m.take i.toNat) (q.take i.toNat)
theorem nd_inv {n:List Tree}{m:List Int}{q:List Bool}{P T0 L0 T L:Sx.Rows}{i:Int}:ndInv [.lst (rows n),.lst (m.map row),.lst (q.map brow),.lst P,.lst T0,.lst L0] [.int i,.lst T,.lst L]↔ ∃t:List Int,T=t.map row/\ND n m q P.length T0.length L0 i t L:=by
 simp only[ndInv,ln,bJ8]
 constructor
 ·rintro ⟨h0,h1,h⟩
  obtain⟨t,S,h2,h3,h4,h5,h6,h7,h8,h9,h10⟩:=h n m q rfl rfl rfl
  exact⟨t,h2,h0,h1,h4,h6,S,h3,h5,h7,h8,h9,h10⟩
 ·rintro ⟨t,h2,h0,h1,h4,h6,S,h3,h5,h7,h8,h9,h10⟩
  refine⟨h0,h1,fun n' m' q' e1 e2 e3=>?_⟩
  rw[rows_eq]at e1
  rw[rowm_eq]at e2
  rw[brow_eq]at e3
  subst e1;subst e2;subst e3
  exact⟨t,S,h2,h3,h4,h5,h6,h7,h8,h9,h10⟩
section
variable {n :List Tree}{m t:List Int}{q:List Bool}{P L0 L:Sx.Rows}{z:Nat}{i v:Int}{c:Tree}
theorem sizes_step (h0:0<=i)(hc:n[i.toNat]? =some c):Tree.sizes (n.take (i+1).toNat)=Tree.sizes (n.take i.toNat)+c.size:=by
 rw[take_step h0 hc,sizes_app,one_s]
theorem take_len2 (h0:0<=i)(hm:m.length=q.length):(m.take i.toNat).length=(q.take i.toNat).length:=by rw[bL4,bL4,hm]
theorem nd_step {b : Bool} {S1 : Sx.Rows} {t' : List Int} (h : ND n m q P.length z L0 i t L) (hc : n[i.toNat]? = some c) (hv : m[i.toNat]? = some v) (hb : q[i.toNat]? = some b) (hm : m.length = q.length) (ht : t'.length ≤ t.length + 1) (hp : ∀ x ∈ t, x ∈ t')
  (hl:S1.length<=100*c.size+1) (hS:SOK 1 6 P.length S1) (h4:cnt 4 P.length S1=0) (h5:cnt 5 P.length S1=if v<0 then 1 else 0) (h6:cnt 6 P.length S1=if 0<=v/\b=false then 1 else 0):ND n m q P.length z L0 (i+1) t' (L++S1):=by
 obtain⟨h0,h1,g4,g6,S,rfl,g5,g7,g8,g9,g10⟩:=h
 have hi:=(bI2.1 hc).1
 refine⟨by omega,by omega,by omega,fun x hx=>hp x (g6 x hx),S++S1,by simp,?_,SOK_app.2 ⟨g7,hS⟩,?_,?_,?_⟩
 ·rw[sizes_step h0 hc,bK6];omega
 ·rw[cnt_app,g8,h4]
 ·rw[cnt_app,g9,h5,take_step h0 hv,negs_snoc]
 ·rw[cnt_app,g10,h6,take_step h0 hv,take_step h0 hb,mvs_snoc _ _ _ _ (take_len2 h0 hm)]
theorem nd_mount {b:Bool}{k w:Int}{l:List Dat}(h:ND n m q P.length z L0 i t L)(hc:n[i.toNat]? =some c)(hv:m[i.toNat]? =some v)(hb:q[i.toNat]? =some b)(hm:m.length=q.length)(hn:v<0):ND n m q P.length z L0 (i+1) (ins t k w) (L++ [.int 5:: .lst P::l]):=
 nd_step h hc hv hb hm (by rw[ins_len];omega) (fun x hx=>mem_ins.2 (.inr hx)) (by have:=size_pos c;simp) (SOK_one (by omega)) (by rw[cnt_one,bJ9 (by omega)]) (by rw[cnt_one,bK1 ⟨rfl,rfl⟩,bK1 hn]) (by rw[cnt_one,bJ9 (by omega),bJ9 (by omega)])
theorem deep {S1:Sx.Rows}(h:SOK 1 6 (P.length+1) S1)(k:Int):cnt k P.length S1=0:=cnt_out h (.inr (.inr (by omega)))
theorem nd_stay {S1:Sx.Rows}(h:ND n m q P.length z L0 i t L)(hc:n[i.toNat]? =some c)(hv:m[i.toNat]? =some v)(hb:q[i.toNat]? =some true)(hm:m.length=q.length)(hn:0<=v)(hl:S1.length<=100*c.size)(hS:SOK 1 6 (P.length+1) S1):ND n m q P.length z L0 (i+1) t (L++S1):=
 nd_step h hc hv hb hm (by omega) (fun x hx=>hx) (by omega) (SOK_mono hS (by omega) (by omega) (by omega)) (deep hS _) (by rw[deep hS,bJ9 (by omega)]) (by rw[deep hS,bJ9 (fun c=>by cases c.2)])
theorem nd_move {S1 : Sx.Rows} {a k : Int} {l : List Dat} (h : ND n m q P.length z L0 i t L) (hc : n[i.toNat]? = some c) (hv : m[i.toNat]? = some v) (hb : q[i.toNat]? = some false) (hm : m.length = q.length) (hn : 0 ≤ v) (hl : S1.length ≤ 100 * c.size) (hS : SOK 1 6 (P.length + 1) S1)
  (ha:0<=a) (ha2:a<(t.length:Int)) (hta:v=t.getD a.toNat 0):ND n m q P.length z L0 (i+1) (ins (del t a) k v) ((L++S1)++ [.int 6:: .lst P::l]):=by
 rw[bJ3]
 have:=del_len ha ha2
 refine nd_step h hc hv hb hm (by rw[ins_len];omega) (fun x hx=>mem_ins.2 ?_) (by simp;omega) (SOK_app.2 ⟨SOK_mono hS (by omega) (by omega) (by omega),SOK_one (by omega)⟩) ?_ ?_ ?_
 ·by_cases e:x=v
  ·exact .inl e
  ·exact .inr (mem_del ha ha2 hx (fun c=>e (c.trans hta.symm)))
 ·rw[cnt_app,deep hS,cnt_one,bJ9 (by omega)]
 ·rw[cnt_app,deep hS,cnt_one,bJ9 (by omega),bJ9 (by omega)]
 ·rw[cnt_app,deep hS,cnt_one,bK1 ⟨rfl,rfl⟩,bK1 ⟨hn,rfl⟩]
end
end Go.D
