/- Trees: plain lemmas; the conditions of named, text and alone hold.
  Conditions: none. -/
import Derived.Test.YtcjhhnoaoldcmaaA2
set_option linter.unusedVariables false
set_option linter.unusedSimpArgs false
namespace Go.D
open Go Go.Xe Go.Sx
variable {s:Str}
theorem byte_at {k:Int}(h0:0<=k)(h1:k<(s.length:Int)):∃b,s[k.toNat]? =some b/\byteAt s k=b.toNat:=by
 obtain⟨b,hb⟩:=Sx.get_at h0 h1
 refine⟨b,hb,?_⟩
 unfold byteAt
 rw[bD2,hb];rfl
variable {p:UInt8->Bool}{k:Nat}{b:UInt8}
theorem all_bad (h:s[k]? =some b)(hb:p b=false):s.all p=false:=by
 cases a:s.all p with
 |false=>rfl
 |true=>rw[bD1]at a;rw[a b (bB1 h)]at hb;cases hb
theorem all_step {k:Int}(h:s[k.toNat]? =some b)(h0:0<=k)(a:(s.take k.toNat).all p=true)(hb:p b=true):(s.take (k+1).toNat).all p=true:=by
 rw[v8 h0,W2 h,List.all_append,a]
 simp[hb]
theorem nameB_of (h:(97<=b.toNat/\b.toNat<=122)\/(48<=b.toNat/\b.toNat<=57)):nameB b=true:=by
 unfold nameB;simp;exact h
theorem nameB_not (h:¬((97<=b.toNat/\b.toNat<=122)\/(48<=b.toNat/\b.toNat<=57))):nameB b=false:=by
 cases hb:nameB b with
 |false=>rfl
 |true=>unfold nameB at hb;simp at hb;exact absurd hb h
theorem vName_all (h:s.all nameB=false):vName s=false:=by unfold vName;rw[h];simp
theorem vName_len (h:s.length<1\/16<s.length):vName s=false:=by
 unfold vName
 rcases h with h|h
 ·rw[bH5 (by omega)];rfl
 ·rw[bH5 (p:=s.length<=16) (by omega),Bool.and_false];rfl
theorem vName_yes (h0:1<=s.length)(h1:s.length<=16)(h:s.all nameB=true):vName s=true:=by
 unfold vName
 rw[decide_eq_true h0,decide_eq_true h1,h];rfl
theorem take_all_of {k:Int}(h:(s.take k.toNat).all p=true)(hk:(s.length:Int)<=k):s.all p=true:=by
 rwa[bF0 (by omega)]at h
theorem vcNamed_ok :vcNamed:=by
 unfold vcNamed vcNamed0 Nd
 intro s hp
 simp only[ln,I64,namedRel,nmInv,nmMu,slMu,B9,B8,bG3,bH2,bG8,bE5]
 refine bC9 (fun h=>(vName_len (.inl (by omega))).symm) fun h=>bC9 (fun h2=>(vName_len (.inr (by omega))).symm) fun h2=>bC9 ⟨by omega,by omega,rfl⟩ fun _ k ⟨k0,k1,k2⟩=>bC9 (fun hk=>?_) fun hk=>?_
 ·obtain⟨b,hb,a⟩:=byte_at k0 hk
  rw[a]
  repeat' first| (refine bC9 ?_ ?_)|intro _
  all_goals first|omega|exact(vName_all (all_bad hb (nameB_not (by omega)))).symm|exact all_step hb k0 k2 (nameB_of (by omega))
 ·exact(vName_yes (by omega) (by omega) (take_all_of k2 (by omega))).symm
theorem strB_of (h0:32<=b.toNat)(h1:b.toNat<=126):strB b=true:=by unfold strB;rw[decide_eq_true h0,decide_eq_true h1];rfl
theorem strB_not (h:b.toNat<32\/126<b.toNat):strB b=false:=by
 unfold strB
 rcases h with h|h
 ·rw[bH5 (by omega)];rfl
 ·rw[bH5 (p:=b.toNat<=126) (by omega),Bool.and_false]
theorem vStr_all (h:s.all strB=false):vStr s=false:=by unfold vStr;rw[h];simp
theorem vStr_len (h:64<s.length):vStr s=false:=by unfold vStr;rw[bH5 (by omega)];rfl
theorem vStr_yes (h1:s.length<=64)(h:s.all strB=true):vStr s=true:=by unfold vStr;rw[decide_eq_true h1,h];rfl
theorem get_byte (h:s[k]? =some b):(⟨s.toArray⟩:ByteArray).get! (k+0)=b:=by
 show s.toArray[k+0]! =b
 simp[h]
theorem rune_small (h:s[k]? =some b)(hb:b.toNat<128):runeAt s k=b.toNat/\runeW s k=1:=by
 have hd:Utf8.decode ⟨s.toArray⟩ k=(b.toNat,1):=by
  unfold Utf8.decode
  simp only[get_byte h]
  rw[bC3 hb]
 unfold runeAt runeW
 rw[bE2,hd]
 exact⟨rfl,rfl⟩
theorem rune_great (h:s[k]? =some b)(hb:128<=b.toNat):128<=runeAt s k:=by
 have hd:128<=(Utf8.decode ⟨s.toArray⟩ k).1:=by
  unfold Utf8.decode
  simp only[get_byte h]
  rw[bC1 (by omega)]
  split
  ·split
   ·assumption
   ·decide
  ·split
   ·split
    ·rename_i h2
     simp only[bA2,bC2]at h2
     have:=h2.1
     show 128<=_
     omega
    ·decide
   ·split
    ·split
     ·rename_i h2
      simp only[bA2,bC2]at h2
      have:=h2.1
      show 128<=_
      omega
     ·decide
    ·decide
 unfold runeAt
 rw[bE2]
 omega
theorem vcText_ok :vcText:=by
 unfold vcText Nd
 intro s hp
 simp only[ln,I64,textRel,stInv,stMu,slMu,B9,B8,bG3,bH2,bG8,bE5]
 refine bC9 (fun h=>(vStr_len (by omega)).symm) fun h=>bC9 ⟨by omega,by omega,rfl⟩ fun _ k ⟨k0,k1,k2⟩=>bC9 (fun hk=>?_) fun hk=>(vStr_yes (by omega) (take_all_of k2 (by omega))).symm
 obtain⟨b,hb,f⟩:=byte_at k0 hk
 have e:((k.toNat:Nat):Int)=k:=by omega
 have hd:decide (k<0)=false:=bH5 (by omega)
 rw[hd]
 by_cases a:b.toNat<128
 ·obtain⟨c,d⟩:=rune_small hb a
  rw[e]at c d
  rw[c,d]
  repeat' first| (refine bC9 ?_ ?_)|intro _
  all_goals first|omega|exact(vStr_all (all_bad hb (strB_not (by omega)))).symm|exact all_step hb k0 k2 (strB_of (by omega) (by omega))
 ·have c:=rune_great hb (by omega)
  rw[e]at c
  repeat' first| (refine bC9 ?_ ?_)|intro _
  all_goals first|omega|exact(vStr_all (all_bad hb (strB_not (by omega)))).symm
theorem lt_irrefl :∀a:Str,lt a a=false
 | []=>rfl
 |a::x=>by
  have:=lt_irrefl x
  unfold lt at this⊢
  simp[Op.bytesLess,this]
theorem lt_trans :∀ {a b c:Str},lt a b=true->lt b c=true->lt a c=true
 |_,[],_,h,_=>by unfold lt at h;cases‹List UInt8› <;>simp[Op.bytesLess]at h
 |_,_::_,[],_,h=>by unfold lt at h;simp[Op.bytesLess]at h
 | [],_::_,_::_,_,_=>rfl
 |a::x,b::y,c::z,h,k=>by
  unfold lt at h k⊢
  simp only[Op.bytesLess,bH6,bC2,bA2,beq_iff_eq]at h k⊢
  rcases h with h| ⟨rfl,h⟩
  ·rcases k with k| ⟨rfl,k⟩
   ·exact .inl (UInt8.lt_trans h k)
   ·exact .inl h
  ·rcases k with k| ⟨rfl,k⟩
   ·exact .inl k
   ·exact .inr ⟨rfl,lt_trans h k⟩
theorem lt_tri :∀ {a b:Str},lt a b=false->a≠b->lt b a=true
 | [],[],_,h=>absurd rfl h
 | [],b::y,h,_=>by unfold lt at h;simp[Op.bytesLess]at h
 |a::x,[],_,_=>rfl
 |a::x,b::y,h,k=>by
  unfold lt at h⊢
  simp only[Op.bytesLess,Bool.or_eq_false_iff,bE9,Bool.and_eq_false_iff,bH6,bC2,bA2,beq_iff_eq]at h⊢
  by_cases e:a=b
  ·subst e
   refine .inr ⟨rfl,lt_tri (by rcases h.2 with h2|h2;simp at h2;exact h2) fun e=>k (by rw[e])⟩
  ·have h1:=h.1
   refine .inl ?_
   have:=UInt8.lt_or_lt_of_ne e
   exact this.resolve_left h1
theorem lt_asymm {a b:Str}(h:lt a b=true):lt b a=false:=by
 cases hb:lt b a with
 |false=>rfl
 |true=>have:=lt_trans h hb;rw[lt_irrefl]at this;cases this
theorem row_def (s:Tree):s.row=[.int s.k,.str s.t,.str s.y,.lst (s.a.map Att.row),.str s.x,.lst (rows s.c)]:=by
 have h:∀l:List Tree,Tree.rows l=rows l:=fun l=>by induction l with|nil=>rfl|cons a l d=>simp[Tree.rows,rows,d]
 cases s;simp[Tree.row,Tree.k,Tree.t,Tree.y,Tree.a,Tree.x,Tree.c,h]
theorem at_inj {a b:List Att}(h:a.map Att.row=b.map Att.row):a=b:=by
 have e:∀l:List Att,(l.map Att.row).map atOf=l:=fun l=>by rw[List.map_map];exact List.map_id' l
 rw[<-e a,<-e b,h]
mutual
theorem row_inj :∀ {s t:Tree},s.row=t.row->s=t
 | .mk ..,.mk ..,h=>by
  simp only[Tree.row,bG9,Dat.int.injEq,Dat.str.injEq,Dat.lst.injEq,bH2]at h
  obtain⟨rfl,rfl,rfl,h1,rfl,h2⟩:=h
  rw[at_inj h1,rows_inj h2]
theorem rows_inj :∀ {l m:List Tree},Tree.rows l=Tree.rows m->l=m
 | [],[],_=>rfl
 | [],_::_,h=>by cases h
 |_::_,[],h=>by cases h
 |s::l,t::m,h=>by
  simp only[Tree.rows,bG9]at h
  rw[row_inj h.1,rows_inj h.2]
end
theorem row_eq {s t:Tree}:(s.row=t.row)=(s=t):=propext ⟨row_inj,fun h=>h▸rfl⟩
theorem rows_eq {l m:List Tree}:(rows l=rows m)=(l=m):=propext ⟨fun h=>by
 induction l generalizing m with
 |nil=>cases m with|nil=>rfl|cons=>cases h
 |cons a l c=>cases m with|nil=>cases h|cons b m=>simp only[rows,bF2,bG9]at h;rw[row_inj h.1,c h.2],fun h=>h▸rfl⟩
theorem ats_map (l:List Att):ats (l.map Att.row)=l:=by unfold ats;rw[List.map_map];exact List.map_id' l
theorem tree_ext {s t:Tree}(h0:s.k=t.k)(h1:s.t=t.t)(h2:s.y=t.y)(h3:s.a=t.a)(h4:s.x=t.x)(h5:s.c=t.c):s=t:=by
 cases s;cases t;simp only[Tree.k,Tree.t,Tree.y,Tree.a,Tree.x,Tree.c]at*;subst h0 h1 h2 h3 h4 h5;rfl
theorem isT_self {s c:Tree}:isT s c.k c.t c.y (c.a.map Att.row) c.x (rows c.c)=(s=c):=propext ⟨fun⟨h0,h1,h2,h3,h4,h5⟩=>tree_ext h0.symm h1.symm h2.symm (at_inj h3).symm h4.symm (rows_eq.mp h5).symm,fun h=>by subst h;exact⟨rfl,rfl,rfl,rfl,rfl,rfl⟩⟩
theorem t0 (c:Tree):c.row.getD 0 (.int 0)= .int c.k:=by rw[row_def];rfl
theorem t1 (c:Tree):c.row.getD 1 (.int 0)= .str c.t:=by rw[row_def];rfl
theorem t2 (c:Tree):c.row.getD 2 (.int 0)= .str c.y:=by rw[row_def];rfl
theorem t3 (c:Tree):c.row.getD 3 (.int 0)= .lst (c.a.map Att.row):=by rw[row_def];rfl
theorem t4 (c:Tree):c.row.getD 4 (.int 0)= .str c.x:=by rw[row_def];rfl
theorem t5 (c:Tree):c.row.getD 5 (.int 0)= .lst (rows c.c):=by rw[row_def];rfl
theorem cell1 (r:List Dat)(j:Nat):u5 [r] 0 j=r.getD j (.int 0):=rfl
theorem part1 (r:List Dat):Sx.part [r] 0 1=[r]:=rfl
theorem cell_rows {l:List Tree}{i:Int}{c:Tree}(h:l[i.toNat]? =some c)(j:Nat):u5 (rows l) i j=c.row.getD j (.int 0):=G0 (f:=Tree.row) h j
theorem keysR_rows (l:List Tree):keysR (rows l)=l.map Tree.y:=by
 unfold keysR rows;rw[List.map_map];exact List.map_congr_left fun c _=>by simp only[Function.comp,t2,i5]
theorem part_one {l:List Tree}{i:Int}{c:Tree}(h:l[i.toNat]? =some c):Sx.part (rows l) i 1=[c.row]:=by
 unfold Sx.part rows
 have:=(bA4.1 h)
 rw[List.drop_eq_getElem_cons (by rw[bC0];exact this.1)]
 simp[this.2]
end Go.D
