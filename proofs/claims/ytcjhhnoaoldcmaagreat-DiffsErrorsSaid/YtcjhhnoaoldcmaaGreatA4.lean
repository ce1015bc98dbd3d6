/- Trees: the condition of alone holds.
  Conditions: none. -/
import Derived.Test.YtcjhhnoaoldcmaaGreatA3
set_option linter.unusedVariables false
set_option linter.unusedSimpArgs false
namespace Go.D
open Go Go.Xe Go.Sx
theorem take_step {α:Type}{l:List α}{k:Int}{a:α}(h0:0<=k)(h:l[k.toNat]? =some a):l.take (k+1).toNat=l.take k.toNat++ [a]:=by rw[z7 h0,M0 h]
theorem take_full {α:Type}{l:List α}{k:Int}(h:(l.length:Int)<=k):l.take k.toNat=l:=bM8 (by omega)
theorem map_get {α β:Type}{f:α->β}{l:List α}{k:Nat}{a:α}(h:l[k]? =some a):(l.map f)[k]? =some (f a):=by rw[bM9,h];rfl
theorem pw_at {α:Type}{R:α->α->Prop}{l:List α}(h:l.Pairwise R){i j:Nat}{a b:α}(hi:l[i]? =some a)(hj:l[j]? =some b)(hij:i<j):R a b:=by
 obtain⟨h1,rfl⟩:=bI2.1 hi
 obtain⟨h2,rfl⟩:=bI2.1 hj
 exact List.pairwise_iff_getElem.1 h i j h1 h2 hij
theorem asc_step {l:List Str}{k:Int}{a b:Str}(h0:0<k)(ha:l[k.toNat]? =some a)(hb:l[(k+ -1).toNat]? =some b)(hl:lt b a=true)(h:Asc (l.take k.toNat)):Asc (l.take (k+1).toNat):=by
 unfold Asc at h⊢
 rw[take_step (by omega) ha,List.pairwise_append]
 refine⟨h,List.pairwise_singleton _ _,fun x hx y hy=>?_⟩
 rw[bO4.1 hy]
 obtain⟨i,hi⟩:=bN4.1 hx
 have hik:i<k.toNat:=by have:=(bI2.1 hi).1;rw[bL4]at this;omega
 by_cases e:i=(k+ -1).toNat
 ·rw[bL2,bK1 hik,e,hb,bH9]at hi
  rw[<-hi];exact hl
 ·refine lt_trans (pw_at h hi (j:=(k+ -1).toNat) (b:=b) ?_ (by omega)) hl
  rw[bL2,bK1 (by omega)];exact hb
theorem asc_bad {l:List Str}{k:Int}{a b:Str}(h0:0<k)(ha:l[k.toNat]? =some a)(hb:l[(k+ -1).toNat]? =some b)(h:lt a b=true\/a=b):¬Asc l:=fun hp=>by
 have:=pw_at hp hb ha (by omega)
 rcases h with h|h
 ·rw[lt_asymm this]at h;cases h
 ·rw[h,lt_irrefl]at this;cases this
theorem keys_step {l:List Str}{k:Int}{a:Str}(h0:0<=k)(ha:l[k.toNat]? =some a)(h:Keys (l.take k.toNat))(hn:a=[]\/ ∀z∈l.take k.toNat,z≠a):Keys (l.take (k+1).toNat):=by
 unfold Keys at h⊢
 rw[take_step h0 ha,List.pairwise_append]
 refine⟨h,List.pairwise_singleton _ _,fun x hx y hy h1=>?_⟩
 rw[bO4.1 hy]at h1⊢
 rcases hn with e|hn
 ·exact absurd e h1
 ·exact hn x hx
theorem keys_bad {l:List Str}{i j:Nat}{a b:Str}(hi:l[i]? =some a)(hj:l[j]? =some b)(hij:i<j)(hb:b≠ [])(e:a=b):¬Keys l:=fun h=>pw_at h hi hj hij hb e
theorem at0 (a:Att):a.row.getD 0 (.int 0)= .str a.n:=rfl
theorem at1 (a:Att):a.row.getD 1 (.int 0)= .str a.v:=rfl
theorem no_iff {p:Prop}(h:¬p):(false=true↔p):=⟨fun e=>(by cases e),fun e=>absurd e h⟩
theorem get_part {α:Type}{l:List α}{k j:Int}(h0:0<=j)(h:j<((l.take k.toNat).length:Int)):∃a,l[j.toNat]? =some a/\(l.take k.toNat)[j.toNat]? =some a/\j<k:=by
 rw[bL4]at h
 have hj:j.toNat<l.length:=by omega
 exact⟨l[j.toNat],bJ1 hj,by rw[bL2,bK1 (by omega)];exact bJ1 hj,by omega⟩
theorem alone_loops (s:Tree)(hk:¬s.k=2)(hk1:s.k=1)(ht:vName s.t=true)(hy:s.y=[]\/vName s.y=true)(x0:Sx.Rows)(e0:x0=[s.row]):vcAlone0 x0:=by
 subst e0
 have AL:Alone s↔(s.x=[]/\s.a.length<=8/\s.c.length<=16/\(∀a∈s.a,vName a.n=true/\vStr a.v=true)/\Asc (s.a.map Att.n)/\Keys (s.c.map Tree.y)):=by
  unfold Alone;simp[hk1,ht,hy]
 have part0:∀k:Int,Sx.part (rows s.c) 0 k=rows (s.c.take k.toNat):=fun k=>by simp[Sx.part,rows,List.map_take]
 unfold vcAlone0
 simp only[Nd,Nr,Ni,ln,I64,cI,cS,cB,cL,cell1,t0,t1,t2,t3,t4,t5,f9,p9,I8,bJ8,aloneRel,attInv,attMu,kidInv,kidMu,idxInv,idxMu,slMu,namedRel,textRel,namedPre,textPre,sPre,bO8,bP2,bO7,row_eq,bR7,forall_eq,A3,A0,bO2,bM3,ats_map,keysR_rows,AL,part0]
 refine bK7 (fun hx=>bK7 (fun h=>no_iff fun h'=>by omega) fun h8=>bK7 (fun h=>no_iff fun h'=>by omega) fun h16=>bK7 ⟨by omega,by omega,by simp,List.Pairwise.nil⟩ fun _ k ⟨k0,k1,k2,k3⟩=>bK7 (fun hk=>?_) fun hk=>?_) fun hx=>no_iff fun h=>hx h.1
 ·obtain⟨a,ha⟩:=Sx.get_at k0 hk
  have hm:=bI9 ha
  have hn:=map_get (f:=Att.n) ha
  rw[List.map_take]at k3
  simp only[i7 ha,at0,at1,p9]
  have st:vName a.n=true->vStr a.v=true-> ∀x∈s.a.take (k+1).toNat,vName x.n=true/\vStr x.v=true:=fun h1 h2 x hx=>by
   rw[take_step k0 ha,bL6,bO4]at hx
   rcases hx with hx|rfl
   ·exact k2 x hx
   ·exact⟨h1,h2⟩
  by_cases hk0:0<k
  ·obtain⟨b,hb⟩:=Sx.get_at (T:=s.a) (i:=k+ -1) (by omega) (by omega)
   have hbn:=map_get (f:=Att.n) hb
   simp only[i7 hb,at0,p9,List.map_take]
   repeat' first| (refine bK7 ?_ ?_)|intro _
   all_goals first|omega|exact no_iff fun h=>absurd (h.2.2.2.1 a hm).1 ‹_› |exact no_iff fun h=>absurd (h.2.2.2.1 a hm).2 ‹_› |exact no_iff fun h=>asc_bad hk0 hn hbn (.inl ‹_›) h.2.2.2.2.1|exact no_iff fun h=>asc_bad hk0 hn hbn (.inr ‹_›) h.2.2.2.2.1|exact st ‹_› ‹_› _ ‹_› |exact(st ‹_› ‹_› _ ‹_›).1|exact(st ‹_› ‹_› _ ‹_›).2|exact asc_step hk0 hn hbn (lt_tri (by unfold lt;simpa using‹¬Op.bytesLess a.n b.n=true›) ‹_›) k3
  ·obtain rfl:k=0:=by omega
   repeat' first| (refine bK7 ?_ ?_)|intro _
   all_goals first|omega|exact no_iff fun h=>absurd (h.2.2.2.1 a hm).1 ‹_› |exact no_iff fun h=>absurd (h.2.2.2.1 a hm).2 ‹_› |exact(st ‹_› ‹_› _ ‹_›).1|exact(st ‹_› ‹_› _ ‹_›).2| (rw[take_step (by omega) ha];exact List.pairwise_singleton _ _)
 ·rw[take_full (by omega)]at k2 k3
  refine bK7 ⟨by omega,by omega,List.Pairwise.nil⟩ fun _ j ⟨j0,j1,j2⟩=>bK7 (fun hj=>?_) fun hj=>?_
  ·obtain⟨c,hc⟩:=Sx.get_at j0 hj
   have hy:=map_get (f:=Tree.y) hc
   have hlen:((s.c.take j.toNat).length:Int)=j:=by rw[bL4];omega
   simp only[cell_rows hc,t2,p9,keysR_rows,bJ8,hlen]
   have nx:Keys ((s.c.map Tree.y).take (j+1).toNat)->(¬j+1< -9223372036854775808/\j+1<9223372036854775808)/\(¬j+1< -9223372036854775808/\j+1<9223372036854775808->(0<=j+1/\j+1<=(s.c.length:Int)/\Keys ((s.c.map Tree.y).take (j+1).toNat))/\(0<=j+1/\j+1<=(s.c.length:Int)/\Keys ((s.c.map Tree.y).take (j+1).toNat)->((s.c.length:Int)-(j+1)).toNat<((s.c.length:Int)-j).toNat)):=
    fun h=>⟨⟨by omega,by omega⟩,fun _=>⟨⟨by omega,by omega,h⟩,fun _=>by omega⟩⟩
   refine⟨by omega,fun _=>⟨hj,fun _=>⟨fun he=>nx (keys_step j0 hy j2 (.inl he)),fun he=>⟨by omega,fun _=>⟨by omega,fun _=>⟨⟨by omega,by omega,by simp⟩,fun _ i ⟨i0,i1,i2⟩=>bK7 (fun hi=>?_) fun hi=>nx (keys_step j0 hy j2 (.inr ?_))⟩⟩⟩⟩⟩⟩
   ·obtain⟨d,hd,hd',hij⟩:=get_part (l:=s.c) (k:=j) i0 (by omega)
    simp only[cell_rows hd',t2,p9]
    refine⟨by omega,fun _=>⟨by omega,fun _=>⟨fun e=>⟨fun h=>by omega,fun _=>no_iff fun h=>keys_bad (map_get (f:=Tree.y) hd) hy (by omega) he e h.2.2.2.2.2⟩,fun e=>⟨⟨by omega,by omega⟩,fun _=>⟨⟨by omega,by omega,fun z hz=>?_⟩,fun _=>by omega⟩⟩⟩⟩⟩
    rw[take_step i0 (map_get (f:=Tree.y) hd'),bL6,bO4]at hz
    rcases hz with hz|rfl
    ·exact i2 z hz
    ·exact e
   ·rw[take_full (by rw[bJ8];omega),List.map_take]at i2;exact i2
  ·rw[take_full (by rw[bJ8];omega)]at j2
   exact⟨fun _=>⟨hx,by omega,by omega,k2,k3,j2⟩,fun _=>by trivial⟩
theorem vcAlone_ok : vcAlone := by
 unfold vcAlone
 rintro _ ⟨s,rfl⟩
 have AL:=alone_loops s
 simp only[Nd,ln,cI,cS,cB,cL,cell1,t0,t1,t2,t3,t4,t5,f9,p9,I8,bJ8,aloneRel,namedRel,textRel,namedPre,textPre,sPre,bO8,bP2,bO7,row_eq,bR7,forall_eq,A3,A0,bO2,bM3]
 refine⟨fun hk=>?_,fun hk=>⟨fun h1=>⟨fun ht=>⟨fun hy=>AL hk h1 ht (.inl hy) _ rfl,fun hy=>⟨fun h2=>AL hk h1 ht (.inr h2) _ rfl,fun h2=>no_iff fun h=>?_⟩⟩,fun ht=>no_iff fun h=>?_⟩,fun h1=>no_iff fun h=>?_⟩⟩
 ·have AL : Alone s ↔ (vStr s.x = true ∧ s.t = [] ∧ s.y = [] ∧ s.a = [] ∧ s.c = []) := by
   unfold Alone;simp[hk]
  rw[AL]
  refine⟨fun a=>⟨fun b=>⟨fun c=>⟨fun d=>?_,fun d=>?_⟩,fun c=>?_⟩,fun b=>?_⟩,fun a=>?_⟩<;>simp_all [List.length_eq_zero_iff]
 all_goals
  rcases h with h|h
  ·omega
  ·grind
end Go.D
