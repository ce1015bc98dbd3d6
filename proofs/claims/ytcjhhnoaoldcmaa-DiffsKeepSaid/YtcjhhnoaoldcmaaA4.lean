/- Trees: the condition of alone holds.
  Conditions: none. -/
import Derived.Test.YtcjhhnoaoldcmaaA3
set_option linter.unusedVariables false
set_option linter.unusedSimpArgs false
namespace Go.D
open Go Go.Xe Go.Sx
variable {k:Int}
theorem take_step {α:Type}{l:List α}{a:α}(h0:0<=k)(h:l[k.toNat]? =some a):l.take (k+1).toNat=l.take k.toNat++ [a]:=by rw[v8 h0,W2 h]
theorem take_full {α:Type}{l:List α}(h:(l.length:Int)<=k):l.take k.toNat=l:=bF0 (by omega)
theorem map_get {α c:Type}{f:α->c}{l:List α}{k:Nat}{a:α}(h:l[k]? =some a):(l.map f)[k]? =some (f a):=by rw[bF1,h];rfl
theorem pw_at {α:Type}{R:α->α->Prop}{l:List α}(h:l.Pairwise R){i j:Nat}{a b:α}(hi:l[i]? =some a)(hj:l[j]? =some b)(c:i<j):R a b:=by
 obtain⟨h1,rfl⟩:=bA4.1 hi
 obtain⟨h2,rfl⟩:=bA4.1 hj
 exact List.pairwise_iff_getElem.1 h i j h1 h2 c
variable {l:List Str}{a b:Str}
theorem asc_step (h0:0<k)(d:l[k.toNat]? =some a)(hb:l[(k+ -1).toNat]? =some b)(hl:lt b a=true)(h:Asc (l.take k.toNat)):Asc (l.take (k+1).toNat):=by
 unfold Asc at h⊢
 rw[take_step (by omega) d,List.pairwise_append]
 refine⟨h,List.pairwise_singleton _ _,fun x hx y hy=>?_⟩
 rw[bG5.1 hy]
 obtain⟨i,hi⟩:=bF5.1 hx
 have c:i<k.toNat:=by have:=(bA4.1 hi).1;rw[bD6]at this;omega
 by_cases e:i=(k+ -1).toNat
 ·rw[bD4,bC3 c,e,hb,bA1]at hi
  rw[<-hi];exact hl
 ·refine lt_trans (pw_at h hi (j:=(k+ -1).toNat) (b:=b) ?_ (by omega)) hl
  rw[bD4,bC3 (by omega)];exact hb
theorem asc_bad (h0:0<k)(c:l[k.toNat]? =some a)(hb:l[(k+ -1).toNat]? =some b)(h:lt a b=true\/a=b):¬Asc l:=fun hp=>by
 have:=pw_at hp hb c (by omega)
 rcases h with h|h
 ·rw[lt_asymm this]at h;cases h
 ·rw[h,lt_irrefl]at this;cases this
theorem keys_step (h0:0<=k)(c:l[k.toNat]? =some a)(h:Keys (l.take k.toNat))(hn:a=[]\/ ∀z∈l.take k.toNat,z≠a):Keys (l.take (k+1).toNat):=by
 unfold Keys at h⊢
 rw[take_step h0 c,List.pairwise_append]
 refine⟨h,List.pairwise_singleton _ _,fun x hx y hy h1=>?_⟩
 rw[bG5.1 hy]at h1⊢
 rcases hn with e|hn
 ·exact absurd e h1
 ·exact hn x hx
theorem keys_bad {i j:Nat}(hi:l[i]? =some a)(hj:l[j]? =some b)(c:i<j)(hb:b≠ [])(e:a=b):¬Keys l:=fun h=>pw_at h hi hj c hb e
theorem at0 (a:Att):a.row.getD 0 (.int 0)= .str a.n:=rfl
theorem at1 (a:Att):a.row.getD 1 (.int 0)= .str a.v:=rfl
theorem no_iff {p:Prop}(h:¬p):(false=true↔p):=⟨fun e=>(by cases e),fun e=>absurd e h⟩
theorem get_part {α:Type}{l:List α}{j:Int}(h0:0<=j)(h:j<((l.take k.toNat).length:Int)):∃a,l[j.toNat]? =some a/\(l.take k.toNat)[j.toNat]? =some a/\j<k:=by
 rw[bD6]at h
 have hj:j.toNat<l.length:=by omega
 exact⟨l[j.toNat],bB3 hj,by rw[bD4,bC3 (by omega)];exact bB3 hj,by omega⟩
theorem alone_loops (s:Tree)(hk:¬s.k=2)(w:s.k=1)(ht:vName s.t=true)(hy:s.y=[]\/vName s.y=true)(x0:Sx.Rows)(e0:x0=[s.row]):vcAlone0 x0:=by
 subst e0
 have C:Alone s↔(s.x=[]/\s.a.length<=8/\s.c.length<=16/\(∀a∈s.a,vName a.n=true/\vStr a.v=true)/\Asc (s.a.map Att.n)/\Keys (s.c.map Tree.y)):=by
  unfold Alone;simp[w,ht,hy]
 have o:∀k:Int,Sx.part (rows s.c) 0 k=rows (s.c.take k.toNat):=fun k=>by simp[Sx.part,rows,List.map_take]
 unfold vcAlone0
 simp only[Nd,Nr,Ni,ln,I64,cI,cS,cB,cL,cell1,t0,t1,t2,t3,t4,t5,n7,i5,C9,bC0,aloneRel,attInv,attMu,kidInv,kidMu,idxInv,idxMu,slMu,namedRel,textRel,namedPre,textPre,sPre,bG9,bH2,bG8,row_eq,bJ1,forall_eq,B9,B8,bG3,bE5,ats_map,keysR_rows,C,o]
 refine bC9 (fun hx=>bC9 (fun h=>no_iff fun h'=>by omega) fun F=>bC9 (fun h=>no_iff fun h'=>by omega) fun D=>bC9 ⟨by omega,by omega,by simp,List.Pairwise.nil⟩ fun _ k ⟨k0,k1,k2,k3⟩=>bC9 (fun hk=>?_) fun hk=>?_) fun hx=>no_iff fun h=>hx h.1
 ·obtain⟨a,p⟩:=Sx.get_at k0 hk
  have hm:=bB1 p
  have hn:=map_get (f:=Att.n) p
  rw[List.map_take]at k3
  simp only[G0 p,at0,at1,i5]
  have st:vName a.n=true->vStr a.v=true-> ∀x∈s.a.take (k+1).toNat,vName x.n=true/\vStr x.v=true:=fun h1 h2 x hx=>by
   rw[take_step k0 p,bD8,bG5]at hx
   rcases hx with hx|rfl
   ·exact k2 x hx
   ·exact⟨h1,h2⟩
  by_cases m:0<k
  ·obtain⟨b,hb⟩:=Sx.get_at (T:=s.a) (i:=k+ -1) (by omega) (by omega)
   have g:=map_get (f:=Att.n) hb
   simp only[G0 hb,at0,i5,List.map_take]
   repeat' first| (refine bC9 ?_ ?_)|intro _
   all_goals first|omega|exact no_iff fun h=>absurd (h.2.2.2.1 a hm).1 ‹_› |exact no_iff fun h=>absurd (h.2.2.2.1 a hm).2 ‹_› |exact no_iff fun h=>asc_bad m hn g (.inl ‹_›) h.2.2.2.2.1|exact no_iff fun h=>asc_bad m hn g (.inr ‹_›) h.2.2.2.2.1|exact st ‹_› ‹_› _ ‹_› |exact(st ‹_› ‹_› _ ‹_›).1|exact(st ‹_› ‹_› _ ‹_›).2|exact asc_step m hn g (lt_tri (by unfold lt;simpa using‹¬Op.bytesLess a.n b.n=true›) ‹_›) k3
  ·obtain rfl:k=0:=by omega
   repeat' first| (refine bC9 ?_ ?_)|intro _
   all_goals first|omega|exact no_iff fun h=>absurd (h.2.2.2.1 a hm).1 ‹_› |exact no_iff fun h=>absurd (h.2.2.2.1 a hm).2 ‹_› |exact(st ‹_› ‹_› _ ‹_›).1|exact(st ‹_› ‹_› _ ‹_›).2| (rw[take_step (by omega) p];exact List.pairwise_singleton _ _)
 ·rw[take_full (by omega)]at k2 k3
  refine bC9 ⟨by omega,by omega,List.Pairwise.nil⟩ fun _ j ⟨B,G,u⟩=>bC9 (fun hj=>?_) fun hj=>?_
  ·obtain⟨c,hc⟩:=Sx.get_at B hj
   have hy:=map_get (f:=Tree.y) hc
   have r:((s.c.take j.toNat).length:Int)=j:=by rw[bD6];omega
   simp only[cell_rows hc,t2,i5,keysR_rows,bC0,r]
   have nx:Keys ((s.c.map Tree.y).take (j+1).toNat)->(¬j+1< -9223372036854775808/\j+1<9223372036854775808)/\(¬j+1< -9223372036854775808/\j+1<9223372036854775808->(0<=j+1/\j+1<=(s.c.length:Int)/\Keys ((s.c.map Tree.y).take (j+1).toNat))/\(0<=j+1/\j+1<=(s.c.length:Int)/\Keys ((s.c.map Tree.y).take (j+1).toNat)->((s.c.length:Int)-(j+1)).toNat<((s.c.length:Int)-j).toNat)):=
    fun h=>⟨⟨by omega,by omega⟩,fun _=>⟨⟨by omega,by omega,h⟩,fun _=>by omega⟩⟩
   refine⟨by omega,fun _=>⟨hj,fun _=>⟨fun he=>nx (keys_step B hy u (.inl he)),fun he=>⟨by omega,fun _=>⟨by omega,fun _=>⟨⟨by omega,by omega,by simp⟩,fun _ i ⟨i0,i1,A⟩=>bC9 (fun hi=>?_) fun hi=>nx (keys_step B hy u (.inr ?_))⟩⟩⟩⟩⟩⟩
   ·obtain⟨d,hd,q,E⟩:=get_part (l:=s.c) (k:=j) i0 (by omega)
    simp only[cell_rows q,t2,i5]
    refine⟨by omega,fun _=>⟨by omega,fun _=>⟨fun e=>⟨fun h=>by omega,fun _=>no_iff fun h=>keys_bad (map_get (f:=Tree.y) hd) hy (by omega) he e h.2.2.2.2.2⟩,fun e=>⟨⟨by omega,by omega⟩,fun _=>⟨⟨by omega,by omega,fun z hz=>?_⟩,fun _=>by omega⟩⟩⟩⟩⟩
    rw[take_step i0 (map_get (f:=Tree.y) q),bD8,bG5]at hz
    rcases hz with hz|rfl
    ·exact A z hz
    ·exact e
   ·rw[take_full (by rw[bC0];omega),List.map_take]at A;exact A
  ·rw[take_full (by rw[bC0];omega)]at u
   exact⟨fun _=>⟨hx,by omega,by omega,k2,k3,u⟩,fun _=>by trivial⟩
theorem vcAlone_ok : vcAlone := by
 unfold vcAlone
 rintro _ ⟨s,rfl⟩
 have e:=alone_loops s
 simp only[Nd,ln,cI,cS,cB,cL,cell1,t0,t1,t2,t3,t4,t5,n7,i5,C9,bC0,aloneRel,namedRel,textRel,namedPre,textPre,sPre,bG9,bH2,bG8,row_eq,bJ1,forall_eq,B9,B8,bG3,bE5]
 refine⟨fun hk=>?_,fun hk=>⟨fun h1=>⟨fun ht=>⟨fun hy=>e hk h1 ht (.inl hy) _ rfl,fun hy=>⟨fun h2=>e hk h1 ht (.inr h2) _ rfl,fun h2=>no_iff fun h=>?_⟩⟩,fun ht=>no_iff fun h=>?_⟩,fun h1=>no_iff fun h=>?_⟩⟩
 ·have  e : Alone s ↔ (vStr s.x = true ∧ s.t = [] ∧ s.y = [] ∧ s.a = [] ∧ s.c = []) := by
   unfold Alone;simp[hk]
  rw[e]
  refine⟨fun a=>⟨fun b=>⟨fun c=>⟨fun d=>?_,fun d=>?_⟩,fun c=>?_⟩,fun b=>?_⟩,fun a=>?_⟩<;>simp_all [List.length_eq_zero_iff]
 all_goals
  rcases h with h|h
  ·omega
  ·grind
end Go.D
