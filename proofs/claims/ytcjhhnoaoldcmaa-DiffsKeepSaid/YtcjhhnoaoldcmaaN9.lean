/- Trees that are the same: the conditions hold.
  Conditions: none. -/
import Derived.Test.YtcjhhnoaoldcmaaN7
import Derived.Test.YtcjhhnoaoldcmaaA5
import Derived.Test.YtcjhhnoaoldcmaaC5
set_option linter.unusedVariables false
set_option linter.unusedSimpArgs false
namespace Go.D
open Go Go.Xe Go.Sx
open Go.C36 (row j8 lis cLong cRlong longPre longRel rlongPre rlongRel)
theorem att_ext {a b:Att}(h1:a.n=b.n)(h2:a.v=b.v):a=b:=by cases a;cases b;simp_all
theorem take_map_eq {α:Type}{f:α->List Dat}(hf:∀a b,f a=f b->a=b){l m:List α}{k:Nat}(h:(l.map f).take k=(m.map f).take k):l.take k=m.take k:=by
 rw[<-List.map_take,<-List.map_take]at h
 exact map_inj_of hf h
theorem vcEqu_ok (N : Nat) : vcEqu N := by
 unfold vcEqu
 rintro _ _ _ _ _ _ _ _ _ _ _ _ ⟨⟨⟨s,⟨rfl,rfl,rfl,rfl,rfl,rfl⟩,I⟩,s',⟨rfl,rfl,rfl,rfl,rfl,rfl⟩,J⟩,p⟩
 have p:szRs (rows s.c)<N+1:=p
 have A:=(AllA_iff s).1 I
 have B:=(AllA_iff s').1 J
 obtain⟨E,O⟩:=alone_c A.1
 obtain⟨F,P⟩:=alone_c B.1
 have no:s≠s'->equRel [.int s.k,.str s.t,.str s.y,.lst (s.a.map Att.row),.str s.x,.lst (rows s.c),.int s'.k,.str s'.t,.str s'.y,.lst (s'.a.map Att.row),.str s'.x,.lst (rows s'.c)] [.int 0]:=fun h a b l hb=>by
  rw[isT_self]at l hb
  subst l;subst hb
  exact⟨fun c=>absurd c h,fun _=>rfl⟩
 have q:ln (s.a.map Att.row)=(s.a.length:Int):=by simp[ln]
 have D:ln (s'.a.map Att.row)=(s'.a.length:Int):=by simp[ln]
 have n:ln (rows s.c)=(s.c.length:Int):=by simp[ln]
 have v:ln (rows s'.c)=(s'.c.length:Int):=by simp[ln]
 have o:∀a b:Att,a.row=b.row->a=b:=fun a b h=>by
  have:=at_inj (a:=[a]) (b:=[b]) (by simp[h])
  simpa using this
 simp only[Nd,I64,q,D,n,v,bH2,bG3]
 refine⟨fun hk=>⟨fun ht=>⟨fun hy=>⟨fun hx=>⟨fun l=>⟨fun hc=>⟨⟨by omega,by simp[ln],by simp[ln];omega,by simp⟩,fun _ i ⟨i0,i1,Q,w⟩=>⟨fun hi=>?_,fun hi=>?_⟩⟩,fun h=>no fun e=>h (by rw[e])⟩,fun h=>no fun e=>h (by rw[e])⟩,fun h=>no fun e=>h (by rw[e])⟩,fun h=>no fun e=>h (by rw[e])⟩,fun h=>no fun e=>h (by rw[e])⟩,fun h=>no fun e=>h (by rw[e])⟩
 ·obtain⟨a,f⟩:=Sx.get_at i0 hi
  obtain⟨b,g⟩:=Sx.get_at i0 (show i<(s'.a.length:Int) by omega)
  have u:a≠b->s≠s':=fun h e=>h (by
   have d:=f
   rw[e]at d
   rw[g]at d
   exact(bC7 d).symm)
  simp only[cS,G0 f,G0 g,at0,at1,i5]
  refine⟨by omega,fun _=>⟨hi,fun _=>⟨by omega,fun _=>⟨by omega,fun _=>⟨fun h1=>⟨fun h2=>⟨⟨by omega,by omega⟩,fun _=>⟨⟨by omega,by rw[q];omega,by rw[q,D];exact l,?_⟩,fun _=>?_⟩⟩,fun h2=>no (u fun e=>h2 (by rw[e]))⟩,fun h1=>no (u fun e=>h1 (by rw[e]))⟩⟩⟩⟩⟩
  ·rw[take_step i0 (map_get f),take_step i0 (map_get g),w,att_ext h1 h2]
  ·show(((s.a.map Att.row).length:Int)-(i+1)).toNat<(((s.a.map Att.row).length:Int)-i).toNat
   rw[bC0];omega
 ·have  G : s.a = s'.a := by
   have:=take_map_eq o w
   rwa[take_full (by rw[q]at i1;omega),take_full (by rw[q]at i1;omega)]at this
  refine⟨⟨by omega,by simp[ln],by rw[n,v];exact hc,by simp⟩,fun _ j ⟨r,z,R,C⟩=>⟨fun hj=>?_,fun hj=>?_⟩⟩
  ·obtain⟨a,f⟩:=Sx.get_at r hj
   obtain⟨b,g⟩:=Sx.get_at r (show j<(s'.c.length:Int) by omega)
   have u:a≠b->s≠s':=fun h e=>h (by
    have d:=f
    rw[e]at d
    rw[g]at d
    exact(bC7 d).symm)
   have K:=szRs_mem f
   simp only[cI,cS,cL,cell_rows f,cell_rows g,t0,t1,t2,t3,t4,t5,n7,i5,C9]
   refine⟨by omega,fun _=>⟨hj,fun _=>⟨by omega,fun _=>⟨by omega,fun _=>⟨⟨⟨⟨a,⟨rfl,rfl,rfl,rfl,rfl,rfl⟩,AllAs_mem A.2 f⟩,b,⟨rfl,rfl,rfl,rfl,rfl,rfl⟩,AllAs_mem B.2 g⟩,by show szRs (rows a.c)<N;omega⟩,fun _ m hm=>?_⟩⟩⟩⟩⟩
   obtain⟨L,M⟩:=hm a b ⟨rfl,rfl,rfl,rfl,rfl,rfl⟩ ⟨rfl,rfl,rfl,rfl,rfl,rfl⟩
   refine⟨fun h0=>no (u fun e=>by have:=L e;omega),fun h0=>⟨⟨by omega,by omega⟩,fun _=>⟨⟨by omega,by rw[n];omega,by rw[n,v];exact hc,?_⟩,fun _=>?_⟩⟩⟩
   ·have e:a=b:=Classical.byContradiction fun c=>h0 (M c)
    show(s.c.map Tree.row).take _=(s'.c.map Tree.row).take _
    rw[take_step r (map_get f),take_step r (map_get g),e]
    exact congrArg (· ++_) C
   ·show(((rows s.c).length:Int)-(j+1)).toNat<(((rows s.c).length:Int)-j).toNat
    rw[bC0];omega
  ·have  H : s.c = s'.c := by
    have:=take_map_eq (fun a b=>row_inj) C
    rwa[take_full (by rw[n]at z;omega),take_full (by rw[n]at z;omega)]at this
   have e:=tree_ext hk ht hy G hx H
   intro a b l hb
   rw[isT_self]at l hb
   subst l;subst hb
   exact⟨fun _=>rfl,fun c=>absurd e c⟩
theorem vcSam_ok :vcSam:=by
 unfold vcSam
 rintro _ _ _ _ _ _ _ _ _ _ _ _ ⟨⟨s,rfl,rfl,rfl,rfl,rfl,rfl⟩,s',rfl,rfl,rfl,rfl,rfl,rfl⟩
 have R:∀n:Int,((Valid s/\s=s'->n=1)/\(¬(Valid s/\s=s')->n=0))->samRel [.int s.k,.str s.t,.str s.y,.lst (s.a.map Att.row),.str s.x,.lst (rows s.c),.int s'.k,.str s'.t,.str s'.y,.lst (s'.a.map Att.row),.str s'.x,.lst (rows s'.c)] [.int n]:=fun n h a b f hb=>by
  rw[isT_self]at f hb
  subst f;subst hb
  exact h
 simp only[Nd]
 refine⟨⟨s,rfl,rfl,rfl,rfl,rfl,rfl⟩,fun _ e he=>⟨fun h0=>⟨⟨s',rfl,rfl,rfl,rfl,rfl,rfl⟩,fun _ j d=>⟨fun h2=>?_,fun h2=>⟨R _ ⟨?_,fun _=>rfl⟩,fun _=>trivial⟩⟩⟩,fun h0=>⟨R _ ⟨?_,fun _=>rfl⟩,fun _=>trivial⟩⟩⟩
 ·have v:=(he s ⟨rfl,rfl,rfl,rfl,rfl,rfl⟩).1.1 h0
  have v':=(d s' ⟨rfl,rfl,rfl,rfl,rfl,rfl⟩).1.1 h2
  refine⟨⟨⟨s,⟨rfl,rfl,rfl,rfl,rfl,rfl⟩,v.1⟩,s',⟨rfl,rfl,rfl,rfl,rfl,rfl⟩,v'.1⟩,fun _ n hn=>⟨R n ?_,fun _=>trivial⟩⟩
  obtain⟨g,i⟩:=hn s s' ⟨rfl,rfl,rfl,rfl,rfl,rfl⟩ ⟨rfl,rfl,rfl,rfl,rfl,rfl⟩
  exact⟨fun h=>g h.2,fun h=>i fun c=>h ⟨v,c⟩⟩
 ·exact fun h=>absurd ((d s' ⟨rfl,rfl,rfl,rfl,rfl,rfl⟩).1.2 (h.2▸h.1)) h2
 ·exact fun h=>absurd ((he s ⟨rfl,rfl,rfl,rfl,rfl,rfl⟩).1.2 h.1) h0
open Go Go.Xe Go.Sx
open Go.C36 (row j8 lis frm maxL pickL best)
theorem lastIx_at {f:Nat->List KV}{s:List KV}{j:Nat}(hs:f j=s):∀ {n:Nat},j<n->0<=lastIx f n s
 |0,h=>by omega
 |n+1,h=>by
  unfold lastIx
  split
  ·omega
  ·rename_i c
   by_cases e:j=n
   ·subst e;exact absurd hs c
   ·exact lastIx_at hs (by omega)
theorem mtch_self {c:List Tree}(hk:Keys (c.map Tree.y)):mtch c c=(List.range c.length).map Int.ofNat:=by
 unfold mtch
 refine List.map_congr_left fun i hi=>?_
 have hi:=List.mem_range.1 hi
 have h0:=lastIx_at (f:=spotAt c) rfl hi
 have h1:=lastIx_lt (spotAt c) (spotAt c i) c.length
 have h2:=lastIx_eq (spotAt c) (spotAt c i) c.length h0
 have:=spot_inj hk (by omega) hi h2
 show _=(i:Int)
 omega
theorem range_mem {n i:Nat}(h:i<n):(i:Int)∈(List.range n).map Int.ofNat:=bI1.2 ⟨i,List.mem_range.2 h,rfl⟩
end Go.D
