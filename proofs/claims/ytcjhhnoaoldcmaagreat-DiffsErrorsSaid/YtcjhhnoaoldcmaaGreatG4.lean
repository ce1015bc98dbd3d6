/- The reference's Check: the condition of one holds.
  Conditions: none. -/
import Derived.Test.YtcjhhnoaoldcmaaGreatG3
set_option linter.unusedVariables false
set_option linter.unusedSimpArgs false
namespace Go.D
open Go Go.Xe Go.Sx
open Go.C36 (row t6 lis cLong cRlong longPre longRel rlongPre rlongRel)
theorem oa_inv {a:List Att}{i:Int}:oaInv [.lst (a.map Att.row)] [.int i]↔0<=i/\i<=(a.length:Int)/\(∀z∈a.take i.toNat,vName z.n=true/\vStr z.v=true)/\Asc ((a.take i.toNat).map Att.n):=by
 simp only[oaInv,ln,bJ8]
 exact⟨fun⟨h0,h1,h⟩=>⟨h0,h1,h a rfl⟩,fun⟨h0,h1,h⟩=>⟨h0,h1,fun b e=>by rw[<-at_inj e];exact h⟩⟩
theorem ob_inv {a:List Att}{i k:Int}:obInv [.lst (a.map Att.row),.int i] [.int k]↔0<=k/\k<=i/\i<(a.length:Int)/\ ∀z∈a.take k.toNat,lt z.n (a.getD i.toNat ⟨[],[]⟩).n=true:=by
 simp only[obInv,ln,bJ8]
 exact⟨fun⟨h0,h1,h2,h⟩=>⟨h0,h1,h2,h a rfl⟩,fun⟨h0,h1,h2,h⟩=>⟨h0,h1,h2,fun b e=>by rw[<-at_inj e];exact h⟩⟩
theorem asc_snoc {l:List Att}{b:Att}(h:Asc (l.map Att.n))(hb:∀z∈l,lt z.n b.n=true):Asc ((l++ [b]).map Att.n):=by
 unfold Asc at h⊢
 rw[bM6,List.pairwise_append]
 refine⟨h,List.pairwise_singleton ..,fun x hx y hy=>?_⟩
 obtain⟨z,hz,rfl⟩:=bQ2.1 hx
 cases bO4.1 hy
 exact hb z hz
theorem asc_at {l:List Att}(h:Asc (l.map Att.n)){i k:Nat}{a b:Att}(hk:l[k]? =some a)(hi:l[i]? =some b)(hki:k<i):lt a.n b.n=true:=pw_at h (map_get hk) (map_get hi) hki
theorem one_body (s:Tree)(hk:s.k=1)(ht:vName s.t=true)(hy:s.y=[]\/vName s.y=true):vcOne0 s.x (s.a.map Att.row) s.k s.t s.y (rows s.c):=by
 have AL:Alone s↔(s.x=[]/\s.a.length<=8/\s.c.length<=16/\(∀a∈s.a,vName a.n=true/\vStr a.v=true)/\Asc (s.a.map Att.n)/\Keys (s.c.map Tree.y)):=by
  unfold Alone
  constructor
  ·rintro (h|h)
   ·have:=h.1;omega
   ·exact h.2.2.2
  ·exact fun h=>.inr ⟨hk,ht,hy,h⟩
 have kr:=keysR_rows s.c
 unfold vcOne0
 simp only[Nd,I64,oneRel,isT_self,forall_eq,rnamePre,rstrPre,rnameRel,rstrRel,namedRel,textRel,sPre,cS,ocInv,odInv,oaMu,ocMu,obMu,odMu,slMu,kr,ln,bJ8,A3,A0,bO2,bP2,bO7,bM3]
 refine⟨fun hx=>⟨fun h8=>no_iff fun h=>?_,fun h8=>⟨fun h16=>no_iff fun h=>?_,fun h16=>⟨oa_inv.2 ⟨by omega,by omega,by simp,by simp[Asc]⟩,fun _ i hi=>⟨fun hil=>?_,fun hil=>?_⟩⟩⟩⟩,fun hx=>no_iff fun h=>hx (AL.1 h).1⟩
 ·have:=(AL.1 h).2.1;omega
 ·have:=(AL.1 h).2.2.1;omega
 ·obtain⟨i0,i1,g1,g2⟩:=oa_inv.1 hi
  obtain⟨b,hb⟩:=Sx.get_at i0 hil
  have hbm:=bI9 hb
  have hbD:s.a.getD i.toNat ⟨[],[]⟩=b:=by rw[bL0,hb];rfl
  simp only[i7 hb,at0,at1,p9,forall_eq]
  refine⟨by omega,fun _=>⟨hil,fun _=>⟨fun hn=>⟨by omega,fun _=>⟨hil,fun _=>⟨fun hv=>?_,fun hv=>no_iff fun h=>hv ((AL.1 h).2.2.2.1 b hbm).2⟩⟩⟩,fun hn=>no_iff fun h=>hn ((AL.1 h).2.2.2.1 b hbm).1⟩⟩⟩
  refine⟨ob_inv.2 ⟨by omega,by omega,hil,by simp⟩,fun _ k hkk=>⟨fun hki=>?_,fun hki=>?_⟩⟩
  ·obtain⟨k0,k1,k2,k3⟩:=ob_inv.1 hkk
   obtain⟨a,ha⟩:=Sx.get_at k0 (show k<(s.a.length:Int) by omega)
   simp only[i7 ha,at0,p9]
   refine⟨by omega,fun _=>⟨by omega,fun _=>⟨by omega,fun _=>⟨hil,fun _=>⟨fun hl=>⟨⟨by omega,by omega⟩,fun _=>⟨ob_inv.2 ⟨by omega,by omega,hil,?_⟩,fun _=>by omega⟩⟩,fun hl=>no_iff fun h=>hl (asc_at (AL.1 h).2.2.2.2.1 ha hb (by omega))⟩⟩⟩⟩⟩
   rw[take_step k0 ha]
   intro z hz
   rcases bL6.1 hz with hz|hz
   ·exact k3 z hz
   ·cases bO4.1 hz;rw[hbD];exact hl
  ·obtain⟨k0,k1,k2,k3⟩:=ob_inv.1 hkk
   have ek:k=i:=by omega
   subst ek
   rw[hbD]at k3
   refine⟨⟨by omega,by omega⟩,fun _=>⟨oa_inv.2 ⟨by omega,by omega,?_,?_⟩,fun _=>by omega⟩⟩
   ·rw[take_step i0 hb]
    intro z hz
    rcases bL6.1 hz with hz|hz
    ·exact g1 z hz
    ·cases bO4.1 hz;exact⟨hn,hv⟩
   ·rw[take_step i0 hb];exact asc_snoc g2 k3
 ·obtain⟨i0,i1,g1,g2⟩:=oa_inv.1 hi
  rw[take_full (by omega)]at g1 g2
  refine⟨⟨by omega,by omega,by simp[Keys]⟩,fun _ j ⟨j0,j1,j2⟩=>⟨fun hj=>?_,fun hj=>?_⟩⟩
  ·obtain⟨c,hc⟩:=Sx.get_at j0 hj
   have hcy:=map_get (f:=Tree.y) hc
   have hcD:(s.c.map Tree.y).getD j.toNat []=c.y:=by rw[bL0,hcy];rfl
   simp only[cell_rows hc,t2,p9,hcD]
   refine⟨⟨by omega,by omega,hj,.inr (by simp)⟩,fun _ k ⟨k0,k1,k2,k3⟩=>⟨fun hkj=>?_,fun hkj=>?_⟩⟩
   ·obtain⟨d,hd⟩:=Sx.get_at k0 (show k<(s.c.length:Int) by omega)
    have hdy:=map_get (f:=Tree.y) hd
    simp only[cell_rows hd,t2,p9]
    refine⟨by omega,fun _=>⟨hj,fun _=>⟨fun e=>⟨⟨by omega,by omega⟩,fun _=>⟨⟨by omega,by omega,hj,.inl e⟩,fun _=>by omega⟩⟩,fun e=>⟨by omega,fun _=>⟨hj,fun _=>⟨by omega,fun _=>⟨by omega,fun _=>⟨fun ee=>no_iff fun h=>keys_bad hdy hcy (by omega) e ee.symm (AL.1 h).2.2.2.2.2,fun ee=>⟨⟨by omega,by omega⟩,fun _=>⟨⟨by omega,by omega,hj,.inr fun z hz=>?_⟩,fun _=>by omega⟩⟩⟩⟩⟩⟩⟩⟩⟩⟩
    rw[take_step k0 hdy]at hz
    rcases bL6.1 hz with hz|hz
    ·exact(k3.resolve_left e) z hz
    ·cases bO4.1 hz;exact fun c=>ee c.symm
   ·have ek:k=j:=by omega
    subst ek
    refine⟨⟨by omega,by omega⟩,fun _=>⟨⟨by omega,by omega,keys_step j0 hcy j2 k3⟩,fun _=>by omega⟩⟩
  ·rw[take_full (by rw[bJ8];omega)]at j2
   exact⟨fun _=>AL.2 ⟨hx,by omega,by omega,g1,g2,j2⟩,fun _=>trivial⟩
theorem vcOne_ok : vcOne := by
 unfold vcOne
 rintro _ _ _ _ _ _ ⟨s,rfl,rfl,rfl,rfl,rfl,rfl⟩
 have B:=one_body s
 simp only[Nd,oneRel,isT_self,forall_eq,rnamePre,rstrPre,rnameRel,rstrRel,namedRel,textRel,sPre,ln,bJ8,A3,A0,bO2,bP2,bO7,bM3]
 refine⟨fun hk=>?_,fun hk=>⟨fun h1=>⟨fun ht=>⟨fun hy=>B h1 ht (.inl hy),fun hy=>⟨fun h2=>B h1 ht (.inr h2),fun h2=>no_iff fun h=>?_⟩⟩,fun ht=>no_iff fun h=>?_⟩,fun h1=>no_iff fun h=>?_⟩⟩
 ·have AL : Alone s ↔ (vStr s.x = true ∧ s.t = [] ∧ s.y = [] ∧ s.a = [] ∧ s.c = []) := by
   unfold Alone;simp[hk]
  rw[AL]
  refine⟨fun a=>⟨fun b=>⟨fun c=>⟨fun d=>?_,fun d=>?_⟩,fun c=>?_⟩,fun b=>?_⟩,fun a=>?_⟩<;>simp_all [List.length_eq_zero_iff]
 all_goals
  rcases h with h|h
  ·omega
  ·grind
end Go.D
