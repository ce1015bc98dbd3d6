/- The reference's Check: the conditions of Name, Str and one hold.
  Conditions: none. -/
import Derived.Test.YtcjhhnoaoldcmaaN2
import Derived.Test.YtcjhhnoaoldcmaaA5
set_option linter.unusedVariables false
set_option linter.unusedSimpArgs false
namespace Go.D
open Go Go.Xe Go.Sx
open Go.C36 (row j8 lis cLong cRlong longPre longRel rlongPre rlongRel)
theorem vcRname_ok :vcRname:=by
 unfold vcRname vcRname0 Nd
 intro s hp
 have F:¬(s.length:Int)<1->16<s.length\/s.all nameB=true->(!decide (16<(s.length:Int)))=vName s:=fun h h2=>by
  by_cases c:16<s.length
  ·rw[vName_len (.inr c),decide_eq_true (by omega)];rfl
  ·rw[vName_yes (by omega) (by omega) (h2.resolve_left c),bH5 (by omega)];rfl
 simp only[ln,I64,rnameRel,namedRel,rnInv,nmInv,rnMu,slMu,B9,B8,bG3,bH2,bG8,bE5]
 refine⟨⟨by omega,by omega,rfl⟩,fun _ k ⟨k0,k1,k2⟩=>⟨fun hk=>⟨fun a=>?_,fun a=>⟨fun h=>(vName_len (.inl (by omega))).symm,fun h=>F h (.inl (by omega))⟩⟩,fun hk=>⟨fun h=>(vName_len (.inl (by omega))).symm,fun h=>F h (.inr (take_all_of k2 (by omega)))⟩⟩⟩
 obtain⟨b,hb,d⟩:=byte_at k0 hk
 rw[d]
 repeat' first| (refine bC9 ?_ ?_)|intro _
 all_goals first|omega|exact(vName_all (all_bad hb (nameB_not (by omega)))).symm|exact all_step hb k0 k2 (nameB_of (by omega))
theorem vcRstr_ok :vcRstr:=by
 unfold vcRstr Nd
 intro s hp
 simp only[ln,I64,rstrRel,textRel,rsInv,stInv,rsMu,slMu,B9,B8,bG3,bH2,bG8,bE5]
 refine⟨fun h=>(vStr_len (by omega)).symm,fun h=>⟨⟨by omega,by omega,rfl⟩,fun _ k ⟨k0,k1,k2⟩=>⟨fun hk=>?_,fun hk=>(vStr_yes (by omega) (take_all_of k2 (by omega))).symm⟩⟩⟩
 obtain⟨b,hb,a⟩:=byte_at k0 hk
 rw[a]
 repeat' first| (refine bC9 ?_ ?_)|intro _
 all_goals first|omega|exact(vStr_all (all_bad hb (strB_not (by omega)))).symm|exact all_step hb k0 k2 (strB_of (by omega) (by omega))
open Go Go.Xe Go.Sx
open Go.C36 (row j8 lis cLong cRlong longPre longRel rlongPre rlongRel)
variable {a:List Att}
theorem oa_inv {i:Int}:oaInv [.lst (a.map Att.row)] [.int i]↔0<=i/\i<=(a.length:Int)/\(∀z∈a.take i.toNat,vName z.n=true/\vStr z.v=true)/\Asc ((a.take i.toNat).map Att.n):=by
 simp only[oaInv,ln,bC0]
 exact⟨fun⟨h0,h1,h⟩=>⟨h0,h1,h a rfl⟩,fun⟨h0,h1,h⟩=>⟨h0,h1,fun b e=>by rw[<-at_inj e];exact h⟩⟩
theorem ob_inv {i k:Int}:obInv [.lst (a.map Att.row),.int i] [.int k]↔0<=k/\k<=i/\i<(a.length:Int)/\ ∀z∈a.take k.toNat,lt z.n (a.getD i.toNat ⟨[],[]⟩).n=true:=by
 simp only[obInv,ln,bC0]
 exact⟨fun⟨h0,h1,h2,h⟩=>⟨h0,h1,h2,h a rfl⟩,fun⟨h0,h1,h2,h⟩=>⟨h0,h1,h2,fun b e=>by rw[<-at_inj e];exact h⟩⟩
variable {l:List Att}
theorem asc_snoc {b:Att}(h:Asc (l.map Att.n))(hb:∀z∈l,lt z.n b.n=true):Asc ((l++ [b]).map Att.n):=by
 unfold Asc at h⊢
 rw[bE8,List.pairwise_append]
 refine⟨h,List.pairwise_singleton ..,fun x hx y hy=>?_⟩
 obtain⟨z,hz,rfl⟩:=bI1.1 hx
 cases bG5.1 hy
 exact hb z hz
theorem asc_at (h:Asc (l.map Att.n)){i k:Nat}{a b:Att}(hk:l[k]? =some a)(hi:l[i]? =some b)(c:k<i):lt a.n b.n=true:=pw_at h (map_get hk) (map_get hi) c
theorem one_body (s:Tree)(hk:s.k=1)(ht:vName s.t=true)(hy:s.y=[]\/vName s.y=true):vcOne0 s.x (s.a.map Att.row) s.k s.t s.y (rows s.c):=by
 have AL:Alone s↔(s.x=[]/\s.a.length<=8/\s.c.length<=16/\(∀a∈s.a,vName a.n=true/\vStr a.v=true)/\Asc (s.a.map Att.n)/\Keys (s.c.map Tree.y)):=by
  unfold Alone
  constructor
  ·rintro (h|h)
   ·have:=h.1;omega
   ·exact h.2.2.2
  ·exact fun h=>.inr ⟨hk,ht,hy,h⟩
 have L:=keysR_rows s.c
 unfold vcOne0
 simp only[Nd,I64,oneRel,isT_self,forall_eq,rnamePre,rstrPre,rnameRel,rstrRel,namedRel,textRel,sPre,cS,ocInv,odInv,oaMu,ocMu,obMu,odMu,slMu,L,ln,bC0,B9,B8,bG3,bH2,bG8,bE5]
 refine⟨fun hx=>⟨fun K=>no_iff fun h=>?_,fun K=>⟨fun C=>no_iff fun h=>?_,fun C=>⟨oa_inv.2 ⟨by omega,by omega,by simp,by simp[Asc]⟩,fun _ i hi=>⟨fun g=>?_,fun g=>?_⟩⟩⟩⟩,fun hx=>no_iff fun h=>hx (AL.1 h).1⟩
 ·have:=(AL.1 h).2.1;omega
 ·have:=(AL.1 h).2.2.1;omega
 ·obtain⟨i0,i1,u,w⟩:=oa_inv.1 hi
  obtain⟨b,hb⟩:=Sx.get_at i0 g
  have p:=bB1 hb
  have o:s.a.getD i.toNat ⟨[],[]⟩=b:=by rw[bD2,hb];rfl
  simp only[G0 hb,at0,at1,i5,forall_eq]
  refine⟨by omega,fun _=>⟨g,fun _=>⟨fun hn=>⟨by omega,fun _=>⟨g,fun _=>⟨fun H=>?_,fun H=>no_iff fun h=>H ((AL.1 h).2.2.2.1 b p).2⟩⟩⟩,fun hn=>no_iff fun h=>hn ((AL.1 h).2.2.2.1 b p).1⟩⟩⟩
  refine⟨ob_inv.2 ⟨by omega,by omega,g,by simp⟩,fun _ k r=>⟨fun F=>?_,fun F=>?_⟩⟩
  ·obtain⟨k0,k1,k2,k3⟩:=ob_inv.1 r
   obtain⟨a,D⟩:=Sx.get_at k0 (show k<(s.a.length:Int) by omega)
   simp only[G0 D,at0,i5]
   refine⟨by omega,fun _=>⟨by omega,fun _=>⟨by omega,fun _=>⟨g,fun _=>⟨fun hl=>⟨⟨by omega,by omega⟩,fun _=>⟨ob_inv.2 ⟨by omega,by omega,g,?_⟩,fun _=>by omega⟩⟩,fun hl=>no_iff fun h=>hl (asc_at (AL.1 h).2.2.2.2.1 D hb (by omega))⟩⟩⟩⟩⟩
   rw[take_step k0 D]
   intro z hz
   rcases bD8.1 hz with hz|hz
   ·exact k3 z hz
   ·cases bG5.1 hz;rw[o];exact hl
  ·obtain⟨k0,k1,k2,k3⟩:=ob_inv.1 r
   have B:k=i:=by omega
   subst B
   rw[o]at k3
   refine⟨⟨by omega,by omega⟩,fun _=>⟨oa_inv.2 ⟨by omega,by omega,?_,?_⟩,fun _=>by omega⟩⟩
   ·rw[take_step i0 hb]
    intro z hz
    rcases bD8.1 hz with hz|hz
    ·exact u z hz
    ·cases bG5.1 hz;exact⟨hn,H⟩
   ·rw[take_step i0 hb];exact asc_snoc w k3
 ·obtain⟨i0,i1,u,w⟩:=oa_inv.1 hi
  rw[take_full (by omega)]at u w
  refine⟨⟨by omega,by omega,by simp[Keys]⟩,fun _ j ⟨J,M,I⟩=>⟨fun hj=>?_,fun hj=>?_⟩⟩
  ·obtain⟨c,hc⟩:=Sx.get_at J hj
   have m:=map_get (f:=Tree.y) hc
   have E:(s.c.map Tree.y).getD j.toNat []=c.y:=by rw[bD2,m];rfl
   simp only[cell_rows hc,t2,i5,E]
   refine⟨⟨by omega,by omega,hj,.inr (by simp)⟩,fun _ k ⟨k0,k1,k2,k3⟩=>⟨fun G=>?_,fun G=>?_⟩⟩
   ·obtain⟨d,hd⟩:=Sx.get_at k0 (show k<(s.c.length:Int) by omega)
    have q:=map_get (f:=Tree.y) hd
    simp only[cell_rows hd,t2,i5]
    refine⟨by omega,fun _=>⟨hj,fun _=>⟨fun e=>⟨⟨by omega,by omega⟩,fun _=>⟨⟨by omega,by omega,hj,.inl e⟩,fun _=>by omega⟩⟩,fun e=>⟨by omega,fun _=>⟨hj,fun _=>⟨by omega,fun _=>⟨by omega,fun _=>⟨fun A=>no_iff fun h=>keys_bad q m (by omega) e A.symm (AL.1 h).2.2.2.2.2,fun A=>⟨⟨by omega,by omega⟩,fun _=>⟨⟨by omega,by omega,hj,.inr fun z hz=>?_⟩,fun _=>by omega⟩⟩⟩⟩⟩⟩⟩⟩⟩⟩
    rw[take_step k0 q]at hz
    rcases bD8.1 hz with hz|hz
    ·exact(k3.resolve_left e) z hz
    ·cases bG5.1 hz;exact fun c=>A c.symm
   ·have B:k=j:=by omega
    subst B
    refine⟨⟨by omega,by omega⟩,fun _=>⟨⟨by omega,by omega,keys_step J m I k3⟩,fun _=>by omega⟩⟩
  ·rw[take_full (by rw[bC0];omega)]at I
   exact⟨fun _=>AL.2 ⟨hx,by omega,by omega,u,w,I⟩,fun _=>trivial⟩
theorem vcOne_ok : vcOne := by
 unfold vcOne
 rintro _ _ _ _ _ _ ⟨s,rfl,rfl,rfl,rfl,rfl,rfl⟩
 have B:=one_body s
 simp only[Nd,oneRel,isT_self,forall_eq,rnamePre,rstrPre,rnameRel,rstrRel,namedRel,textRel,sPre,ln,bC0,B9,B8,bG3,bH2,bG8,bE5]
 refine⟨fun hk=>?_,fun hk=>⟨fun h1=>⟨fun ht=>⟨fun hy=>B h1 ht (.inl hy),fun hy=>⟨fun h2=>B h1 ht (.inr h2),fun h2=>no_iff fun h=>?_⟩⟩,fun ht=>no_iff fun h=>?_⟩,fun h1=>no_iff fun h=>?_⟩⟩
 ·have  e : Alone s ↔ (vStr s.x = true ∧ s.t = [] ∧ s.y = [] ∧ s.a = [] ∧ s.c = []) := by
   unfold Alone;simp[hk]
  rw[e]
  refine⟨fun a=>⟨fun b=>⟨fun c=>⟨fun d=>?_,fun d=>?_⟩,fun c=>?_⟩,fun b=>?_⟩,fun a=>?_⟩<;>simp_all [List.length_eq_zero_iff]
 all_goals
  rcases h with h|h
  ·omega
  ·grind
end Go.D
