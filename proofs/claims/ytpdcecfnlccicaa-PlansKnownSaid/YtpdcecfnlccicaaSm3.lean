/- The symbolic engine, parts 23, 24, 25, 26, 27, 28, 29, 30, 31, 32, 33, 34, 35, 36, 37, 38, 39, 40, 45.
  Conditions: none. -/
import Derived.Test.YtpdcecfnlccicaaSm2
import Derived.Carry
import Derived.OpenShut
namespace Go.Sx
open Go.Xe
def newKeys : Nat→List (Nat × Option SBlk)→List Nat
 | 0,_=>[]
 | _+1,[]=>[]
 | n+1,(k,_) :: l=>k :: newKeys n l
theorem newKeys_app (l h : List (Nat × Option SBlk)) : newKeys l.length (l ++ h)=l.map Prod.fst:=by
 induction l with
 | nil=>rfl
 | cons a l ih=>obtain ⟨k,x⟩:=a; simp only [List.length_cons,List.cons_append,newKeys,List.map_cons,ih]
theorem lk_skip {α : Type} {b : Nat} : ∀ (l h : List (Nat × α)),b ∉ l.map Prod.fst→lk (l ++ h) b=lk h b
 | [],_,_=>rfl
 | (k,x) :: l,h,hb=>by
  simp only [List.map_cons,List.mem_cons,not_or] at hb
  rw [List.cons_append,lk_cons,if_neg (fun e=>hb.1 e.symm)]
  exact lk_skip l h hb.2
def newFr : Nat→List (Nat × Option SBlk)→Bool
 | 0,_=>false
 | _+1,[]=>false
 | n+1,(_,x) :: l=>match x with
  | none=>true
  | some _=>newFr n l
theorem newFr_app (l h : List (Nat × Option SBlk)) (hf : newFr l.length (l ++ h)=false) : ∀ p ∈ l,p.2 ≠ none:=by
 induction l with
 | nil=>exact fun p hp=>by simp at hp
 | cons a l ih =>
  obtain ⟨k,x⟩:=a
  intro p hp
  simp only [List.length_cons,List.cons_append,newFr] at hf
  cases x with
  | none=>cases hf
  | some y =>
   rcases List.mem_cons.1 hp with rfl | hp
   ·exact fun e=>by cases e
   ·exact ih hf p hp
def quiet {α : Type} (m : M α) : M α:=fun s=>(m s).bind fun r=>bif Nat.beq r.2.h.length s.h.length && Nat.beq r.2.nx s.nx then mret r.1 r.2 else mfail "a region: an operation that should leave the memory alone" r.2
def keyed {α : Type} (n : Nat) (m : M α) : M (α × List Nat × Bool):=fun s=>(m s).bind fun r=>mret (r.1,newKeys (r.2.h.length - n) r.2.h,newFr (r.2.h.length - n) r.2.h) r.2
def mpend : M Nat:=fun s=>mret s.nx (spend s)
def mtakes (pd : List Pd) : M Unit:=fun s=>mret () (stake s pd)
def liveR (r : Rd) : M Unit:=match r with
 | .blk b=>mread fun s=>match s.get b with
  | some _=>mret ()
  | none=>mfail "a region: read"
 | _=>mret ()
def isK3 (o : Oper) : Bool:=Nat.beq (okind o.op) 3
section
variable (P : Program) (U : Nat→List Dat→Dat)
def sgo (call : SCall) (nt : Nat) (all : List Oper) : List (Oper × Nat) → Nat → Fm → List Pd → List En → M (Fm × List Pd)
 | [],_,f,pd,_=>mret (f,pd)
 | (o, pre) :: rest, i, f, pd, es =>
  bif dstOK nt o.dst && Nat.blt pre (2 ^ i) then
   mbind (swanted U all f o) fun t =>
   bif t then
    bif Nat.beq (okind o.op) 0 then mbind (quiet (sop P U call f o.op)) fun v=>sgo call nt all rest (i+1) (putF f o.dst v) pd (⟨i,pre,false,false, .free,[],false⟩ :: es)
    else bif Nat.beq (okind o.op) 1 then mbind (quiet (sop P U call f o.op)) fun v => mbind (liveR (rdOf f o.op)) fun _ =>
      bif vok 1000 v && es.all (okBack pre (rdOf f o.op)) then sgo call nt all rest (i+1) (putF f o.dst v) pd (⟨i,pre,false,true,rdOf f o.op,[],false⟩ :: es)
      else mfail "a region: a read"
    else bif Nat.beq (okind o.op) 2 then match snw P f o.op with
     | some (x,mk)=>mbind mpend fun b=>sgo call nt all rest (i+1) (putF f o.dst (mk b)) (⟨b,i,x⟩ :: pd) (⟨i,pre,false,false, .free,[],false⟩ :: es)
     | none=>mfail "a region: a new block"
    else bif pd.all (fun p => pre.testBit p.i) then
      mread fun s0=>mbind (mtakes pd) fun _=>mbind (keyed s0.h.length (sop P U call f o.op)) fun r =>
       bif es.all (okFwd pre r.2.1) then sgo call nt all rest (i+1) (putF f o.dst r.1) [] (⟨i,pre,true,false, .free,r.2.1,r.2.2⟩ :: es) else mfail "a region: a write"
     else mfail "a region: blocks that wait"
   else bif isK3 o && !(es.all (okFwd pre [])) then mfail "a region: not wanted" else
    sgo call nt all rest (i+1) (putF f o.dst (.tup [])) pd (⟨i,pre,isK3 o,false, .free,[],false⟩ :: es)
  else mfail "a region: slot"
def sdraw (call : SCall) (nt : Nat) : SDraw:=fun all f =>
 bif stat all (xpres all []) then mbind (sgo P U call nt all (all.zip (xpres all [])) 0 f [] []) fun r=>mbind (mtakes r.2) fun _=>mret r.1
 else mfail "a region: order"
end
section
variable {P : Program} {U : Nat→List Dat→Dat} {ov : FuncId→Option TypeId} {nt : Nat}
variable {call : Caller} {all : List Oper} {nx0 : Nat} {o : Oper} {pre : Nat} {rest : List (Oper × Nat)} {i : Nat} {tm : T Value} {S : Hp} {I : Nat} {es : List Ent}
theorem xgo_no (hd : dstOK nt o.dst=true) (hw : xwanted all tm o=false) : xgo P call nt all nx0 ((o,pre) :: rest) i tm S I es=xgo P call nt all nx0 rest (i+1) (xputT tm o.dst undef) S I (⟨i,o,pre,tm,S,S,I,false,undef,none⟩ :: es):=by
 rw [xgo,hd,cond_true,hw,cond_false]
theorem xgo_0 (hd : dstOK nt o.dst = true) (hw : xwanted all tm o = true) (hk : okind o.op = 0) {v : Value} {S' : Hp} (hx : xop P call tm S o.op = some (v, S')) :
  xgo P call nt all nx0 ((o,pre) :: rest) i tm S I es=xgo P call nt all nx0 rest (i+1) (xputT tm o.dst v) S I (⟨i,o,pre,tm,S,S,I,true,v,none⟩ :: es):=by
 rw [xgo,hd,cond_true,hw,cond_true,hk]
 simp only [hx]
theorem xgo_1 (hd : dstOK nt o.dst = true) (hw : xwanted all tm o = true) (hk : okind o.op = 1) {v : Value} (hx : xrd P tm S o.op = some v) :
  xgo P call nt all nx0 ((o,pre) :: rest) i tm S I es=xgo P call nt all nx0 rest (i+1) (xputT tm o.dst v) S I (⟨i,o,pre,tm,S,S,I,true,v,none⟩ :: es):=by
 rw [xgo,hd,cond_true,hw,cond_true,hk]
 simp only [hx]
theorem xgo_2 (hd : dstOK nt o.dst = true) (hw : xwanted all tm o = true) (hk : okind o.op = 2) {n : Nw} (hx : xnw P tm o.op = some n) :
  xgo P call nt all nx0 ((o,pre) :: rest) i tm S I es=xgo P call nt all nx0 rest (i+1) (xputT tm o.dst (n.val (nx0+i))) S I (⟨i,o,pre,tm,S,S,I,true,n.val (nx0+i),some n⟩ :: es):=by
 rw [xgo,hd,cond_true,hw,cond_true,hk]
 simp only [hx]
theorem xgo_3 (hd : dstOK nt o.dst = true) (hw : xwanted all tm o = true) (hk : okind o.op = 3) {v : Value} {S' : Hp} (hx : xop P call tm (takes nx0 (selW pre I) es S) o.op = some (v, S')) :
  xgo P call nt all nx0 ((o,pre) :: rest) i tm S I es=xgo P call nt all nx0 rest (i+1) (xputT tm o.dst v) S' (I ||| pre) (⟨i,o,pre,tm,S,S',I,true,v,none⟩ :: es):=by
 rw [xgo,hd,cond_true,hw,cond_true,hk]
 simp only [hx]
theorem vc_mbind {α β : Type} {m : M α} {k : α→M β} {s : SS} {Q : β × SS→Prop} : (mbind m k s).vc U Q ↔ (m s).vc U fun r=>(k r.1 r.2).vc U Q:=by
 unfold mbind
 exact Tr.vc_bind _ _ _ _
theorem quiet_vc {α : Type} {m : M α} {s : SS} {Q : α × SS→Prop} (h : (quiet m s).vc U Q) : (m s).vc U fun r=>Q r∧r.2.h.length=s.h.length∧r.2.nx=s.nx:=by
 unfold quiet at h
 rw [Tr.vc_bind] at h
 refine Tr.vc_mono _ _ (fun r hr => ?_) h
 cases hb : Nat.beq r.2.h.length s.h.length && Nat.beq r.2.nx s.nx with
 | false=>rw [hb] at hr; exact hr.elim
 | true =>
  rw [hb] at hr
  rw [Bool.and_eq_true] at hb
  exact ⟨hr,Nat.eq_of_beq_eq_true hb.1,Nat.eq_of_beq_eq_true hb.2⟩
variable {τ : Tau} {F : Nat→Option Blk} {s : SS}
theorem Ext.quiet {τ' : Tau} {F' : Nat→Option Blk} {s' : SS} {S' : Hp} (ex : Ext τ F s S τ' F' s' S') (hs : SD P U τ F s S) (hs' : SD P U τ' F' s' S') (hS : S' = S) (hh : s'.h.length=s.h.length) (hn : s'.nx=s.nx) : τ' = τ∧F' = F∧s'.h=s.h:=by
 obtain ⟨l,a1,_,_,a4,_⟩:=ex.hh
 have hl : l=[]:=by
  cases l with
  | nil=>rfl
  | cons x l=>rw [a1] at hh; simp at hh; omega
 subst hl
 refine ⟨funext fun b => ?_,funext fun j => ?_,by simpa using a1⟩
 ·by_cases hb : b < s.nx
  ·exact ex.st b hb
  ·rw [hs.new b (by omega),hs'.new b (by omega)]
 ·cases hq : F' j with
  | none =>
   cases hq' : F j with
   | none=>rfl
   | some y=>rw [ex.f j y hq'] at hq; cases hq
  | some y =>
   rcases a4 j y (by rw [← hS]; exact hs'.flt j y hq) hq with h1 | ⟨b,o,_,h1⟩
   ·rw [h1]
   ·simp at h1
variable (P U ov nt) in
def GoOK (all : List Oper) (τ0 : Tau) (F0 : Nat→Option Blk) (s0 : SS) (hp0 : Hp) (rest : List (Oper × Nat)) (i : Nat) (tm : T Value) (S : Hp) (I : Nat) (esX : List Ent) (f : Fm) (Q : (Fm × List Pd) × SS→Prop) : Prop :=
 ∃ f' pd' s',Q ((f',pd'),s') ∧ ∃ τ' F' out es',(EV fun m=>xgo P (exec P ov m) nt all hp0.nx rest i tm S I esX=some out) ∧
  DA P U τ0 F0 s0 hp0 all.length all.length τ' F' s' out.S f' out.tm pd' out.es out.I∧DB P ⟨hp0.m,hp0.nx+all.length⟩ all.length τ' F' s' out.S es' out.es ∧ ∃ pr,f' = pr ++ f
theorem sgo_ok {call : SCall} (hcall : CallRight P U ov call) {all : List Oper} {τ0 : Tau} {F0 : Nat → Option Blk} {s0 : SS} {hp0 : Hp} : ∀ (rest : List (Oper × Nat)) (i : Nat) (τ : Tau) (F : Nat → Option Blk) (s : SS) (S : Hp) (f : Fm) (tm : T Value) (pd : List Pd) (es : List En) (esX : List Ent) (I : Nat),
  DA P U τ0 F0 s0 hp0 all.length i τ F s S f tm pd esX I→DB P ⟨hp0.m,hp0.nx+all.length⟩ i τ F s S es esX→i+rest.length=all.length →
  ∀ Q,(sgo P U call nt all rest i f pd es s).vc U Q→GoOK P U ov nt all τ0 F0 s0 hp0 rest i tm S I esX f Q
 | [],i,τ,F,s,S,f,tm,pd,es,esX,I,ha,hb,hi,Q,hq=>by
  have e : i=all.length:=by simpa using hi
  subst e
  exact ⟨f,pd,s,hq,τ,F,⟨tm,S,I,esX⟩,es,EV.of fun m=>rfl,ha,hb,[],rfl⟩
 | (o, pre) :: rest, i, τ, F, s, S, f, tm, pd, es, esX, I, ha, hb, hi, Q, hq => by
  have hin : i < all.length:=by simp at hi; omega
  have hi' : i+1+rest.length=all.length:=by simp at hi; omega
  unfold sgo at hq
  cases hd : dstOK nt o.dst && Nat.blt pre (2 ^ i) with
  | false=>rw [hd] at hq; exact hq.elim
  | true =>
   rw [hd,cond_true,vc_mbind] at hq
   rw [Bool.and_eq_true] at hd
   have hpre : pre < 2 ^ i:=Nat.le_of_ble_eq_true hd.2
   obtain ⟨t,s1,hq,ho,hft,hw⟩:=swanted_ok ha.td all o (s:=s) _ hq ha.sd.fc
   have hsd1:=ha.sd.only ho hft
   have fin : ∀ {a : SV} {v : Value} {S' : Hp} {I' : Nat} {eX : Ent}, (EV fun m => xgo P (exec P ov m) nt all hp0.nx ((o, pre) :: rest) i tm S I esX = xgo P (exec P ov m) nt all hp0.nx rest (i + 1) (xputT tm o.dst v) S' I' (eX :: esX)) →
     GoOK P U ov nt all τ0 F0 s0 hp0 rest (i+1) (xputT tm o.dst v) S' I' (eX :: esX) (putF f o.dst a) Q→GoOK P U ov nt all τ0 F0 s0 hp0 ((o,pre) :: rest) i tm S I esX f Q:=by
    intro a v S' I' eX he ⟨f',pd',s',h1,τ',F',out,es',h2,h3,h4,pr,h5⟩
    obtain ⟨p,hp⟩:=putF_pre f o.dst a
    exact ⟨f',pd',s',h1,τ',F',out,es',(he.and h2).mono fun m ⟨k1,k2⟩=>by rw [k1]; exact k2,h3,h4,pr ++ p,by rw [h5,hp,List.append_assoc]⟩
   have hl0 : ∀ b x,s.get b=some x→τ b=τ b:=fun _ _ _=>rfl
   cases t with
   | false =>
    rw [cond_false] at hq
    cases hc : isK3 o && !(es.all (okFwd pre [])) with
    | true=>rw [hc] at hq; exact hq.elim
    | false =>
     rw [hc,cond_false] at hq
     have hk : ∀ h : isK3 o=true,es.all (okFwd pre [])=true:=fun h=>by
      rw [h,Bool.true_and] at hc
      simpa using hc
     have hg : ∀ b,s1.get b=s.get b:=ho.get
     have ha' := ha.keep hb.xi (eX:=⟨i,o,pre,tm,S,S,I,false,undef,none⟩) hsd1 (ha.td.put (.tup [] [] rfl (fun i a x h _=>by simp at h)) o.dst) ho.h ho.nx (Ext.only ha.sd ho) rfl rfl
     have hb' := hb.step (en:=⟨i,pre,isK3 o,false, .free,[],false⟩) (eX:=⟨i,o,pre,tm,S,S,I,false,undef,none⟩) (τ' := τ) (F' := F) (s' := s1) (S' := S) (Tle.refl τ) (Fle.refl F) hl0 ha.sd.frz (fun _ _ _ h=>h)
      (fun b _=>hg b) (fun _ _ _ _ _ _ _=>rfl) rfl rfl rfl rfl rfl (fun _=>⟨rfl,rfl⟩) hk (fun h _=>by cases h)
     exact fin (EV.of fun m=>xgo_no hd.1 hw) (sgo_ok hcall rest (i+1) τ F s1 S _ _ pd _ _ I ha' hb' hi' Q hq)
   | true =>
    rw [cond_true] at hq
    have hkk : okind o.op=0 ∨ okind o.op=1 ∨ okind o.op=2 ∨ okind o.op=3:=by have:=okind_le o.op; omega
    rcases hkk with hk | hk | hk | hk <;> rw [hk] at hq
    ·rw [show Nat.beq 0 0=true from rfl,cond_true,vc_mbind] at hq
     obtain ⟨a,s2,⟨hq,h1,h2⟩,τ',F',S',ex,hsd2,v,hx,hv⟩:=sop_ok hcall (ha.td) hsd1 o.op _ (quiet_vc hq) hsd1
     obtain ⟨m0,hm0⟩:=hx
     have hm0 : ∀ m,m0≤m→xop P (exec P ov m) tm S o.op=some (v,S'):=hm0
     obtain ⟨r,hr⟩:=xop_pure (P:=P) (call:=exec P ov m0) (tm:=tm) hk
     have hS : S' = S:=by have:=hm0 m0 (Nat.le_refl _); rw [hr] at this; exact (withHp_some this).2
     obtain ⟨rfl,rfl,h3⟩:=ex.quiet hsd1 hsd2 hS h1 h2
     subst hS
     have hh : s2.h=s.h:=by rw [h3,ho.h]
     have hn : s2.nx=s.nx:=by rw [h2,ho.nx]
     have hg : ∀ b,s2.get b=s.get b:=fun b=>by unfold SS.get; rw [hh]
     have ha' := ha.keep hb.xi (eX:=⟨i,o,pre,tm,S',S',I,true,v,none⟩) hsd2 (ha.td.put hv o.dst) hh hn ((Ext.only ha.sd ho).trans ex) rfl rfl
     have hb' := hb.step (en:=⟨i,pre,false,false, .free,[],false⟩) (eX:=⟨i,o,pre,tm,S',S',I,true,v,none⟩) (τ' := τ') (F' := F') (s' := s2) (S' := S') (Tle.refl _) (Fle.refl _) hl0 ha.sd.frz (fun _ _ _ h=>h)
      (fun b _=>hg b) (fun _ _ _ _ _ _ _=>rfl) rfl rfl rfl (by show false=isW _; unfold isW; rw [show okind o.op=0 from hk]; rfl) rfl (fun _=>⟨rfl,rfl⟩) (fun h=>by unfold isW at h; rw [show okind o.op=0 from hk] at h; cases h) (fun _ h=>by rw [show okind o.op=0 from hk] at h; cases h)
     exact fin ⟨m0,fun m hm=>xgo_0 hd.1 hw hk (hm0 m hm)⟩ (sgo_ok hcall rest (i+1) _ _ s2 S' _ _ pd _ _ I ha' hb' hi' Q hq)
    ·rw [show Nat.beq 1 0=false from rfl,show Nat.beq 1 1=true from rfl,cond_false,cond_true,vc_mbind] at hq
     obtain ⟨a,s2,⟨hq,h1,h2⟩,τ',F',S',ex,hsd2,v,hx,hv⟩:=sop_ok hcall (ha.td) hsd1 o.op _ (quiet_vc hq) hsd1
     obtain ⟨m0,hm0⟩:=hx
     obtain ⟨hS,hrd⟩:=xop_rd hk (hm0 m0 (Nat.le_refl _))
     obtain ⟨rfl,rfl,h3⟩:=ex.quiet hsd1 hsd2 hS h1 h2
     subst hS
     have hh : s2.h=s.h:=by rw [h3,ho.h]
     have hn : s2.nx=s.nx:=by rw [h2,ho.nx]
     have hg : ∀ b,s2.get b=s.get b:=fun b=>by unfold SS.get; rw [hh]
     have hro:=rdOf_ok ha.td hsd1 (hm0 m0 (Nat.le_refl _))
     rw [vc_mbind] at hq
     have hlv : (∀ b,rdOf f o.op = .blk b → ∃ x,s.get b=some x)∧Tr.vc U ((bif vok 1000 a && es.all (okBack pre (rdOf f o.op)) then sgo P U call nt all rest (i+1) (putF f o.dst a) pd (⟨i,pre,false,true,rdOf f o.op,[],false⟩ :: es)
      else mfail "a region: a read") s2) Q:=by
      cases hrr : rdOf f o.op with
      | blk b =>
       rw [hrr] at hq
       simp only [liveR,mread] at hq
       cases hgb : s2.get b with
       | none=>rw [hgb] at hq; exact hq.elim
       | some x=>rw [hgb] at hq; exact ⟨fun b' e=>by cases e; exact ⟨x,by rw [← hg]; exact hgb⟩,hq⟩
      | _=>rw [hrr] at hq; exact ⟨fun b' e=>(by cases e),hq⟩
     obtain ⟨hlv,hq⟩:=hlv
     cases hc : vok 1000 a && es.all (okBack pre (rdOf f o.op)) with
     | false=>rw [hc] at hq; exact hq.elim
     | true =>
      rw [hc,cond_true] at hq
      rw [Bool.and_eq_true] at hc
      have ha' := ha.keep hb.xi (eX:=⟨i,o,pre,tm,S',S',I,true,v,none⟩) hsd2 (ha.td.put hv o.dst) hh hn ((Ext.only ha.sd ho).trans ex) rfl rfl
      have hb' := hb.step (en:=⟨i,pre,false,true,rdOf f o.op,[],false⟩) (eX:=⟨i,o,pre,tm,S',S',I,true,v,none⟩) (τ' := τ') (F' := F') (s' := s2) (S' := S') (Tle.refl _) (Fle.refl _) hl0 ha.sd.frz (fun _ _ _ h=>h)
       (fun b _=>hg b) (fun _ _ _ _ _ _ _=>rfl) rfl rfl rfl (by show false=isW _; unfold isW; rw [show okind o.op=1 from hk]; rfl) rfl (fun _=>⟨rfl,rfl⟩) (fun h=>by unfold isW at h; rw [show okind o.op=1 from hk] at h; cases h)
       (fun _ _=>⟨veq_refl 1000 a v hc.1 hv,rfl,rfl,hro,hlv,hc.2⟩)
      refine fin ⟨m0,fun m hm=>xgo_1 hd.1 hw hk hrd⟩ (sgo_ok hcall rest (i+1) _ _ s2 S' _ _ pd _ _ I ha' hb' hi' Q hq)
    ·rw [show Nat.beq 2 0=false from rfl,show Nat.beq 2 1=false from rfl,show Nat.beq 2 2=true from rfl,cond_false,cond_false,cond_true] at hq
     cases hnw : snw P f o.op with
     | none=>rw [hnw] at hq; exact hq.elim
     | some xm =>
      obtain ⟨x,mk⟩:=xm
      rw [hnw] at hq
      obtain ⟨nw,hx,hbd,hval⟩:=snw_ok (U:=U) ha.td hnw
      have hq : (sgo P U call nt all rest (i+1) (putF f o.dst (mk s1.nx)) (⟨s1.nx,i,x⟩ :: pd) (⟨i,pre,false,false, .free,[],false⟩ :: es) (spend s1)).vc U Q:=hq
      have ha1 : DA P U τ0 F0 s0 hp0 all.length i τ F s1 S f tm pd esX I :=
       ⟨hsd1,ha.td,ha.ext.trans (Ext.only ha.sd ho),ha.room,ha.ib,ha.xd,ha.pn,fun p hp=>let k:=ha.pds p hp; ⟨k.lt,k.un,by rw [ho.get]; exact k.g,k.lo,by rw [ho.nx]; exact k.hi,k.t,k.f,k.u,k.e⟩,ha.cl,ha.tk⟩
      have h0 : τ s1.nx=none:=hsd1.new _ (Nat.le_refl _)
      have hle:=put_le (τ:=τ) (some (hp0.nx+i,0)) h0
      have ha' := ha1.pend hb.xi hin (eX:=⟨i,o,pre,tm,S,S,I,true,nw.val (hp0.nx+i),some nw⟩) (x:=x) (nw:=nw) ((ha.td.mono hle (Fle.refl F)).put (hval _ s1.nx (hp0.nx+i) (put_same _ _ _)) o.dst) (hbd _ hle) rfl rfl
      have hb' := hb.step (en:=⟨i,pre,false,false, .free,[],false⟩) (eX:=⟨i,o,pre,tm,S,S,I,true,nw.val (hp0.nx+i),some nw⟩) (τ' := put τ s1.nx (some (hp0.nx+i,0))) (F' := F) (s' := spend s1) (S' := S) hle (Fle.refl _)
       (fun b y hb=>put_ne τ _ (by have:=ha.sd.bound hb; rw [ho.nx]; omega)) ha.sd.frz (fun _ _ _ h=>h)
       (fun b _=>ho.get b) (fun _ _ _ _ _ _ _=>rfl) rfl rfl rfl (by show false=isW _; unfold isW; rw [show okind o.op=2 from hk]; rfl) rfl (fun _=>⟨rfl,rfl⟩) (fun h=>by unfold isW at h; rw [show okind o.op=2 from hk] at h; cases h) (fun _ h=>by rw [show okind o.op=2 from hk] at h; cases h)
      exact fin (EV.of fun m=>xgo_2 hd.1 hw hk hx) (sgo_ok hcall rest (i+1) _ _ _ S _ _ _ _ _ I ha' hb' hi' Q hq)
    ·rw [show Nat.beq 3 0=false from rfl,show Nat.beq 3 1=false from rfl,show Nat.beq 3 2=false from rfl,cond_false,cond_false,cond_false] at hq
     cases hc : pd.all (fun p=>pre.testBit p.i) with
     | false=>rw [hc] at hq; exact hq.elim
     | true =>
      rw [hc,cond_true] at hq
      rw [List.all_eq_true] at hc
      have ha1 : DA P U τ0 F0 s0 hp0 all.length i τ F s1 S f tm pd esX I :=
       ⟨hsd1,ha.td,ha.ext.trans (Ext.only ha.sd ho),ha.room,ha.ib,ha.xd,ha.pn,fun p hp=>let k:=ha.pds p hp; ⟨k.lt,k.un,by rw [ho.get]; exact k.g,k.lo,by rw [ho.nx]; exact k.hi,k.t,k.f,k.u,k.e⟩,ha.cl,ha.tk⟩
      have hsel : ∀ e ∈ esX,e.nw ≠ none→(selW pre I e.i=true ↔ ∃ p ∈ pd,p.i=e.i):=by
       intro e he hne
       unfold selW
       rw [Bool.and_eq_true,Bool.not_eq_true']
       constructor
       ·rintro ⟨_,h2⟩; exact ha.tk e he hne h2
       ·rintro ⟨p,hp,h2⟩; rw [← h2]; exact ⟨hc p hp,(ha.pds p hp).un⟩
      obtain ⟨t1,t2,t3,t4⟩:=ha1.take (selW pre I) hsel
      simp only [mread] at hq
      rw [vc_mbind] at hq
      have hq : (mbind (keyed s1.h.length (sop P U call f o.op)) (fun r=>bif es.all (okFwd pre r.2.1) then sgo P U call nt all rest (i+1) (putF f o.dst r.1) [] (⟨i,pre,true,false, .free,r.2.1,r.2.2⟩ :: es) else mfail "a region: a write") (stake s1 pd)).vc U Q:=hq
      rw [vc_mbind] at hq
      unfold keyed at hq
      rw [Tr.vc_bind] at hq
      obtain ⟨a,s2,hq,τ',F',S',ex,hsd2,v,hx,hv⟩:=sop_ok hcall ha.td t1 o.op _ hq t1
      obtain ⟨l,a1,a2,a3,a4,a5⟩:=ex.hh
      have hkeys : newKeys (s2.h.length - s1.h.length) s2.h=(l ++ tkl pd).map Prod.fst:=by
       have : s2.h=(l ++ tkl pd) ++ s1.h:=by rw [a1,List.append_assoc]; rfl
       rw [this,List.length_append,Nat.add_sub_cancel,newKeys_app]
      have hq : ((bif es.all (okFwd pre (newKeys (s2.h.length - s1.h.length) s2.h)) then sgo P U call nt all rest (i+1) (putF f o.dst a) [] (⟨i,pre,true,false, .free,newKeys (s2.h.length - s1.h.length) s2.h,newFr (s2.h.length - s1.h.length) s2.h⟩ :: es) else mfail "a region: a write") s2).vc U Q:=hq
      rw [hkeys] at hq
      cases hc2 : es.all (okFwd pre ((l ++ tkl pd).map Prod.fst)) with
      | false=>rw [hc2] at hq; exact hq.elim
      | true =>
       rw [hc2,cond_true] at hq
       have ha' := ha1.write hb.xi hpre hc t3 t2 ex hsd2 ((ha.td.mono ex.t ex.f).put hv o.dst) (eX:=⟨i,o,pre,tm,S,S',I,true,v,none⟩) rfl rfl
       have hgk : ∀ b,b ∉ (l ++ tkl pd).map Prod.fst→s2.get b=s.get b:=by
        intro b hb
        have : s2.h=(l ++ tkl pd) ++ s.h:=by rw [a1,List.append_assoc,← ho.h]; rfl
        unfold SS.get
        rw [this,lk_skip _ _ hb]
       have hun : ∀ b x j q,s.get b=some x→τ b=some (some (j,q))→b ∉ (l ++ tkl pd).map Prod.fst→S'.m.get j=S.m.get j:=by
        intro b x j q hgb hτ hbk
        have hnp : ∀ p ∈ pd,b ≠ p.b:=by
         intro p hp e
         rw [e,(ha.pds p hp).g] at hgb; cases hgb
        have hjp : ∀ p ∈ pd,j ≠ hp0.nx+p.i:=by
         intro p hp e
         subst e
         exact hnp p hp ((ha.pds p hp).u b q hτ)
        have hg1 : (stake s1 pd).get b=some x:=by rw [stake_other hnp,ho.get]; exact hgb
        rw [a2 j (by rw [t3]; exact ha.sd.lt b j q hτ) (fun b' y q' e1 e2 e3 => ?_),t4 j hjp]
        by_cases eb : b' = b
        ·subst eb; exact hbk (by simp only [List.map_append,List.mem_append]; exact .inl e3)
        ·exact t1.inj b' b y x j q' j q e1 hg1 eb e2 hτ rfl
       have hfe : (isW (⟨i,o,pre,tm,S,S',I,true,v,none⟩ : Ent)=true→newFr (s2.h.length - s1.h.length) s2.h=false) → ∀ j y,F' j=some y→F j=some y:=fun hq=>by
        have hn:=hq (by unfold isW; rw [show okind o.op=3 from hk]; rfl)
        have e2 : s2.h=(l ++ tkl pd) ++ s1.h:=by rw [a1,List.append_assoc]; rfl
        rw [e2,List.length_append,Nat.add_sub_cancel] at hn
        exact a5 fun p hp=>newFr_app _ _ hn p (List.mem_append_left _ hp)
       have hb' := hb.step (en:=⟨i,pre,true,false, .free,(l ++ tkl pd).map Prod.fst,newFr (s2.h.length - s1.h.length) s2.h⟩) (eX:=⟨i,o,pre,tm,S,S',I,true,v,none⟩) (τ' := τ') (F' := F') (s' := s2) (S' := S') ex.t ex.f
        (fun b y hgb=>ex.st b (by have:=ha.sd.bound hgb; show b < s1.nx; rw [ho.nx]; exact this)) hsd2.frz hfe hgk hun rfl rfl rfl (by show true=isW _; unfold isW; rw [show okind o.op=3 from hk]; rfl) rfl
        (fun h=>by unfold isW at h; rw [show okind o.op=3 from hk] at h; cases h) (fun _=>hc2) (fun _ h=>by rw [show okind o.op=3 from hk] at h; cases h)
       obtain ⟨m0,hm0⟩:=hx
       exact fin ⟨m0,fun m hm=>xgo_3 hd.1 hw hk (hm0 m hm)⟩ (sgo_ok hcall rest (i+1) _ _ _ S' _ _ _ _ _ _ ha' hb' hi' Q hq)
theorem sdraw_ok {call : SCall} (hcall : CallRight P U ov call) : DrawRight P U ov nt (sdraw P U call nt):=by
 intro all f τ F s hp tm ht hs Q hq _
 unfold sdraw at hq
 cases hst : stat all (xpres all []) with
 | false=>rw [hst] at hq; exact hq.elim
 | true =>
  rw [hst,cond_true,vc_mbind] at hq
  have hlen : (all.zip (xpres all [])).length=all.length:=by
   have:=hst
   simp only [stat,Bool.and_eq_true] at this
   have:=Nat.eq_of_beq_eq_true this.1.1
   rw [List.length_zip,this,Nat.min_self]
  have hsd : SD P U τ F s ⟨hp.m,hp.nx+all.length⟩:=⟨hs.live,hs.inj,hs.frz,fun b i o h=>Nat.lt_of_lt_of_le (hs.lt b i o h) (Nat.le_add_right _ _),fun i b h=>Nat.lt_of_lt_of_le (hs.flt i b h) (Nat.le_add_right _ _),hs.new,hs.fc,hs.fz⟩
  have hex : Ext τ F s hp τ F s ⟨hp.m,hp.nx+all.length⟩:=⟨Tle.refl τ,Fle.refl F,Nat.le_add_right _ _,Nat.le_refl _,fun _ _=>rfl,fun b x hb _=>⟨x,hb⟩,
   ⟨[],rfl,fun _ _ _=>rfl,fun b i o hb ht=>(by rw [hs.new b hb] at ht; cases ht),fun _ _ _ h => .inl h,fun _ _ _ h=>h⟩,⟨[],rfl⟩⟩
  have ha : DA P U τ F s hp all.length 0 τ F s ⟨hp.m,hp.nx+all.length⟩ f tm [] [] 0:=by
   refine ⟨hsd,ht,hex,Nat.le_refl _,fun j _=>Nat.zero_testBit j, .nil, .nil,fun p hp=>by simp at hp,fun j _ _=>⟨fun c o hc => ?_, ?_⟩,fun e he=>by simp at he⟩
   ·have:=hs.lt c _ o hc; omega
   ·cases hF : F (hp.nx+j) with
    | none=>rfl
    | some y=>have:=hs.flt _ y hF; omega
  have hb : DB P ⟨hp.m,hp.nx+all.length⟩ 0 τ F s ⟨hp.m,hp.nx+all.length⟩ [] []:=by
   refine ⟨fun e he=>by simp at he,fun e he=>by simp at he,fun e he=>by simp at he,fun e he=>by simp at he,fun k Sk hpt b x j o _ _ _ => ?_,fun k Sk hpt _ j y hj => ?_,fun e he=>by simp at he⟩
   ·rcases hpt with ⟨_,rfl⟩ | ⟨x,hx,_⟩
    ·rfl
    ·simp at hx
   ·rcases hpt with ⟨_,rfl⟩ | ⟨x,hx,_⟩
    ·exact hs.frz j y hj
    ·simp at hx
  obtain ⟨f',pd',s',hq',τ',F',out,es',⟨m0,hm0⟩,ha',hb',pr,hpr⟩:=sgo_ok hcall (all.zip (xpres all [])) 0 τ F s _ f tm [] [] [] 0 ha hb (by rw [hlen,Nat.zero_add]) _ hq
  obtain ⟨t1,t2,_,_⟩:=ha'.take (selE out.I) (fun e he hne=>by
   unfold selE
   rw [Bool.not_eq_true']
   constructor
   ·exact ha'.tk e he hne
   ·rintro ⟨p,hp,e1⟩
    rw [← e1]; exact (ha'.pds p hp).un)
  have hdyn : dyn P ⟨hp.m,hp.nx+all.length⟩ out.es=true:=by
   unfold dyn
   rw [List.all_eq_true]
   intro e he
   cases hc : e.wt && Nat.beq (okind e.o.op) 1 with
   | false=>rfl
   | true =>
    rw [cond_true]
    rw [Bool.and_eq_true] at hc
    have look:=hb'.look e he hc.1 (Nat.eq_of_beq_eq_true hc.2)
    rw [Bool.and_eq_true]
    refine ⟨(look 0 _ (.inl ⟨rfl,rfl⟩)).look, ?_⟩
    rw [List.all_eq_true]
    intro x hx
    cases hw : isW x with
    | false=>rfl
    | true=>exact (look _ _ (.inr ⟨x,hx,hw,rfl,rfl⟩)).look
  refine ⟨f',stake s' pd',hq',τ',F',takes hp.nx (selE out.I) out.es out.S,t2,t1,out.tm,⟨m0,fun m hm => ?_⟩,ha'.td,pr,hpr⟩
  show xdraw2 P (exec P ov m) nt all tm hp=_
  have e : xgo P (exec P ov m) nt all hp.nx (all.zip (xpres all [])) 0 tm ⟨hp.m,hp.nx+all.length⟩ 0 []=some out:=hm0 m hm
  have e2 : xdraw P (exec P ov m) nt all tm hp=some (out.tm,takes hp.nx (selE out.I) out.es out.S):=by
   unfold xdraw
   rw [hst,cond_true,e]
   simp only [hdyn,cond_true]
  unfold xdraw2
  rw [e2]
end
end Go.Sx
namespace Go.Sx
open Go.Xe
section
variable {P : Program} {U : Nat→List Dat→Dat}
theorem VD.re {τ0 τ1 τ2 : Tau} {F0 F1 : Nat→Option Blk} {a : SV} {v0 v1 : Value} (h0 : VD P U τ0 F0 a v0) (h1 : VD P U τ1 F1 a v1) (hτ : ∀ b p,τ0 b=some p→τ2 b=τ1 b) : VD P U τ2 F1 a v1:=by
 induction h1 generalizing v0 with
 | any v=>exact .any v
 | int k e=>exact .int k e
 | bool e=>exact .bool e
 | str e=>exact .str e
 | nilp=>exact .nilp
 | ptr b z row fld i o k h =>
  cases h0 with
  | ptr _ _ _ _ i' o' k' _=>exact .ptr b z row fld i o (by rw [hτ b _ k']; exact k) h
 | pptr t L row fld i o l c k h h' => exact .pptr t L row fld i o l c k h h'
 | nils=>exact .nils
 | sl b z off len cap i o c k h h' hc =>
  have hb : ∃ p,τ0 b=some p:=by cases h0 <;> exact ⟨_,by assumption⟩
  obtain ⟨p,hp⟩:=hb
  exact .sl b z off len cap i o c (by rw [hτ b _ hp]; exact k) h h' hc
 | sl0 b z off len cap k h h' hc =>
  have hb : ∃ p,τ0 b=some p:=by cases h0 <;> exact ⟨_,by assumption⟩
  obtain ⟨p,hp⟩:=hb
  exact .sl0 b z off len cap (by rw [hτ b _ hp]; exact k) h h' hc
 | lst t L clip v k hc=>exact .lst t L clip v k hc
 | agg l xs e1 _ ih =>
  cases h0 with
  | agg _ ys e2 h2 =>
   refine .agg l xs e1 fun i a x ha hx => ?_
   have hl : i < ys.length:=by have:=(List.getElem?_eq_some_iff.1 ha).1; omega
   exact ih i a x ha hx (h2 i a _ ha (List.getElem?_eq_getElem hl))
 | tup l xs e1 _ ih =>
  cases h0 with
  | tup _ ys e2 h2 =>
   refine .tup l xs e1 fun i a x ha hx => ?_
   have hl : i < ys.length:=by have:=(List.getElem?_eq_some_iff.1 ha).1; omega
   exact ih i a x ha hx (h2 i a _ ha (List.getElem?_eq_getElem hl))
 | fn f l m xs ys e1 _ e2 _ ih1 ih2 =>
  cases h0 with
  | fn _ _ _ xs' ys' e3 k3 e4 k4 =>
   refine .fn f l m xs ys e1 (fun i a x ha hx => ?_) e2 (fun i a x ha hx => ?_)
   ·have hl : i < xs'.length:=by have:=(List.getElem?_eq_some_iff.1 ha).1; omega
    exact ih1 i a x ha hx (k3 i a _ ha (List.getElem?_eq_getElem hl))
   ·have hl : i < ys'.length:=by have:=(List.getElem?_eq_some_iff.1 ha).1; omega
    exact ih2 i a x ha hx (k4 i a _ ha (List.getElem?_eq_getElem hl))
 | nilf=>exact .nilf
 | map b i o k =>
  cases h0 with
  | map _ i' o' k' => exact .map b i o (by rw [hτ b _ k']; exact k)
 | nilm=>exact .nilm
 | iface t v x _ ih =>
  cases h0 with
  | iface _ _ x' h' => exact .iface t v x (ih h')
 | nili=>exact .nili
 | yld ks vs g nt ps as bo i tms pr db hF hp _ ih =>
  cases h0 with
  | yld _ _ _ _ _ _ _ i0 tms0 pr0 db0 _ _ k0=>exact .yld ks vs g nt ps as bo i tms pr db hF hp fun k a ha=>ih k a ha (k0 k a ha)
theorem BD.re {τ0 τ1 τ2 : Tau} {F0 F1 : Nat→Option Blk} {x : SBlk} {o0 o1 : Nat} {y0 y1 : Blk} (h0 : BD P U τ0 F0 o0 x y0) (h1 : BD P U τ1 F1 o1 x y1) (hτ : ∀ b p,τ0 b=some p→τ2 b=τ1 b) : BD P U τ2 F1 o1 x y1:=by
 cases x with
 | cells l e z =>
  obtain ⟨cs0,n0,_,_,k0⟩:=h0
  obtain ⟨cs,n,e1,e2,k1⟩:=h1
  refine ⟨cs,n,e1,e2,fun j a ha => ?_⟩
  obtain ⟨x,hx,hv⟩:=k1 j a ha
  obtain ⟨x0,_,hv0⟩:=k0 j a ha
  exact ⟨x,hx,hv0.re hv hτ⟩
 | rows L e z ph=>exact h1
 | map L kt vt=>exact h1
 | iter s p=>exact h1
def RowNil (P : Program) (U : Nat→List Dat→Dat) (x : SBlk) : Prop := ∃ L e z ph,x = .rows L e z ph∧L.toR U=[]∧z=(kf P e).length∧ph.toI U≤0
theorem SD.rebase {τ1 τ2 : Tau} {F : Nat → Option Blk} {s1 s2 : SS} {hp : Hp} (hs : SD P U τ1 F s1 hp) (g : Nat → Nat)
  (h : ∀ b x,s2.get b=some x → ∃ x',s1.get (g b)=some x' ∧ τ2 b=τ1 (g b)∧(∀ i o y,τ1 (g b)=some (some (i,o))→hp.m.get i=some y→BD P U τ1 F o x' y→BD P U τ2 F o x y)∧(RowNil P U x' → RowNil P U x))
  (hg : ∀ b c x y,s2.get b=some x→s2.get c=some y→b ≠ c→g b ≠ g c) (hlt : ∀ b i o,τ2 b=some (some (i,o))→i < hp.nx) (hn : ∀ b,s2.nx≤b→τ2 b=none) (hf : FT U s2.fc) (hz : ∀ r ∈ s2.fz,FzOK P U τ2 F r) : SD P U τ2 F s2 hp:=by
 refine ⟨fun b x hb => ?_,fun b c x y i o j q hb hc hne e1 e2 => ?_,hs.frz,hlt,hs.flt,hn,hf,hz⟩
 ·obtain ⟨x',h1,h2,h3,h4⟩:=h b x hb
  rcases hs.live _ _ h1 with ⟨i,o,y,k1,k2,k3,k4⟩ | ⟨k1,k2⟩
  ·exact .inl ⟨i,o,y,by rw [h2]; exact k1,k2,k3,h3 i o y k1 k2 k4⟩
  ·exact .inr ⟨by rw [h2]; exact k1,h4 k2⟩
 ·obtain ⟨x',h1,h2,_⟩:=h b x hb
  obtain ⟨y',k1,k2,_⟩:=h c y hc
  rw [h2] at e1
  rw [k2] at e2
  exact hs.inj _ _ x' y' i o j q h1 k1 (hg b c x y hb hc hne) e1 e2
inductive G where
 | keep
 | any
 | int (k : IntKind)
 | bool
 | str
 | lst (t : TypeId)
 | acc (e : TypeId) (z : Nat)
 | clp (t : TypeId)
 | itr (s : E)
 | cel (k : IntKind) (t : TypeId)
 | mac (kt vt : TypeId)
 | rwk (b : Nat) (e : TypeId) (z : Nat) (ph : E)
def G.so : G→Option So
 | .int _=>some .i
 | .bool=>some .b
 | .str=>some .s
 | .lst _=>some .l
 | .clp _=>some .l
 | .acc _ _=>some .l
 | .itr _=>some .i
 | .cel _ _=>some .i
 | .mac _ _=>some .l
 | .rwk _ _ _ _=>some .l
 | _=>none
def G.na : G→Nat
 | .acc _ _=>1
 | .itr _=>1
 | .cel _ _=>1
 | .mac _ _=>1
 | _=>0
def capOf : SV→Cp
 | .sl _ _ _ _ (.ex c) => .ex c
 | .sl _ _ _ _ .ge => .ge
 | _ => .un
def phOf (L : E) : Cp→E
 | .ex c=>c
 | .ge=>lenE L
 | .un=>lenE L
def tv (g : G) (a : SV) (e : E) (b : Nat) : SV:=match g with
 | .keep=>a
 | .any => .any
 | .int k => .int k e
 | .bool => .bool e
 | .str => .str e
 | .lst t => .lst t e false
 | .clp t => .lst t e true
 | .acc _ z => .sl b z (.int 0) (lenE e) (capOf a)
 | .itr _ => .ptr b 1 (.int 0) 0
 | .cel _ _ => .ptr b 1 (.int 0) 0
 | .mac _ _ => .map b
 | .rwk _ _ _ _ => .any
def G.blk (g : G) (a : SV) (d : E) : Option SBlk:=match g with
 | .acc e z=>some (.rows d e z (phOf d (capOf a)))
 | .itr s=>some (.iter s d)
 | .cel k t=>some (.cells [.int k d] t 1)
 | .mac kt vt=>some (.map d kt vt)
 | _=>none
def G.fix (g : G) (d : E) : Option (Nat × SBlk):=match g with
 | .rwk b e z ph=>some (b, .rows d e z ph)
 | _=>none
def hd1 : List E→E
 | [] => .int 0
 | e :: _=>e
def tl1 : List E→List E
 | []=>[]
 | _ :: l=>l
def pop (g : G) (es : List E) : List E:=match g.so with
 | some _=>tl1 es
 | none=>es
inductive At where
 | tmp (t : Nat)
 | cell (b j : Nat)
 | no
structure Pl where
 at_ : At
 g : G
 a : SV
def bldP : List Pl→List E→Nat→List (At × SV)
 | [],_,_=>[]
 | p :: l,es,b=>(p.at_,tv p.g p.a (hd1 es) b) :: bldP l (pop p.g es) (b+p.g.na)
def bldB : List Pl→List E→Nat→List (Nat × Option SBlk)
 | [],_,_=>[]
 | p :: l,es,b=>match p.g.blk p.a (hd1 es) with
  | some X=>(b,some X) :: bldB l (pop p.g es) (b+p.g.na)
  | none=>match p.g.fix (hd1 es) with
   | some q=>(q.1,some q.2) :: bldB l (pop p.g es) (b+p.g.na)
   | none=>bldB l (pop p.g es) (b+p.g.na)
def norm1 (P : Program) (U : Nat→List Dat→Dat) (g : G) (v : SV) : M SV:=match g with
 | .lst t=>mbind (sdat P U 20 (.sl t) v) fun e=>mret (.lst t e false)
 | .clp t=>match v with
  | .lst t' L c=>bif c then mret (.lst t' L c) else mfail "a list with room behind it"
  | .nils=>mret (.lst t (.op .nil []) true)
  | .sl b z off len (.ex c)=>mbind (mneed U (mkEqi c len)) fun _=>mbind (sdat P U 20 (.sl t) (.sl b z off len (.ex c))) fun e=>mret (.lst t e true)
  | _=>mfail "a slice with room behind it"
 | .acc e z=>match v with
  | .sl b z' off len cap=>mbind (mrows P b) fun _=>mret (.sl b z' off len cap)
  | .nils=>bif Nat.beq z (kf P e).length then mbind (salloc (.rows (.op .nil []) e z (.int 0))) fun b=>mret (.sl b z (.int 0) (.int 0) .ge) else mfail "loop: cells"
  | _=>mfail "loop: no slice"
 | _=>mret v
def norm (P : Program) (U : Nat→List Dat→Dat) : List Pl→List SV→M (List SV)
 | p :: l,v :: vs=>mbind (norm1 P U p.g v) fun v' => mbind (norm P U l vs) fun vs' => mret (v' :: vs')
 | [],[]=>mret []
 | _,_=>mfail "loop: places"
def svk : SV→SV→Bool
 | .ptr b z (.int m) f, .ptr b' z' (.int m') f' => Nat.beq b b' && Nat.beq z z' && decide (m=m') && Nat.beq f f'
 | .nilp, .nilp=>true
 | .nilf, .nilf=>true
 | .nilm, .nilm=>true
 | .nili, .nili=>true
 | .nils, .nils=>true
 | .map b, .map b' => Nat.beq b b'
 | .int k (.int m), .int k' (.int m')=>decide (k=k') && decide (m=m')
 | _,_=>false
theorem svk_eq {a v : SV} (h : svk a v = true) : a = v := by
 unfold svk at h
 split at h <;> first
  | rfl
  | cases h
  | (simp only [Bool.and_eq_true, Nat.beq_eq, decide_eq_true_eq] at h
     obtain ⟨⟨⟨rfl,rfl⟩,rfl⟩,rfl⟩:=h; rfl)
  | (simp only [Bool.and_eq_true, decide_eq_true_eq] at h
     obtain ⟨rfl,rfl⟩:=h; rfl)
  | (rw [Nat.eq_of_beq_eq_true h])
def mt1 (U : Nat → List Dat → Dat) (g : G) (a v : SV) : M (Option E × Option Nat) := match g with
 | .keep=>bif svk a v then mret (none,none) else mfail "loop: a place that has changed"
 | .any=>mret (none,none)
 | .int k=>match v with
  | .int k' e=>bif decide (k=k') then mret (some e,none) else mfail "loop: kind"
  | _=>mfail "loop: no int"
 | .bool=>match v with
  | .bool e=>mret (some e,none)
  | _=>mfail "loop: no bool"
 | .str=>match v with
  | .str e=>mret (some e,none)
  | _=>mfail "loop: no string"
 | .lst t=>match v with
  | .lst t' L _=>bif Nat.beq t t' then mret (some L,none) else mfail "loop: type"
  | _=>mfail "loop: no list"
 | .clp t=>match v with
  | .lst t' L c=>bif c && Nat.beq t t' then mret (some L,none) else mfail "loop: type"
  | _=>mfail "loop: no list"
 | .acc e z => match v with
  | .sl b z' (.int m) len cap => mread fun s => match s.get b with
   | some (.rows L e' z'' ph) => bif Nat.beq e e' && Nat.beq z z' && Nat.beq z z'' && decide (m = 0) then
     mbind (mneed U (mkNot (mkLt (lenE L) len))) fun _=>mbind (mpart U L (.int 0) len) fun d=>match capOf a,cap with
      | .un, .ge=>mret (some d,some b)
      | .un, .un=>mret (some d,some b)
      | .ge, .ge=>mret (some d,some b)
      | .un, .ex c' => mbind (mneed U (mkEqi c' len)) fun _=>mbind (mneed U (mkLt len (.int 67108865))) fun _=>mret (some d,some b)
      | .ex c, .ex c' => mbind (mneed U (mkEqi c' c)) fun _=>mbind (mneed U (mkNot (mkLt ph c))) fun _=>mret (some d,some b)
      | _,_=>mfail "loop: capacity"
    else mfail "loop: slice"
   | _=>mfail "loop: block"
  | _=>mfail "loop: no slice"
 | .itr s0=>match v with
  | .ptr b z (.int m) f=>mread fun s=>match s.get b with
   | some (.iter s' pos)=>bif Nat.beq z 1 && decide (m=0) && Nat.beq f 0 then mbind (mneed U (mkEqs s' s0)) fun _=>mret (some pos,some b) else mfail "loop: iterator"
   | _=>mfail "loop: block"
  | _=>mfail "loop: no iterator"
 | .cel k t=>match v with
  | .ptr b z (.int m) f=>mread fun s=>match s.get b with
   | some (.cells [.int k' e] t' z')=>bif Nat.beq z 1 && decide (m=0) && Nat.beq f 0 && Nat.beq z' 1 && Nat.beq t t' && decide (k=k') then mret (some e,some b) else mfail "loop: cell"
   | _=>mfail "loop: block"
  | _=>mfail "loop: no cell"
 | .mac kt vt=>match v with
  | .map b=>mread fun s=>match s.get b with
   | some (.map L kt' vt')=>bif Nat.beq kt kt' && Nat.beq vt vt' then mret (some L,some b) else mfail "loop: map"
   | _=>mfail "loop: block"
  | _=>mfail "loop: no map"
 | .rwk b e z ph=>mread fun s=>match s.get b with
  | some (.rows L e' z' ph')=>bif Nat.beq e e' && Nat.beq z z' then mbind (mneed U (mkNot (mkLt ph' ph))) fun _=>mret (some L,none) else mfail "loop: rows"
  | _=>mfail "loop: no rows"
variable (U) in
def sameE : So→E→E→Prop
 | .i,e,d=>e.toI U=d.toI U
 | .b,e,d=>(e.den U).toBool=(d.den U).toBool
 | .s,e,d=>(e.den U).toStr=(d.den U).toStr
 | .l,e,d=>e.toR U=d.toR U
variable {τ : Tau} {F : Nat→Option Blk} {s : SS} {hp : Hp}
variable (P U) in
def BlkFor (τ : Tau) (F : Nat→Option Blk) (s : SS) (so : So) (mk : E→Option SBlk) (r : Option E × Option Nat) : Prop :=
 ∃ b L x',r.2=some b∧r.1=some L∧s.get b=some x' ∧ ∀ d,sameE U so L d → ∃ X,mk d=some X ∧
  (∀ (τ2 : Tau) o y,BD P U τ F o x' y→BD P U τ2 F o X y)∧(RowNil P U x' → RowNil P U X)
variable (P U) in
def FixFor (τ : Tau) (F : Nat→Option Blk) (s : SS) (g : G) (r : Option E × Option Nat) : Prop :=
 ∀ d0 p,g.fix d0=some p→g.so=some .l ∧ ∃ L x',r.1=some L∧s.get p.1=some x' ∧ ∀ d,sameE U .l L d → ∃ X,g.fix d=some (p.1,X) ∧
  (∀ (τ2 : Tau) o y,BD P U τ F o x' y→BD P U τ2 F o X y)∧(RowNil P U x' → RowNil P U X)
variable (P U) in
def MtOK (τ0 : Tau) (τ : Tau) (F : Nat→Option Blk) (s : SS) (g : G) (a v : SV) (r : Option E × Option Nat) : Prop :=
 (∀ so,g.so=some so → ∃ e,r.1=some e)∧(g.so=none→r.1=none)∧(g.na=0→r.2=none) ∧
 (∀ x,VD P U τ F v x → ∀ (τ2 : Tau) (nb : Nat) (d : E),(∀ b p,τ0 b=some p→τ2 b=τ b)→(∃ F0 x0,VD P U τ0 F0 a x0)→(∀ e so,r.1=some e→g.so=some so→sameE U so e d)→(∀ b,r.2=some b→τ2 nb=τ b)→VD P U τ2 F (tv g a d nb) x) ∧
 (g.na ≠ 0 → ∃ so,g.so=some so∧BlkFor P U τ F s so (g.blk a) r)∧FixFor P U τ F s g r
theorem mt1_ok (τ0 : Tau) (g : G) (a v : SV) : OKp U (mt1 U g a v) s fun r => ∀ s', s'.h = s.h → MtOK P U τ0 τ F s' g a v r := by
 cases g with
 | keep =>
  simp only [mt1]
  cases h : svk a v with
  | false=>exact OKp.fail
  | true =>
   have:=svk_eq h
   subst this
   exact OKp.ret fun s' _=>⟨fun so h=>(by cases h),fun _=>rfl,fun _=>rfl,fun x hx τ2 nb d hk ⟨F0,x0,h0⟩ _ _=>h0.re hx hk,fun h=>absurd rfl h,fun d0 p h=>(by cases h)⟩
 | any =>
  simp only [mt1]
  exact OKp.ret fun s' _=>⟨fun so h=>(by cases h),fun _=>rfl,fun _=>rfl,fun x hx τ2 nb d hk _ _ _ => .any x,fun h=>absurd rfl h,fun d0 p h=>(by cases h)⟩
 | int k =>
  simp only [mt1]
  split
  ·rename_i k' e
   cases h : decide (k=k') with
   | false=>exact OKp.fail
   | true =>
    rw [decide_eq_true_eq] at h
    subst h
    refine OKp.ret fun s' _=>⟨fun so h=>⟨e,rfl⟩,fun h=>(by cases h),fun _=>rfl,fun x hx τ2 nb d hk _ hd _ => ?_,fun h=>absurd rfl h,fun d0 p h=>(by cases h)⟩
    have:=hd e .i rfl rfl
    cases hx
    show VD P U τ2 F (.int k d) _
    rw [show e.toI U=d.toI U from this]
    exact .int k d
  ·exact OKp.fail
 | bool =>
  simp only [mt1]
  split
  ·rename_i e
   refine OKp.ret fun s' _=>⟨fun so h=>⟨e,rfl⟩,fun h=>(by cases h),fun _=>rfl,fun x hx τ2 nb d hk _ hd _ => ?_,fun h=>absurd rfl h,fun d0 p h=>(by cases h)⟩
   have:=hd e .b rfl rfl
   cases hx
   show VD P U τ2 F (.bool d) _
   rw [show (e.den U).toBool=(d.den U).toBool from this]
   exact .bool d
  ·exact OKp.fail
 | str =>
  simp only [mt1]
  split
  ·rename_i e
   refine OKp.ret fun s' _=>⟨fun so h=>⟨e,rfl⟩,fun h=>(by cases h),fun _=>rfl,fun x hx τ2 nb d hk _ hd _ => ?_,fun h=>absurd rfl h,fun d0 p h=>(by cases h)⟩
   have:=hd e .s rfl rfl
   cases hx
   show VD P U τ2 F (.str d) _
   rw [show (e.den U).toStr=(d.den U).toStr from this]
   exact .str d
  ·exact OKp.fail
 | lst t =>
  simp only [mt1]
  split
  ·rename_i t' L clip
   cases h : Nat.beq t t' with
   | false=>exact OKp.fail
   | true =>
    have:=Nat.eq_of_beq_eq_true h
    subst this
    refine OKp.ret fun s' _=>⟨fun so h=>⟨L,rfl⟩,fun h=>(by cases h),fun _=>rfl,fun x hx τ2 nb d hk _ hd _ => ?_,fun h=>absurd rfl h,fun d0 p h=>(by cases h)⟩
    have:=hd L .l rfl rfl
    cases hx with
    | lst _ _ _ _ hp hc=>exact .lst t d false x (by rw [← show L.toR U=d.toR U from this]; exact hp) (fun h=>by cases h)
  ·exact OKp.fail
 | clp t =>
  simp only [mt1]
  split
  ·rename_i t' L clip
   cases h : clip && Nat.beq t t' with
   | false=>exact OKp.fail
   | true =>
    rw [Bool.and_eq_true] at h
    obtain ⟨rfl,h⟩:=h
    have:=Nat.eq_of_beq_eq_true h
    subst this
    refine OKp.ret fun s' _=>⟨fun so h=>⟨L,rfl⟩,fun h=>(by cases h),fun _=>rfl,fun x hx τ2 nb d hk _ hd _ => ?_,fun h=>absurd rfl h,fun d0 p h=>(by cases h)⟩
    have:=hd L .l rfl rfl
    cases hx with
    | lst _ _ _ _ hp hc=>exact .lst t d true x (by rw [← show L.toR U=d.toR U from this]; exact hp) hc
  ·exact OKp.fail
 | itr s0 =>
  simp only [mt1]
  split
  ·rename_i b z m f
   refine OKp.read ?_
   split
   ·rename_i s' pos hb
    cases hc : Nat.beq z 1 && decide (m=0) && Nat.beq f 0 with
    | false=>exact OKp.fail
    | true =>
     simp only [Bool.and_eq_true,Nat.beq_eq,decide_eq_true_eq] at hc
     obtain ⟨⟨rfl,rfl⟩,rfl⟩:=hc
     refine OKp.need.bind fun _ s1 o1 _ n1=>OKp.ret fun s2 hs2 => ?_
     have heq : (s'.den U).toStr=(s0.den U).toStr:=by
      have:=(E.pr_iff U _).1 n1
      rw [mkEqs_den] at this
      exact eq_of_beq this
     refine ⟨fun so h=>⟨pos,rfl⟩,fun h=>(by cases h),fun h=>(by cases h),fun x hx τ2 nb d hk _ hd hbb => ?_,fun _=>⟨.i,rfl,b,pos, .iter s' pos,rfl,rfl,by unfold SS.get; rw [hs2]; exact hb,fun d hd=>⟨_,rfl, ?_, ?_⟩⟩,fun d0 p h=>(by cases h)⟩
     ·cases hx with
      | ptr _ _ _ _ i o h h0=>exact .ptr nb 1 (.int 0) 0 i o (by rw [hbb b rfl]; exact h) h0
     ·rintro τ2 o y ⟨e0,n,e1,e2⟩
      exact ⟨e0,n,by rw [← heq]; exact e1,by rw [← e2]; exact hd.symm⟩
     ·rintro ⟨L,e,z,ph,h,_⟩
      cases h
   ·exact OKp.fail
  ·exact OKp.fail
 | mac kt vt =>
  simp only [mt1]
  split
  ·rename_i b
   refine OKp.read ?_
   split
   ·rename_i L kt' vt' hb
    cases hc : Nat.beq kt kt' && Nat.beq vt vt' with
    | false=>exact OKp.fail
    | true =>
     simp only [Bool.and_eq_true,Nat.beq_eq] at hc
     obtain ⟨rfl,rfl⟩:=hc
     refine OKp.ret fun s2 hs2 => ?_
     refine ⟨fun so h=>⟨L,rfl⟩,fun h=>(by cases h),fun h=>(by cases h),fun x hx τ2 nb d hk _ hd hbb => ?_,fun _=>⟨.l,rfl,b,L, .map L kt vt,rfl,rfl,by unfold SS.get; rw [hs2]; exact hb,fun d hd=>⟨_,rfl, ?_, ?_⟩⟩,fun d0 p h=>(by cases h)⟩
     ·cases hx with
      | map _ i o h=>exact .map nb i o (by rw [hbb b rfl]; exact h)
     ·rintro τ2 o y ⟨h0,es,reg,h1,h2⟩
      exact ⟨h0,es,reg,h1,by rw [← show L.toR U=d.toR U from hd]; exact h2⟩
     ·rintro ⟨L,e,z,ph,h,_⟩
      cases h
   ·exact OKp.fail
  ·exact OKp.fail
 | cel k t =>
  simp only [mt1]
  split
  ·rename_i b z m f
   refine OKp.read ?_
   split
   ·rename_i k' e t' z' hb
    cases hc : Nat.beq z 1 && decide (m=0) && Nat.beq f 0 && Nat.beq z' 1 && Nat.beq t t' && decide (k=k') with
    | false=>exact OKp.fail
    | true =>
     simp only [Bool.and_eq_true,Nat.beq_eq,decide_eq_true_eq] at hc
     obtain ⟨⟨⟨⟨⟨rfl,rfl⟩,rfl⟩,rfl⟩,rfl⟩,rfl⟩:=hc
     refine OKp.ret fun s2 hs2 => ?_
     refine ⟨fun so h=>⟨e,rfl⟩,fun h=>(by cases h),fun h=>(by cases h),fun x hx τ2 nb d hk _ hd hbb => ?_,fun _=>⟨.i,rfl,b,e, .cells [.int k e] t 1,rfl,rfl,by unfold SS.get; rw [hs2]; exact hb,fun d hd=>⟨_,rfl, ?_, ?_⟩⟩,fun d0 p h=>(by cases h)⟩
     ·cases hx with
      | ptr _ _ _ _ i o h h0=>exact .ptr nb 1 (.int 0) 0 i o (by rw [hbb b rfl]; exact h) h0
     ·rintro τ2 o y ⟨cs,n,e0,e1,e2⟩
      refine ⟨cs,n,e0,e1,fun j a ha => ?_⟩
      have hj : j=0:=by have:=(List.getElem?_eq_some_iff.1 ha).1; simp at this; exact this
      subst hj
      obtain ⟨x,h1,h2⟩:=e2 0 (.int k e) rfl
      simp at ha
      subst ha
      refine ⟨x,h1, ?_⟩
      cases h2
      rw [show e.toI U=d.toI U from hd]
      exact .int k d
     ·rintro ⟨L,e,z,ph,h,_⟩
      cases h
   ·exact OKp.fail
  ·exact OKp.fail
 | rwk b e z ph =>
  simp only [mt1]
  refine OKp.read ?_
  split
  ·rename_i L e' z' ph' hb
   cases hc : Nat.beq e e' && Nat.beq z z' with
   | false=>exact OKp.fail
   | true =>
    simp only [Bool.and_eq_true,Nat.beq_eq] at hc
    obtain ⟨rfl,rfl⟩:=hc
    rw [cond_true]
    refine OKp.need.bind fun _ s1 o1 _ n1=>OKp.ret fun s' hs' => ?_
    have hph:=need_nlt n1
    refine ⟨fun so h=>⟨L,rfl⟩,fun h=>(by cases h),fun _=>rfl,fun x hx τ2 nb d hk _ _ _ => .any x,fun h=>absurd rfl h,fun d0 p h=>⟨rfl,L, .rows L e z ph',rfl, ?_,fun d hd=>⟨.rows d e z ph, ?_, ?_, ?_⟩⟩⟩
    ·simp only [G.fix,Option.some.injEq] at h
     subst h
     unfold SS.get; rw [hs']; exact hb
    ·simp only [G.fix,Option.some.injEq] at h
     subst h
     rfl
    ·rintro τ2 o y ⟨cs,n,h1,h2,h3⟩
     have hR : L.toR U=d.toR U:=hd
     refine ⟨cs,n,h1,by rw [← hR]; exact h2, ?_⟩
     have : ph.toN U≤ph'.toN U:=by show (ph.toI U).toNat≤(ph'.toI U).toNat; omega
     have:=Nat.mul_le_mul_right z this; omega
    ·rintro ⟨L',e',z',ph0,h1,h2,h3,h4⟩
     have hR : L.toR U=d.toR U:=hd
     cases h1
     exact ⟨d,e,z,ph,rfl,by rw [← hR]; exact h2,h3,by omega⟩
  ·exact OKp.fail
 | acc e z =>
  simp only [mt1]
  split
  ·rename_i b z' m len cap
   refine OKp.read ?_
   split
   ·rename_i L e' z'' ph hb
    cases hc : Nat.beq e e' && Nat.beq z z' && Nat.beq z z'' && decide (m=0) with
    | false=>exact OKp.fail
    | true =>
     simp only [Bool.and_eq_true,Nat.beq_eq,decide_eq_true_eq] at hc
     obtain ⟨⟨⟨rfl,rfl⟩,rfl⟩,rfl⟩:=hc
     rw [cond_true]
     refine OKp.need.bind fun _ s1 o1 _ n1=>mpart_ok.bind fun D s2 o2 _ hD => ?_
     have hlen : len.toI U≤((L.toR U).length : Int):=by have:=need_nlt n1; rwa [lenE_toI] at this
     have hDR : D.toR U=(L.toR U).take (len.toN U):=by
      show (D.den U).rows=_
      rw [hD]
      show part (L.toR U) 0 (len.toI U)=_
      unfold part
      simp
     have key : ∀ (hcap : ∀ (c : Nat) (n : E), n.toI U = len.toI U → capR U len cap c → capR U n (capOf a) c) (hcap0 : ∀ c, capOf a = .ex c → ∃ c', cap = .ex c' ∧ c'.toI U = c.toI U)
       (hph : ∀ c,capOf a = .ex c→c.toI U≤ph.toI U) (s' : SS),s'.h=s.h→MtOK P U τ0 τ F s' (.acc e z) a (.sl b z (.int 0) len cap) (some D,some b):=by
      intro hcap hcap0 hph s' hs'
      have hlD : ∀ {d : E},sameE U .l D d→d.toR U=(L.toR U).take (len.toN U):=fun h=>by rw [← hDR]; exact h.symm
      refine ⟨fun so _=>⟨D,rfl⟩,fun h=>(by cases h),fun h=>(by cases h),fun x hx τ2 nb d hk _ hd hbb => ?_,fun _=>⟨.l,rfl, ?_⟩,fun d0 p h=>(by cases h)⟩
      ·have hR:=hlD (hd D .l rfl rfl)
       have hτ:=hbb b rfl
       have hle0 : 0≤len.toI U:=by cases hx <;> omega
       have hl1 : (lenE d).toI U=len.toI U:=by
        rw [lenE_toI,hR,List.length_take]
        rw [Nat.min_eq_left (by show (len.toI U).toNat≤_; omega)]
        show (((len.toI U).toNat : Nat) : Int)=_
        omega
       have hl2 : (lenE d).toN U=len.toN U:=by show ((lenE d).toI U).toNat=_; rw [hl1]
       cases hx with
       | sl _ _ _ _ _ i o c k1 k2 k3 k4 =>
        show VD P U τ2 F (.sl nb z (.int 0) (lenE d) (capOf a)) _
        rw [← hl2]
        exact .sl nb z (.int 0) (lenE d) (capOf a) i o c (by rw [hτ]; exact k1) (Int.le_refl 0) (by omega) (hcap c _ hl1 k4)
       | sl0 _ _ _ _ _ k1 k2 k3 k4 =>
        refine .sl0 nb z (.int 0) (lenE d) (capOf a) (by rw [hτ]; exact k1) rfl (by omega) fun c hc => ?_
        obtain ⟨c',h1,h2⟩:=hcap0 c hc
        rw [← h2]; exact k4 c' h1
      ·refine ⟨b,D, .rows L e z ph,rfl,rfl,by unfold SS.get; rw [hs']; exact hb,fun d hd=>⟨_,rfl, ?_⟩⟩
       have hR:=hlD hd
       have hll : (d.toR U).length≤(L.toR U).length:=by rw [hR,List.length_take]; omega
       constructor
       ·rintro τ2 o y ⟨cs,n,h1,⟨h2,h3,h4,h5⟩,h6⟩
        refine ⟨cs,n,h1,⟨?_,h3,fun r hr=>h4 r ?_,fun r k row dd hr hkd=>h5 r k row dd ?_ hkd⟩, ?_⟩
        ·have:=Nat.mul_le_mul_right z hll; omega
        ·rw [hR] at hr; exact List.mem_of_mem_take hr
        ·rw [hR,List.getElem?_take] at hr
         split at hr
         ·exact hr
         ·cases hr
        ·cases hca : capOf a with
         | ge =>
          have : (phOf d .ge).toN U=(d.toR U).length:=by show ((lenE d).toI U).toNat=_; rw [lenE_toI]; omega
          rw [this]
          have:=Nat.mul_le_mul_right z hll; omega
         | un =>
          have : (phOf d .un).toN U=(d.toR U).length:=by show ((lenE d).toI U).toNat=_; rw [lenE_toI]; omega
          rw [this]
          have:=Nat.mul_le_mul_right z hll; omega
         | ex c =>
          have h7:=hph c hca
          have : (phOf d (.ex c)).toN U≤ph.toN U:=by show (c.toI U).toNat≤(ph.toI U).toNat; omega
          have:=Nat.mul_le_mul_right z this; omega
       ·rintro ⟨L',e',z',ph',h1,h2,h3,h4⟩
        cases h1
        refine ⟨d,e,z,_,rfl,by rw [hR,h2]; simp,h3, ?_⟩
        cases hca : capOf a with
        | ge=>show (lenE d).toI U≤0; rw [lenE_toI,hR,h2]; simp
        | un=>show (lenE d).toI U≤0; rw [lenE_toI,hR,h2]; simp
        | ex c=>have h7:=hph c hca; show c.toI U≤0; omega
     split
     ·rename_i ha
      refine OKp.ret (key (fun c n hn hc => ?_) (fun c hc=>by rw [ha] at hc; cases hc) (fun c hc=>by rw [ha] at hc; cases hc))
      rw [ha]
      obtain ⟨lo,h1,h2,h3⟩:=hc
      exact Or.inr ⟨lo,h1,h2,by omega⟩
     ·rename_i ha
      refine OKp.ret (key (fun c n hn hc => ?_) (fun c hc=>by rw [ha] at hc; cases hc) (fun c hc=>by rw [ha] at hc; cases hc))
      rw [ha]
      rcases hc with ⟨h1,h2,h3⟩ | ⟨lo,h1,h2,h3⟩
      ·exact Or.inl ⟨h1,by rw [h2]; show (len.toI U).toNat=(n.toI U).toNat; rw [hn],by omega⟩
      ·exact Or.inr ⟨lo,h1,h2,by omega⟩
     ·rename_i ha
      refine OKp.ret (key (fun c n hn hc => ?_) (fun c hc=>by rw [ha] at hc; cases hc) (fun c hc=>by rw [ha] at hc; cases hc))
      rw [ha]
      obtain ⟨lo,h1,h2,h3⟩:=hc
      exact ⟨lo,h1,h2,by omega⟩
     ·rename_i c' ha
      refine OKp.need.bind fun _ s3 _ _ n2=>OKp.need.bind fun _ s4 _ _ n3 => ?_
      have e1:=need_eq n2
      have e2:=need_lt n3
      simp only [den_int] at e2
      refine OKp.ret (key (fun k n hn hc => ?_) (fun c hc=>by rw [ha] at hc; cases hc) (fun c hc=>by rw [ha] at hc; cases hc))
      rw [ha]
      obtain ⟨h1,h2,h3,h4⟩:=hc
      exact Or.inl ⟨h3,by rw [h2]; show (c'.toI U).toNat=(n.toI U).toNat; rw [e1,hn],by omega⟩
     ·rename_i c c' ha
      refine OKp.need.bind fun _ s3 _ _ n2=>OKp.need.bind fun _ s4 _ _ n3 => ?_
      have e1:=need_eq n2
      have e2:=need_nlt n3
      refine OKp.ret (key (fun k n hn hc => ?_) (fun c2 hc => ?_) (fun c2 hc => ?_))
      ·rw [ha]
       obtain ⟨h1,h2,h3,h4⟩:=hc
       exact ⟨by omega,by rw [h2]; show (c'.toI U).toNat=(c.toI U).toNat; rw [e1],h3,by omega⟩
      ·rw [ha] at hc; cases hc; exact ⟨c',rfl,e1⟩
      ·rw [ha] at hc; cases hc; exact e2
     ·exact OKp.fail
   ·exact OKp.fail
  ·exact OKp.fail
end
end Go.Sx
namespace Go.Sx
open Go.Xe
section
variable {P : Program} {U : Nat→List Dat→Dat}
theorem PV.lst_eq {F : Nat→Option Blk} {e : TypeId} {v : Value} {d : Dat} (h : PV P F (.sl e) v d) : d = .lst d.rows:=by cases h <;> rfl
theorem norm1_ok {τ : Tau} {F : Nat → Option Blk} {s : SS} {hp : Hp} (g : G) {v : SV} {x : Value} (hv : VD P U τ F v x) (hs : SD P U τ F s hp) :
  OKh P U (norm1 P U g v) τ F s hp fun v' τ' F' hp' => hp' = hp∧VD P U τ' F' v' x:=by
 cases g with
 | lst t =>
  simp only [norm1]
  refine (sdat_ok 20 (.sl t) v x τ F s hp hv hs).bind fun e τ1 F1 s1 hp1 _ hs1 ⟨h1,h2,h3⟩=>OKh.ret ⟨h2, ?_⟩
  have:=h3.lst_eq
  rw [this] at h3
  exact .lst t e false x h3 (fun h=>by cases h)
 | clp t =>
  simp only [norm1]
  split
  ·rename_i t' L c
   cases c with
   | false=>exact OKh.fail
   | true=>exact OKh.ret ⟨rfl,hv⟩
  ·cases hv
   exact OKh.ret ⟨rfl, .lst t _ true _ (.nils t) (fun _=>⟨_,_,rfl⟩)⟩
  ·rename_i b z off len c
   refine OKh.bindp OKp.need fun _ s1 o1 hs1 p1 => ?_
   have p1:=need_eq p1
   refine (sdat_ok 20 (.sl t) _ x τ F s1 hp hv hs1).bind fun e τ1 F1 s2 hp1 _ hs2 ⟨h1,h2,h3⟩=>OKh.ret ⟨h2, ?_⟩
   have:=h3.lst_eq
   rw [this] at h3
   refine .lst t e true x h3 (fun _ => ?_)
   cases hv with
   | sl _ _ _ _ _ i o c' k1 k2 k3 k4 =>
    obtain ⟨q1,q2,q3,q4⟩:=k4
    refine ⟨some ⟨i,o+off.toN U * z,none⟩,len.toN U, ?_⟩
    rw [q2]
    show Value.slice _ (len.toI U).toNat (c.toI U).toNat=Value.slice _ (len.toI U).toNat (len.toI U).toNat
    rw [p1]
   | sl0=>exact ⟨_,_,rfl⟩
  ·exact OKh.fail
 | acc e z =>
  simp only [norm1]
  split
  ·rename_i b z' off len cap
   refine (mrows_ok hs).bind fun _ τ1 F1 s1 hp1 _ hs1 ⟨h1,h2,h3⟩=>OKh.ret ⟨h3, ?_⟩
   subst h1; subst h2
   exact hv
  ·cases hz : Nat.beq z (kf P e).length with
   | false=>exact OKh.fail
   | true =>
    rw [cond_true]
    have hz' := Nat.eq_of_beq_eq_true hz
    refine OKh.bind (R:=fun b τ' F' hp' => hp' = hp∧τ' b=some none) ?_ fun b τ1 F1 s1 hp1 _ hs1 ⟨h1,h2⟩=>OKh.ret ⟨h1, ?_⟩
    ·intro Q hq _
     obtain ⟨h1,h2⟩:=hs.alloc (x := .rows (.op .nil []) e z (.int 0)) (p:=none) (hp' := hp) (Nat.le_refl _) (fun _ _=>rfl) (.inr ⟨rfl,_,_,_,_,rfl,rfl,hz',Int.le_refl 0⟩)
     exact ⟨s.nx,_,hq,_,F,hp,h1,h2,rfl,put_same _ _ _⟩
    ·cases hv
     exact .sl0 b z (.int 0) (.int 0) .ge h2 rfl rfl (fun e h=>by cases h)
  ·exact OKh.fail
 | keep=>exact OKh.ret ⟨rfl,hv⟩
 | any=>exact OKh.ret ⟨rfl,hv⟩
 | int k=>exact OKh.ret ⟨rfl,hv⟩
 | bool=>exact OKh.ret ⟨rfl,hv⟩
 | str=>exact OKh.ret ⟨rfl,hv⟩
 | itr s=>exact OKh.ret ⟨rfl,hv⟩
 | cel k t=>exact OKh.ret ⟨rfl,hv⟩
 | mac kt vt=>exact OKh.ret ⟨rfl,hv⟩
 | rwk b e z ph=>exact OKh.ret ⟨rfl,hv⟩
theorem norm_ok : ∀ (ps : List Pl) (vs : List SV) (xs : List Value) (τ : Tau) (F : Nat → Option Blk) (s : SS) (hp : Hp), VDL P U τ F vs xs → SD P U τ F s hp →
  OKh P U (norm P U ps vs) τ F s hp fun vs' τ' F' hp' => hp' = hp∧VDL P U τ' F' vs' xs
 | [],[],xs,τ,F,s,hp,hv,hs=>OKh.ret ⟨rfl,hv⟩
 | [],v :: vs,xs,τ,F,s,hp,hv,hs=>OKh.fail
 | p :: ps,[],xs,τ,F,s,hp,hv,hs=>OKh.fail
 | p :: ps,v :: vs,xs,τ,F,s,hp,hv,hs=>by
  obtain ⟨y,ys,rfl,h1,h2⟩:=hv.uncons
  unfold norm
  refine (norm1_ok p.g h1 hs).bind fun v' τ1 F1 s1 hp1 ex hs1 ⟨e1,e2⟩=>(norm_ok ps vs ys τ1 F1 s1 hp1 (h2.mono ex.t ex.f) hs1).bind fun vs' τ2 F2 s2 hp2 ex2 hs2 ⟨k1,k2⟩=>OKh.ret ⟨by rw [k1,e1], .cons (e2.mono ex2.t ex2.f) k2⟩
def pushO {α : Type} : Option α→List α→List α
 | some a,l=>a :: l
 | none,l=>l
def mtP (U : Nat→List Dat→Dat) : List Pl→List SV→M (List E × List Nat)
 | p :: l,v :: vs=>mbind (mt1 U p.g p.a v) fun r=>mbind (mtP U l vs) fun t=>mret (pushO r.1 t.1,pushO r.2 t.2)
 | [],[]=>mret ([],[])
 | _,_=>mfail "loop: places"
def sos : List Pl→List So
 | []=>[]
 | p :: l=>pushO p.g.so (sos l)
def rbs : List Pl→List Nat
 | []=>[]
 | p :: l=>match p.g.fix (.int 0) with
  | some q=>q.1 :: rbs l
  | none=>rbs l
theorem G.fix_num {g : G} {d : E} {q : Nat × SBlk} (h : g.fix d=some q) (d' : E) : ∃ X,g.fix d' = some (q.1,X):=by
 cases g with
 | rwk b e z ph=>simp only [G.fix,Option.some.injEq] at h; subst h; exact ⟨_,rfl⟩
 | _=>cases h
variable (U) in
def sames : List So→List E→List E→Prop
 | k :: ks,e :: es,d :: ds=>sameE U k e d∧sames ks es ds
 | [],[],[]=>True
 | _,_,_=>False
variable (P U) in
def MtsOK (τ0 τ : Tau) (F : Nat→Option Blk) (s : SS) : List Pl→List SV→List E→List Nat→Prop
 | [],[],es,bs=>es=[]∧bs=[]
 | p :: l,v :: vs,es,bs => ∃ r es' bs',es=pushO r.1 es' ∧ bs=pushO r.2 bs' ∧ MtOK P U τ0 τ F s p.g p.a v r∧MtsOK τ0 τ F s l vs es' bs'
 | _,_,_,_=>False
theorem mtP_ok {τ : Tau} {F : Nat→Option Blk} (τ0 : Tau) : ∀ (ps : List Pl) (vs : List SV) (s : SS),OKp U (mtP U ps vs) s fun r => ∀ s',s'.h=s.h→MtsOK P U τ0 τ F s' ps vs r.1 r.2
 | [],[],s=>OKp.ret fun _ _=>⟨rfl,rfl⟩
 | [],_ :: _,s=>OKp.fail
 | _ :: _,[],s=>OKp.fail
 | p :: ps,v :: vs,s=>by
  unfold mtP
  refine (mt1_ok (P:=P) (τ:=τ) (F:=F) τ0 p.g p.a v).bind fun r s1 o1 _ h1=>(mtP_ok (τ:=τ) (F:=F) τ0 ps vs s1).bind fun t s2 o2 _ h2=>OKp.ret fun s' hs' => ?_
  exact ⟨r,t.1,t.2,rfl,rfl,h1 s' hs',h2 s' (by rw [hs',o1.h])⟩
section
variable {τ0 τ : Tau} {F : Nat→Option Blk} {s : SS}
theorem G.blk_none {g : G} (h : g.na=0) (a : SV) (d : E) : g.blk a d=none:=by
 cases g with
 | acc e z=>cases h
 | itr s=>cases h
 | cel k t=>cases h
 | mac kt vt=>cases h
 | _=>rfl
theorem G.na_le (g : G) : g.na=0 ∨ g.na=1:=by cases g <;> simp [G.na]
theorem mts_step {p : Pl} {ps : List Pl} {v : SV} {r : Option E × Option Nat} {es' : List E} {ds : List E} (h : MtOK P U τ0 τ F s p.g p.a v r) (hd : sames U (sos (p :: ps)) (pushO r.1 es') ds) :
  (∀ e so,r.1=some e→p.g.so=some so→sameE U so e (hd1 ds))∧sames U (sos ps) es' (pop p.g ds) ∧
  (∀ b,r.2=some b→p.g.na=1)∧(p.g.na=0 ∨ p.g.na=1):=by
 obtain ⟨m1,m2,m3,m4,m5⟩:=h
 have hna : p.g.na=0 ∨ p.g.na=1:=p.g.na_le
 refine ⟨?_, ?_,fun b hb => ?_,hna⟩
 ·intro e so he hso
  unfold sos at hd
  rw [hso,he] at hd
  cases ds with
  | nil=>exact hd.elim
  | cons d ds=>exact hd.1
 ·unfold sos at hd
  cases hso : p.g.so with
  | none =>
   rw [hso,m2 hso] at hd
   unfold pop; rw [hso]; exact hd
  | some so =>
   obtain ⟨e,he⟩:=m1 so hso
   rw [hso,he] at hd
   cases ds with
   | nil=>exact hd.elim
   | cons d ds=>unfold pop; rw [hso]; exact hd.2
 ·rcases hna with h0 | h1
  ·rw [m3 h0] at hb; cases hb
  ·exact h1
theorem MtsOK.vals : ∀ {ps : List Pl} {vs : List SV} {es : List E} {bs : List Nat} {ds : List E} {xs : List Value} {τ2 : Tau} {nb : Nat}, MtsOK P U τ0 τ F s ps vs es bs → sames U (sos ps) es ds →
  (∀ b p,τ0 b=some p→τ2 b=τ b)→(∀ k b,bs[k]? = some b→τ2 (nb+k)=τ b)→(∀ p ∈ ps,∃ F0 x0,VD P U τ0 F0 p.a x0)→VDL P U τ F vs xs →
  ∀ (i : Nat) q x,(bldP ps ds nb)[i]? = some q→xs[i]? = some x→VD P U τ2 F q.2 x
 | [],vs,es,bs,ds,xs,τ2,nb,h,hd,hk,hb,ha,hx=>fun i q x hq _=>by simp [bldP] at hq
 | p :: ps,[],es,bs,ds,xs,τ2,nb,h,hd,hk,hb,ha,hx=>h.elim
 | p :: ps,v :: vs,es,bs,ds,xs,τ2,nb,h,hd,hk,hb,ha,hx=>by
  obtain ⟨r,es',bs',rfl,rfl,hm,hms⟩:=h
  obtain ⟨y,ys,rfl,h1,h2⟩:=hx.uncons
  obtain ⟨s1,s2,s3,s4⟩:=mts_step hm hd
  intro i q x hq hxi
  cases i with
  | zero =>
   simp only [bldP,List.getElem?_cons_zero,Option.some.injEq] at hq hxi
   subst hq; subst hxi
   refine hm.2.2.2.1 y h1 τ2 nb (hd1 ds) hk (ha p (by simp)) s1 fun b hr => ?_
   have:=hb 0 b (by rw [hr]; rfl)
   simpa using this
  | succ i =>
   simp only [bldP,List.getElem?_cons_succ] at hq hxi
   refine MtsOK.vals hms s2 hk (fun k b hkb => ?_) (fun p hp=>ha p (by simp [hp])) h2 i q x hq hxi
   rcases s4 with h0 | h0
   ·rw [h0,Nat.add_zero]
    have hr : r.2=none:=hm.2.2.1 h0
    rw [hr] at hb
    exact hb k b hkb
   ·obtain ⟨so,_,b',L,x',hr,_⟩:=hm.2.2.2.2.1 (by omega)
    rw [hr] at hb
    have:=hb (k+1) b hkb
    rw [h0,show nb+1+k=nb+(k+1) by omega]
    exact this
theorem MtsOK.blks : ∀ {ps : List Pl} {vs : List SV} {es : List E} {bs : List Nat} {ds : List E} {nb : Nat}, MtsOK P U τ0 τ F s ps vs es bs → sames U (sos ps) es ds →
  ∀ b' y,lk (bldB ps ds nb) b' = some y→(∃ k b X x',b' = nb+k∧bs[k]? = some b∧y=some X∧s.get b=some x' ∧ (∀ (τ2 : Tau) o z,BD P U τ F o x' z→BD P U τ2 F o X z)∧(RowNil P U x' → RowNil P U X)) ∨
   (∃ X x',b' ∈ rbs ps∧y=some X∧s.get b' = some x' ∧ (∀ (τ2 : Tau) o z,BD P U τ F o x' z→BD P U τ2 F o X z)∧(RowNil P U x' → RowNil P U X))
 | [],vs,es,bs,ds,nb,h,hd=>fun b' y hy=>by simp [bldB,lk] at hy
 | p :: ps,[],es,bs,ds,nb,h,hd=>h.elim
 | p :: ps,v :: vs,es,bs,ds,nb,h,hd=>by
  obtain ⟨r,es',bs',rfl,rfl,hm,hms⟩:=h
  obtain ⟨s1,s2,s3,s4⟩:=mts_step hm hd
  intro b' y hy
  have ih:=MtsOK.blks (nb:=nb+p.g.na) hms s2
  have sub : ∀ b,b ∈ rbs ps→b ∈ rbs (p :: ps):=fun b hb=>by
   unfold rbs
   split
   ·exact List.mem_cons_of_mem _ hb
   ·exact hb
  by_cases hna : p.g.na=0
  ·have hr : r.2=none:=hm.2.2.1 hna
   cases hfx : p.g.fix (hd1 ds) with
   | none =>
    unfold bldB at hy
    rw [G.blk_none hna] at hy
    simp only [hfx] at hy
    rcases ih b' y hy with ⟨k,b,X,x',h1,h2⟩ | ⟨X,x',h1,h2⟩
    ·exact Or.inl ⟨k,b,X,x',by rw [h1,hna,Nat.add_zero],by rw [hr]; exact h2⟩
    ·exact Or.inr ⟨X,x',sub _ h1,h2⟩
   | some q =>
    unfold bldB at hy
    rw [G.blk_none hna] at hy
    simp only [hfx] at hy
    rw [lk_cons] at hy
    split at hy
    ·rename_i e1
     obtain ⟨hso,L,x',k1,k2,k3⟩:=hm.2.2.2.2.2 _ _ hfx
     obtain ⟨X,k4,k5,k6⟩:=k3 (hd1 ds) (s1 L .l k1 hso)
     rw [hfx] at k4
     simp only [Option.some.injEq] at k4
     simp only [Option.some.injEq] at hy
     have k7 : q.2=X:=by rw [k4]
     rw [k7] at hy
     subst e1
     refine .inr ⟨X,x', ?_,hy.symm,k2,k5,k6⟩
     obtain ⟨X0,hX0⟩:=G.fix_num hfx (.int 0)
     unfold rbs
     rw [hX0]
     exact List.mem_cons_self ..
    ·rcases ih b' y hy with ⟨k,b,X,x',h1,h2⟩ | ⟨X,x',h1,h2⟩
     ·exact Or.inl ⟨k,b,X,x',by rw [h1,hna,Nat.add_zero],by rw [hr]; exact h2⟩
     ·exact Or.inr ⟨X,x',sub _ h1,h2⟩
  ·have hn1 : p.g.na=1:=s4.resolve_left hna
   obtain ⟨so,hso,b0,L,x',hr,hrL,hx,hbd⟩:=hm.2.2.2.2.1 hna
   obtain ⟨X0,hX,k1,k2⟩:=hbd (hd1 ds) (s1 L so hrL hso)
   have hy' : lk ((nb,some X0) :: bldB ps (pop p.g ds) (nb+p.g.na)) b' = some y:=by
    unfold bldB at hy
    rw [hX] at hy
    exact hy
   rw [lk_cons] at hy'
   split at hy'
   ·rename_i e1
    simp only [Option.some.injEq] at hy'
    exact .inl ⟨0,b0,_,x',e1.symm,by rw [hr]; rfl,hy'.symm,hx,k1,k2⟩
   ·rcases ih b' y hy' with ⟨k,b,X,x'',h1,h2,h3⟩ | ⟨X,x'',h1,h2⟩
    ·exact .inl ⟨k+1,b,X,x'',by rw [h1,hn1]; omega,by rw [hr]; exact h2,h3⟩
    ·exact .inr ⟨X,x'',sub _ h1,h2⟩
theorem bldB_has {b : Nat} : ∀ {ps : List Pl} {ds : List E} {nb : Nat},b ∈ rbs ps→b ∈ (bldB ps ds nb).map Prod.fst
 | [],ds,nb,h=>by simp [rbs] at h
 | p :: ps,ds,nb,h=>by
  unfold rbs at h
  cases hfx : p.g.fix (.int 0) with
  | none =>
   rw [hfx] at h
   have ih:=bldB_has (ds:=pop p.g ds) (nb:=nb+p.g.na) h
   unfold bldB
   split
   ·exact List.mem_cons_of_mem _ ih
   ·split
    ·exact List.mem_cons_of_mem _ ih
    ·exact ih
  | some q =>
   rw [hfx] at h
   have hb : p.g.blk p.a (hd1 ds)=none:=by
    cases hg : p.g with
    | rwk b e z ph=>rfl
    | _=>rw [hg] at hfx; cases hfx
   obtain ⟨X,hX⟩:=G.fix_num hfx (hd1 ds)
   unfold bldB
   rw [hb,hX]
   simp only [List.map_cons,List.mem_cons] at h ⊢
   rcases h with h | h
   ·exact .inl h
   ·exact .inr (bldB_has (ds:=pop p.g ds) (nb:=nb+p.g.na) h)
end
end
end Go.Sx
namespace Go.Sx
open Go.Xe
def tmpF : List (At × SV)→Fm
 | []=>[]
 | (p,v) :: l=>match p with
  | .tmp t=>(t,v) :: tmpF l
  | .cell _ _=>tmpF l
  | .no=>tmpF l
def isCell (b j : Nat) : At→Bool
 | .tmp _=>false
 | .cell b' j' => Nat.beq b b' && Nat.beq j j'
 | .no=>false
def cellOf : List (At × SV)→Nat→Nat→SV
 | [],_,_ => .any
 | (p,v) :: l,b,j=>bif isCell b j p then v else cellOf l b j
def cellsT (pv : List (At × SV)) (b : Nat) : Nat→Nat→List SV
 | _,0=>[]
 | j,n+1=>cellOf pv b j :: cellsT pv b (j+1) n
def ovB (s1 : SS) (pv : List (At × SV)) : List Nat→List (Nat × Option SBlk)
 | []=>[]
 | b :: l=>match s1.get b with
  | some (.cells c e z)=>(b,some (.cells (cellsT pv b 0 c.length) e z)) :: ovB s1 pv l
  | _=>ovB s1 pv l
def kills : List Nat→List (Nat × Option SBlk)
 | []=>[]
 | b :: l=>(b,none) :: kills l
def nacc : List Pl→Nat
 | []=>0
 | p :: l=>p.g.na+nacc l
def tmpH (ps : List Pl) (ds : List E) (s1 : SS) (bs0 kill : List Nat) : List (Nat × Option SBlk):=bldB ps ds s1.nx ++ (ovB s1 (bldP ps ds s1.nx) bs0 ++ kills (kill ++ [s1.nx]))
def sT (ps : List Pl) (ds : List E) (s1 : SS) (bs0 kill : List Nat) : SS := { s1 with h:=tmpH ps ds s1 bs0 kill ++ s1.h,nx:=s1.nx+nacc ps }
def fT (ps : List Pl) (ds : List E) (s1 : SS) (f0 : Fm) : Fm:=tmpF (bldP ps ds s1.nx) ++ f0
theorem lk_append {α : Type} (l m : List (Nat × α)) (b : Nat) : lk (l ++ m) b=match lk l b with | some x=>some x | none=>lk m b:=by
 induction l with
 | nil=>rfl
 | cons p l ih =>
  obtain ⟨k,x⟩:=p
  rw [List.cons_append,lk_cons,lk_cons]
  by_cases e : k=b
  ·rw [if_pos e,if_pos e]
  ·rw [if_neg e,if_neg e,ih]
theorem lk_none {α : Type} {b : Nat} : ∀ {l : List (Nat × α)},lk l b=none→b ∉ l.map Prod.fst
 | [],_=>by simp
 | (k,y) :: l,h=>by
  rw [lk_cons] at h
  split at h
  ·cases h
  ·rename_i e
   simp only [List.map_cons,List.mem_cons,not_or]
   exact ⟨fun h=>e h.symm,lk_none h⟩
theorem kills_lk {b : Nat} : ∀ {l : List Nat},lk (kills l) b=if b ∈ l then some none else none
 | []=>by simp [kills,lk]
 | k :: l=>by
  rw [kills,lk_cons,kills_lk]
  by_cases e : k=b
  ·subst e; simp
  ·rw [if_neg e]
   have : (b ∈ k :: l) ↔ b ∈ l:=by simp [List.mem_cons]; exact fun h=>absurd h.symm e
   simp only [this]
theorem cellsT_length (pv : List (At × SV)) (b : Nat) : ∀ (n j : Nat),(cellsT pv b j n).length=n
 | 0,_=>rfl
 | n+1,j=>by simp [cellsT,cellsT_length pv b n]
theorem cellsT_get (pv : List (At × SV)) (b : Nat) : ∀ (n j i : Nat) (a : SV),(cellsT pv b j n)[i]? = some a→i < n∧a=cellOf pv b (j+i)
 | 0,j,i,a,h=>by simp [cellsT] at h
 | n+1,j,0,a,h=>by simp only [cellsT,List.getElem?_cons_zero,Option.some.injEq] at h; exact ⟨by omega,h.symm⟩
 | n+1,j,i+1,a,h=>by
  simp only [cellsT,List.getElem?_cons_succ] at h
  obtain ⟨h1,h2⟩:=cellsT_get pv b n (j+1) i a h
  exact ⟨by omega,by rw [h2,show j+1+i=j+(i+1) by omega]⟩
theorem cellOf_spec {b j : Nat} : ∀ (pv : List (At × SV)),cellOf pv b j = .any ∨ ∃ (i : Nat) (q : At × SV),pv[i]? = some q∧q.1 = .cell b j∧cellOf pv b j=q.2
 | [] => .inl rfl
 | (p,v) :: l=>by
  unfold cellOf
  cases hc : isCell b j p with
  | true =>
   refine .inr ⟨0,(p,v),rfl, ?_,rfl⟩
   cases p with
   | tmp t=>cases hc
   | no=>cases hc
   | cell b' j' =>
    simp only [isCell,Bool.and_eq_true,Nat.beq_eq] at hc
    rw [hc.1,hc.2]
  | false =>
   rcases cellOf_spec l with h | ⟨i,q,h1,h2,h3⟩
   ·exact .inl h
   ·exact .inr ⟨i+1,q,h1,h2,h3⟩
theorem tmpF_lk {k : Nat} {a : SV} : ∀ (pv : List (At × SV)),lk (tmpF pv) k=some a → ∃ (i : Nat) (q : At × SV),pv[i]? = some q∧q.1 = .tmp k∧q.2=a
 | [],h=>by cases h
 | (p,v) :: l,h=>by
  unfold tmpF at h
  split at h
  ·rename_i t
   rw [lk_cons] at h
   split at h
   ·rename_i e
    simp only [Option.some.injEq] at h
    exact ⟨0,(.tmp t,v),rfl,by rw [e],h⟩
   ·obtain ⟨i,q,h1,h2⟩:=tmpF_lk l h
    exact ⟨i+1,q,h1,h2⟩
  ·obtain ⟨i,q,h1,h2⟩:=tmpF_lk l h
   exact ⟨i+1,q,h1,h2⟩
  ·obtain ⟨i,q,h1,h2⟩:=tmpF_lk l h
   exact ⟨i+1,q,h1,h2⟩
theorem tmpF_none {k : Nat} : ∀ (pv : List (At × SV)),lk (tmpF pv) k=none → ∀ q ∈ pv,q.1 ≠ .tmp k
 | [],_=>fun q hq=>by simp at hq
 | (p,v) :: l,h=>by
  unfold tmpF at h
  intro q hq hqt
  split at h
  ·rename_i t
   rw [lk_cons] at h
   split at h
   ·cases h
   ·rename_i e
    rcases List.mem_cons.1 hq with rfl | hq
    ·exact e (by cases hqt; rfl)
    ·exact tmpF_none l h q hq hqt
  ·rcases List.mem_cons.1 hq with rfl | hq
   ·cases hqt
   ·exact tmpF_none l h q hq hqt
  ·rcases List.mem_cons.1 hq with rfl | hq
   ·cases hqt
   ·exact tmpF_none l h q hq hqt
theorem bldP_at : ∀ (ps : List Pl) (ds : List E) (nb i : Nat) (q : At × SV),(bldP ps ds nb)[i]? = some q → ∃ p,ps[i]? = some p∧q.1=p.at_
 | [],ds,nb,i,q,h=>by simp [bldP] at h
 | p :: ps,ds,nb,0,q,h=>by simp only [bldP,List.getElem?_cons_zero,Option.some.injEq] at h; exact ⟨p,rfl,by rw [← h]⟩
 | p :: ps,ds,nb,i+1,q,h=>by
  simp only [bldP,List.getElem?_cons_succ] at h
  exact bldP_at ps _ _ i q h
theorem bldP_mem : ∀ (ps : List Pl) (ds : List E) (nb : Nat) (p : Pl),p ∈ ps → ∃ q ∈ bldP ps ds nb,q.1=p.at_
 | [],_,_,p,h=>by simp at h
 | p' :: ps,ds,nb,p,h=>by
  rcases List.mem_cons.1 h with rfl | h
  ·exact ⟨_,by simp [bldP]; exact .inl rfl,rfl⟩
  ·obtain ⟨q,h1,h2⟩:=bldP_mem ps (pop p'.g ds) (nb+p'.g.na) p h
   exact ⟨q,by simp [bldP,h1],h2⟩
theorem ovB_lk {s1 : SS} {pv : List (At × SV)} {b : Nat} : ∀ {l : List Nat}, (∀ b ∈ l, ∃ c e z, s1.get b = some (.cells c e z)) →
  ∀ y,lk (ovB s1 pv l) b=y→(b ∈ l ∧ ∃ c e z,s1.get b=some (.cells c e z)∧y=some (some (.cells (cellsT pv b 0 c.length) e z))) ∨ (b ∉ l∧y=none)
 | [],_,y,h => .inr ⟨by simp,h.symm⟩
 | b' :: l,hl,y,h=>by
  obtain ⟨c,e,z,hb⟩:=hl b' (by simp)
  unfold ovB at h
  rw [hb] at h
  simp only at h
  rw [lk_cons] at h
  by_cases eb : b' = b
  ·subst eb
   rw [if_pos rfl] at h
   exact .inl ⟨by simp,c,e,z,hb,h.symm⟩
  ·rw [if_neg eb] at h
   rcases ovB_lk (fun b hb=>hl b (by simp [hb])) y h with ⟨h1,h2⟩ | ⟨h1,h2⟩
   ·exact .inl ⟨by simp [h1],h2⟩
   ·exact .inr ⟨by simp [h1,Ne.symm eb],h2⟩
section
variable {P : Program} {U : Nat→List Dat→Dat}
def PX (τ : Tau) (tm : T Value) (hp : Hp) : At→Value→Prop
 | .tmp t,x=>x=(tm.get t).getD undef
 | .cell b j,x => ∃ i o cs n e z,τ b=some (some (i,o))∧hp.m.get i=some (.cells cs n e z)∧cs.get (o+j)=some x
 | .no,_=>True
theorem MtsOK.live {τ0 τ : Tau} {F : Nat→Option Blk} {s : SS} : ∀ {ps : List Pl} {vs : List SV} {es : List E} {bs : List Nat},MtsOK P U τ0 τ F s ps vs es bs → ∀ {k b : Nat},bs[k]? = some b → ∃ x,s.get b=some x
 | [],[],es,bs,h,k,b,hb=>by rw [h.2] at hb; simp at hb
 | [],_ :: _,es,bs,h,k,b,hb=>h.elim
 | p :: ps,[],es,bs,h,k,b,hb=>h.elim
 | p :: ps,v :: vs,es,bs,h,k,b,hb=>by
  obtain ⟨r,es',bs',rfl,rfl,hm,hms⟩:=h
  cases hr : r.2 with
  | none=>rw [hr] at hb; exact hms.live hb
  | some b0 =>
   rw [hr] at hb
   cases k with
   | succ k=>exact hms.live (k:=k) hb
   | zero =>
    have hna : p.g.na ≠ 0:=fun h0=>by rw [hm.2.2.1 h0] at hr; cases hr
    obtain ⟨so,_,b1,L,x',h1,_,hx,_⟩:=hm.2.2.2.2.1 hna
    rw [hr] at h1
    simp only [Option.some.injEq] at h1
    have e0 : b0=b:=by simpa [pushO] using hb
    exact ⟨x',by rw [← e0,h1]; exact hx⟩
variable (P U) in
structure HeadOK (τ1 : Tau) (F1 : Nat→Option Blk) (s1 : SS) (hp1 : Hp) (f0 : Fm) (tm1 : T Value) (ps : List Pl) (bs0 kill : List Nat) (τ : Tau) (F : Nat→Option Blk) (s : SS) (hp : Hp) (f : Fm) (tm : T Value) (vs : List SV) (es : List E) (bs : List Nat) (xs : List Value) : Prop where
 hs1 : SD P U τ1 F1 s1 hp1
 ht1 : TD P U τ1 F1 f0 tm1
 hs : SD P U τ F s hp
 ht : TD P U τ F f tm
 ex : Ext τ1 F1 s1 hp1 τ F s hp
 mt : MtsOK P U τ1 τ F s ps vs es bs
 vx : VDL P U τ F vs xs
 px : ∀ (i : Nat) p x,ps[i]? = some p→xs[i]? = some x→PX τ tm hp p.at_ x
 lx : xs.length=ps.length
 pa : ∀ p ∈ ps,∃ F0 x0,VD P U τ1 F0 p.a x0
 fr : ∀ t,(∀ p ∈ ps,p.at_ ≠ .tmp t)→lk f t=lk f0 t
 ky : ∀ l,s.h=l ++ s1.h → ∀ b ∈ l.map Prod.fst,b < s1.nx→b ∈ bs0 ∨ b ∈ kill ∨ b ∈ rbs ps
 rb : ∀ b ∈ rbs ps,b ∉ bs0∧b ∉ kill∧b < s1.nx
 c0 : ∀ b ∈ bs0,b ∉ kill ∧ ∃ l l' e z,s1.get b=some (.cells l e z)∧s.get b=some (.cells l' e z)∧l'.length=l.length
 bd : ∀ (k k' : Nat) b,bs[k]? = some b→bs[k']? = some b→k=k'
 bf : ∀ b ∈ bs,b ∉ bs0∧(s1.nx≤b ∨ b ∈ kill)
 lb : bs.length=nacc ps
variable {τ1 : Tau} {F1 : Nat→Option Blk} {s1 : SS} {hp1 : Hp} {f0 : Fm} {tm1 : T Value} {ps : List Pl} {bs0 kill : List Nat} {τ : Tau} {F : Nat→Option Blk} {s : SS} {hp : Hp} {f : Fm} {tm : T Value} {vs : List SV} {es : List E} {bs : List Nat} {xs : List Value}
def tau2 (τ1 τ : Tau) (n : Nat) (bs : List Nat) : Tau:=fun b=>if b < n then τ1 b else match bs[b - n]? with | some b' => τ b' | none=>none
theorem tau2_lo {n b : Nat} (h : b < n) : tau2 τ1 τ n bs b=τ1 b:=by unfold tau2; rw [if_pos h]
theorem tau2_hi {n k b : Nat} (h : bs[k]? = some b) : tau2 τ1 τ n bs (n+k)=τ b:=by
 unfold tau2; rw [if_neg (by omega),Nat.add_sub_cancel_left,h]
theorem HeadOK.head (h : HeadOK P U τ1 F1 s1 hp1 f0 tm1 ps bs0 kill τ F s hp f tm vs es bs xs) {ds : List E} (hd : sames U (sos ps) es ds) :
  SD P U (tau2 τ1 τ s1.nx bs) F (sT ps ds s1 bs0 kill) hp∧TD P U (tau2 τ1 τ s1.nx bs) F (fT ps ds s1 f0) tm∧Ext τ1 F1 s1 hp1 (tau2 τ1 τ s1.nx bs) F (sT ps ds s1 bs0 kill) hp:=by
 obtain ⟨l0,a1,a2,a3,a4,_⟩:=h.ex.hh
 have hky:=h.ky l0 a1
 have blt1 : ∀ b p,τ1 b=some p→b < s1.nx:=fun b p hb=>Nat.lt_of_not_le fun hle=>by rw [h.hs1.new b hle] at hb; cases hb
 have hk : ∀ b p,τ1 b=some p→tau2 τ1 τ s1.nx bs b=τ b:=fun b p hb=>by rw [tau2_lo (blt1 b p hb),h.ex.st b (blt1 b p hb)]
 have lo : ∀ b,b < s1.nx→tau2 τ1 τ s1.nx bs b=τ b:=fun b hb=>by rw [tau2_lo hb,h.ex.st b hb]
 have hvals:=h.mt.vals hd hk (fun k b hb=>tau2_hi (n:=s1.nx) hb) h.pa h.vx
 have hblks:=h.mt.blks (nb:=s1.nx) hd
 have htle : Tle τ1 (tau2 τ1 τ s1.nx bs):=fun b p hb=>by rw [tau2_lo (blt1 b p hb)]; exact hb
 have pvx : ∀ (i : Nat) q,(bldP ps ds s1.nx)[i]? = some q → ∃ x,PX τ tm hp q.1 x∧VD P U (tau2 τ1 τ s1.nx bs) F q.2 x:=by
  intro i q hq
  obtain ⟨p,h1,h2⟩:=bldP_at _ _ _ _ _ hq
  have hi : i < xs.length:=by rw [h.lx]; exact (List.getElem?_eq_some_iff.1 h1).1
  have hx:=List.getElem?_eq_getElem hi
  exact ⟨_,by rw [h2]; exact h.px i p _ h1 hx,hvals i q _ hq hx⟩
 have keep : ∀ b,b < s1.nx→b ∉ bs0→b ∉ kill→b ∉ rbs ps→s.get b=s1.get b:=fun b hb h1 h2 h2' => by
  unfold SS.get
  rw [a1,lk_skip _ _ fun hm => ?_]
  rcases hky b hm hb with h3 | h3 | h3
  ·exact h1 h3
  ·exact h2 h3
  ·exact h2' h3
 have hc0 : ∀ b ∈ bs0,∃ c e z,s1.get b=some (.cells c e z):=fun b hb=>by
  obtain ⟨_,l,_,e,z,h1,_⟩:=h.c0 b hb
  exact ⟨l,e,z,h1⟩
 have cls : ∀ b x, (sT ps ds s1 bs0 kill).get b = some x →
   (∃ k b0 x',b=s1.nx+k∧bs[k]? = some b0∧s.get b0=some x' ∧ (∀ (τ2 : Tau) o z,BD P U τ F o x' z→BD P U τ2 F o x z)∧(RowNil P U x' → RowNil P U x)) ∨
   (b < s1.nx∧b ∉ kill∧b ∈ bs0 ∧ ∃ c e z,s1.get b=some (.cells c e z)∧x = .cells (cellsT (bldP ps ds s1.nx) b 0 c.length) e z) ∨
   (b < s1.nx∧b ∉ kill∧b ∉ bs0∧b ∉ rbs ps∧s1.get b=some x) ∨
   (b < s1.nx∧b ∉ kill∧b ∈ rbs ps ∧ ∃ x',s.get b=some x' ∧ (∀ (τ2 : Tau) o z,BD P U τ F o x' z→BD P U τ2 F o x z)∧(RowNil P U x' → RowNil P U x)):=by
  intro b x hb
  have hb' : (match lk (tmpH ps ds s1 bs0 kill ++ s1.h) b with | some x=>x | none=>none)=some x:=hb
  rw [lk_append,tmpH,lk_append,lk_append] at hb'
  cases c1 : lk (bldB ps ds s1.nx) b with
  | some y =>
   rw [c1] at hb'
   simp only at hb'
   rcases hblks b y c1 with ⟨k,b0,X,x',h1,h2,h3,h4,h5,h6⟩ | ⟨X,x',h1,h3,h4,h5,h6⟩
   ·rw [h3] at hb'
    simp only [Option.some.injEq] at hb'
    subst hb'
    exact .inl ⟨k,b0,x',h1,h2,h4,h5,h6⟩
   ·rw [h3] at hb'
    simp only [Option.some.injEq] at hb'
    subst hb'
    obtain ⟨_,g2,g3⟩:=h.rb b h1
    exact .inr (.inr (.inr ⟨g3,g2,h1,x',h4,h5,h6⟩))
  | none =>
   rw [c1] at hb'
   simp only at hb'
   rcases ovB_lk (s1:=s1) (pv:=bldP ps ds s1.nx) (b:=b) hc0 _ rfl with ⟨h1,c,e,z,h2,h3⟩ | ⟨h1,h3⟩
   ·rw [h3] at hb'
    simp only [Option.some.injEq] at hb'
    exact .inr (.inl ⟨h.hs1.bound h2,(h.c0 b h1).1,h1,c,e,z,h2,hb'.symm⟩)
   ·rw [h3,kills_lk] at hb'
    by_cases hkl : b ∈ kill ++ [s1.nx]
    ·rw [if_pos hkl] at hb'; cases hb'
    ·rw [if_neg hkl] at hb'
     have hb2 : s1.get b=some x:=hb'
     exact .inr (.inr (.inl ⟨h.hs1.bound hb2,fun h=>hkl (List.mem_append_left _ h),h1,fun h=>lk_none c1 (bldB_has h),hb2⟩))
 have keyB : ∀ b ∈ bs0,b ∈ (tmpH ps ds s1 bs0 kill).map Prod.fst:=fun b hb=>by
  rcases ovB_lk (s1:=s1) (pv:=bldP ps ds s1.nx) (b:=b) hc0 _ rfl with ⟨_,c,e,z,_,h3⟩ | ⟨h1,_⟩
  ·unfold tmpH
   simp only [List.map_append,List.mem_append]
   exact .inr (.inl (List.mem_map.2 ⟨_,lk_mem h3,rfl⟩))
  ·exact absurd hb h1
 have keyK : ∀ b ∈ kill,b ∈ (tmpH ps ds s1 bs0 kill).map Prod.fst:=fun b hb=>by
  unfold tmpH
  simp only [List.map_append,List.mem_append]
  refine .inr (.inr (List.mem_map.2 ⟨(b,none),lk_mem ?_,rfl⟩))
  rw [kills_lk,if_pos (List.mem_append_left _ hb)]
 have mark : (s1.nx,none) ∈ tmpH ps ds s1 bs0 kill:=by
  unfold tmpH
  refine List.mem_append_right _ (List.mem_append_right _ (lk_mem ?_))
  rw [kills_lk,if_pos (List.mem_append_right _ (by simp))]
 have key2 : ∀ b ∈ l0.map Prod.fst,b < s1.nx→b ∈ (tmpH ps ds s1 bs0 kill).map Prod.fst:=fun b hb hlt=>by
  rcases hky b hb hlt with h1 | h1 | h1
  ·exact keyB b h1
  ·exact keyK b h1
  ·unfold tmpH
   simp only [List.map_append,List.mem_append]
   exact .inl (bldB_has h1)
 have ghi : ∀ k b0,bs[k]? = some b0→(if s1.nx+k < s1.nx then s1.nx+k else bs.getD (s1.nx+k - s1.nx) 0)=b0:=fun k b0 hb=>by
  rw [if_neg (by omega),Nat.add_sub_cancel_left,List.getD,hb]; rfl
 refine ⟨h.hs.rebase (fun b=>if b < s1.nx then b else bs.getD (b - s1.nx) 0) (fun b x hb => ?_) (fun b c x y hb hc hne => ?_) (fun b i o hb => ?_) (fun b hb => ?_) h.hs1.fc (fun r hr=>(h.hs1.fz r hr).mono htle h.ex.f),fun k a hka => ?_, ?_⟩
 ·rcases cls b x hb with ⟨k,b0,x',rfl,h2,h3,h4,h5⟩ | ⟨hlt,hnk,hb0,c,e,z,h2,rfl⟩ | ⟨hlt,hnk,hb0,hnr,h2⟩ | ⟨hlt,hnk,_,x',h3,h4,h5⟩
  ·simp only [ghi k b0 h2]
   exact ⟨x',h3,tau2_hi h2,fun i o y _ _ hbd=>h4 _ o y hbd,h5⟩
  ·simp only [if_pos hlt]
   obtain ⟨_,l,l',e',z',k1,k2,k3⟩:=h.c0 b hb0
   rw [h2] at k1
   simp only [Option.some.injEq,SBlk.cells.injEq] at k1
   obtain ⟨rfl,rfl,rfl⟩:=k1
   refine ⟨_,k2,lo b hlt,fun i o y hτ hy ⟨cs,n,e1,e2,e3⟩ => ?_,fun ⟨L,e,z,ph,h,_⟩=>by cases h⟩
   refine ⟨cs,n,e1,by rw [cellsT_length,← k3]; exact e2,fun j a ha => ?_⟩
   obtain ⟨hj,rfl⟩:=cellsT_get _ _ _ _ _ _ ha
   rw [Nat.zero_add]
   have hj' : j < l'.length:=by omega
   obtain ⟨x,hx,_⟩:=e3 j _ (List.getElem?_eq_getElem hj')
   rcases cellOf_spec (b:=b) (j:=j) (bldP ps ds s1.nx) with h1 | ⟨i',q,q1,q2,q3⟩
   ·exact ⟨x,hx,by rw [h1]; exact .any x⟩
   ·obtain ⟨x2,px,hv⟩:=pvx i' q q1
    rw [q2] at px
    obtain ⟨i2,o2,cs2,n2,e2',z2,p1,p2,p3⟩:=px
    rw [hτ] at p1
    simp only [Option.some.injEq,Prod.mk.injEq] at p1
    obtain ⟨rfl,rfl⟩:=p1
    rw [hy,e1] at p2
    simp only [Option.some.injEq,Blk.cells.injEq] at p2
    obtain ⟨rfl,_⟩:=p2
    exact ⟨x2,p3,by rw [q3]; exact hv⟩
  ·simp only [if_pos hlt]
   refine ⟨x,by rw [keep b hlt hb0 hnk hnr]; exact h2,lo b hlt,fun i o y hτ hy hbd => ?_,id⟩
   rcases h.hs1.live b x h2 with ⟨i1,o1,y1,g1,_,_,g4⟩ | ⟨g1,_⟩
   ·exact g4.re hbd hk
   ·rw [h.ex.st b hlt,g1] at hτ; cases hτ
  ·simp only [if_pos hlt]
   exact ⟨x',h3,lo b hlt,fun i o y _ _ hbd=>h4 _ o y hbd,h5⟩
 ·have hi : ∀ (b : Nat) (x : SBlk) (k b0 : Nat), (sT ps ds s1 bs0 kill).get b = some x → b < s1.nx → bs[k]? = some b0 → b ≠ b0 := by
   intro b x k b0 hb hlt hk0 e
   subst e
   obtain ⟨f1,f2⟩:=h.bf b (List.mem_of_getElem? hk0)
   rcases cls b x hb with ⟨k',b0,x',rfl,_⟩ | ⟨_,hnk,_⟩ | ⟨_,hnk,_⟩ | ⟨_,hnk,_⟩
   ·omega
   ·rcases f2 with h1 | h1
    ·omega
    ·exact hnk h1
   ·rcases f2 with h1 | h1
    ·omega
    ·exact hnk h1
   ·rcases f2 with h1 | h1
    ·omega
    ·exact hnk h1
  by_cases hb1 : b < s1.nx
  ·by_cases hc1 : c < s1.nx
   ·simp only [if_pos hb1,if_pos hc1]; exact hne
   ·rcases cls c y hc with ⟨k,b0,x',rfl,h2,_⟩ | ⟨hlt,_⟩ | ⟨hlt,_⟩ | ⟨hlt,_⟩
    ·simp only [ghi k b0 h2,if_pos hb1]
     exact hi b x k b0 hb hb1 h2
    ·exact absurd hlt hc1
    ·exact absurd hlt hc1
    ·exact absurd hlt hc1
  ·rcases cls b x hb with ⟨k,b0,x',rfl,h2,_⟩ | ⟨hlt,_⟩ | ⟨hlt,_⟩ | ⟨hlt,_⟩
   ·by_cases hc1 : c < s1.nx
    ·simp only [ghi k b0 h2,if_pos hc1]
     exact (hi c y k b0 hc hc1 h2).symm
    ·rcases cls c y hc with ⟨k',b0',x',rfl,h2',_⟩ | ⟨hlt,_⟩ | ⟨hlt,_⟩ | ⟨hlt,_⟩
     ·simp only [ghi k b0 h2,ghi k' b0' h2']
      intro e
      subst e
      exact hne (by rw [h.bd k k' b0 h2 h2'])
     ·exact absurd hlt hc1
     ·exact absurd hlt hc1
     ·exact absurd hlt hc1
   ·exact absurd hlt hb1
   ·exact absurd hlt hb1
   ·exact absurd hlt hb1
 ·by_cases hlt : b < s1.nx
  ·rw [lo b hlt] at hb; exact h.hs.lt b i o hb
  ·unfold tau2 at hb
   rw [if_neg hlt] at hb
   split at hb
   ·exact h.hs.lt _ i o hb
   ·cases hb
 ·have hle : s1.nx+nacc ps≤b:=hb
  unfold tau2
  rw [if_neg (by omega),List.getElem?_eq_none (by rw [h.lb]; omega)]
 ·unfold fT at hka
  rw [lk_append] at hka
  cases c1 : lk (tmpF (bldP ps ds s1.nx)) k with
  | some y =>
   rw [c1] at hka
   simp only [Option.some.injEq] at hka
   subst hka
   obtain ⟨i,q,h1,h2,h3⟩:=tmpF_lk _ c1
   obtain ⟨x,px,hv⟩:=pvx i q h1
   rw [h2] at px
   rw [← h3,← show x=(tm.get k).getD undef from px]
   exact hv
  | none =>
   rw [c1] at hka
   have hno:=tmpF_none _ c1
   have : lk f k=lk f0 k:=h.fr k fun p hp e=>by
    obtain ⟨q,q1,q2⟩:=bldP_mem ps ds s1.nx p hp
    exact hno q q1 (by rw [q2,e])
   exact (h.ht1 k a hka).re (h.ht k a (by rw [this]; exact hka)) hk
 ·refine ⟨htle, h.ex.f, h.ex.nx, Nat.le_add_right _ _, fun b hb => tau2_lo hb, fun b x hb hlt => ?_, ⟨tmpH ps ds s1 bs0 kill, rfl, fun i hi hno => ?_, fun b i o hb hτ => ?_, fun i y hi hy => ?_, fun hp => absurd rfl (hp (s1.nx, none) mark)⟩, ⟨[], rfl⟩⟩
  ·rcases cls b x hb with ⟨k,b0,x',rfl,_⟩ | ⟨_,_,_,c,e,z,h2,_⟩ | ⟨_,_,_,_,h2⟩ | ⟨_,_,_,x',h2,_⟩
   ·omega
   ·exact ⟨_,h2⟩
   ·exact ⟨_,h2⟩
   ·exact h.ex.low b x' h2 hlt
  ·exact a2 i hi fun b x o hb hτ hm=>hno b x o hb hτ (key2 b hm (h.hs1.bound hb))
  ·unfold tau2 at hτ
   rw [if_neg (by omega)] at hτ
   split at hτ
   ·rename_i b' hb'
    rcases (h.bf b' (List.mem_of_getElem? hb')).2 with h1 | h1
    ·rcases a3 b' i o h1 hτ with h2 | ⟨b0,x,o0,h2,h3,h4⟩
     ·exact .inl h2
     ·exact .inr ⟨b0,x,o0,h2,h3,key2 b0 h4 (h.hs1.bound h2)⟩
    ·by_cases hlt : b' < s1.nx
     ·have hg : ∃ x, s.get b' = some x := by
       exact h.mt.live hb'
      obtain ⟨x,hx⟩:=hg
      obtain ⟨y,hy⟩:=h.ex.low b' x hx hlt
      rw [h.ex.st b' hlt] at hτ
      exact .inr ⟨b',y,o,hy,hτ,keyK b' h1⟩
     ·rcases a3 b' i o (Nat.le_of_not_lt hlt) hτ with h2 | ⟨b0,x,o0,h2,h3,h4⟩
      ·exact .inl h2
      ·exact .inr ⟨b0,x,o0,h2,h3,key2 b0 h4 (h.hs1.bound h2)⟩
   ·cases hτ
  ·rcases a4 i y hi hy with h1 | ⟨b,o,h1,h2⟩
   ·exact .inl h1
   ·by_cases hlt : b < s1.nx
    ·exact .inr ⟨b,o,by rw [lo b hlt]; exact h1,key2 b h2 hlt⟩
    ·rcases a3 b i o (Nat.le_of_not_lt hlt) h1 with h3 | ⟨b0,x,o0,h3,h4,h5⟩
     ·omega
     ·have hb0:=h.hs1.bound h3
      exact .inr ⟨b0,o0,by rw [tau2_lo hb0]; exact h4,key2 b0 h5 hb0⟩
end
end Go.Sx
namespace Go.Sx
open Go.Xe
structure LAnn where
 name : String
 places : Code→Fm→SS→Option (List (At × G) × List Nat)
 inv : List Dat→Prop
 mu : List Dat→Nat
 gh : List (So × E):=[]
def datOf (U : Nat→List Dat→Dat) (k : So) (e : E) : Dat:=match k with
 | .i => .int (e.toI U)
 | .b => .bool (e.den U).toBool
 | .s => .str (e.den U).toStr
 | .l => .lst (e.toR U)
def datsOf (U : Nat→List Dat→Dat) : List So→List E→List Dat
 | k :: ks,e :: es=>datOf U k e :: datsOf U ks es
 | _,_=>[]
def allN {α : Type} : List So→Nat→(List E→Tr α)→Tr α
 | [],_,k=>k []
 | so :: l,n,k => .all so n fun e=>allN l (n+1) fun es=>k (e :: es)
def insts (U : Nat→List Dat→Dat) : List So→Nat→List E→List E
 | k :: ks,n,e :: es => .dat n (datOf U k e) :: insts U ks (n+1) es
 | _,_,_=>[]
def atv (f : Fm) (s : SS) : At→Option SV
 | .tmp t=>match lk f t with
  | some v=>some v
  | none=>some .any
 | .cell b j=>match s.get b with
  | some (.cells l _ _)=>l[j]?
  | _=>none
 | .no=>some .any
def collect (f : Fm) (s : SS) : List (At × G)→Option (List SV)
 | []=>some []
 | p :: l=>match atv f s p.1 with
  | some v=>match collect f s l with
   | some vs=>some (v :: vs)
   | none=>none
  | none=>none
def pls : List (At × G)→List SV→List Pl
 | p :: l,v :: vs=>⟨p.1,p.2,v⟩ :: pls l vs
 | _,_=>[]
def isTmp (t : Nat) : At→Bool
 | .tmp t' => Nat.beq t t'
 | .cell _ _=>false
 | .no=>false
def dist : List Nat→Bool
 | []=>true
 | b :: l => !memN b l && dist l
def sameCells (s1 s : SS) (b : Nat) : Bool:=match s1.get b with
 | some (.cells l e z)=>match s.get b with
  | some (.cells l' e' z')=>Nat.beq e e' && Nat.beq z z' && Nat.beq l.length l'.length
  | _=>false
 | _=>false
def fkeys (n : Nat) (f : Fm) : List Nat:=match n,f with
 | n+1,(k,_) :: f=>k :: fkeys n f
 | _,_=>[]
section
variable (P : Program) (U : Nat→List Dat→Dat)
def mdone {α : Type} (l1 l2 : Lab) (p q : Prop) : M α:=fun _ => .need l1 p (.need l2 q .done)
def sleaf (an : LAnn) (pg : List (At × G)) (ps : List Pl) (bs0 kill : List Nat) (s1 : SS) (f0 : Fm) (ds : List E) (r : Exit × Fm) : M (Exit × Fm) := match r.1 with
 | .normal =>
  bif (fkeys (r.2.length - (fT ps ds s1 f0).length) r.2).all (fun t => pg.any (fun p => isTmp t p.1)) then
   mread fun s=>match collect r.2 s pg with
   | none=>mfail "loop: a place is gone"
   | some vs0 => mbind (norm P U ps vs0) fun vs => mbind (mtP U ps vs) fun t => mread fun s2 =>
    bif (newKeys (s2.h.length - (sT ps ds s1 bs0 kill).h.length) s2.h).all (fun b => Nat.ble s1.nx b || memN b bs0 || memN b kill || memN b (rbs ps)) && bs0.all (sameCells s1 s2) && dist t.2 &&
      t.2.all (fun b => !memN b bs0 && (Nat.ble s1.nx b || memN b kill)) && Nat.beq t.2.length (nacc ps) then
     mdone (.pt (an.name ++ "Inv") [an.gh,(sos ps).zip t.1]) (.mu (an.name ++ "Mu") an.gh ((sos ps).zip t.1) ((sos ps).zip ds)) (an.inv (datsOf U (sos ps) t.1)) (an.mu (datsOf U (sos ps) t.1) < an.mu (datsOf U (sos ps) ds))
    else mfail "loop: the head"
  else mfail "loop: a temporary"
 | e=>mret (e,r.2)
def fvb (s : SS) (n : Nat) : SS := { s with fv:=s.fv+n }
def shead (an : LAnn) (pg : List (At × G)) (ps : List Pl) (bs0 : List Nat) (es : List E) (kill : List Nat) (body : Fm→M (Exit × Fm)) (f0 : Fm) : M (Exit × Fm):=fun s =>
 .need (.pt (an.name ++ "Inv") [an.gh,(sos ps).zip es]) (an.inv (datsOf U (sos ps) es)) (allN (sos ps) s.fv fun ds => .asm (.pt (an.name ++ "Inv") [an.gh,(sos ps).zip ds]) (an.inv (datsOf U (sos ps) ds))
  (mbind (body (fT ps ds (fvb s (sos ps).length) f0)) (sleaf P U an pg ps bs0 kill (fvb s (sos ps).length) f0 ds) (sT ps ds (fvb s (sos ps).length) bs0 kill)))
def sloop (an : LAnn) (b : Code) (body : Fm→M (Exit × Fm)) (f0 : Fm) : M (Exit × Fm):=mread fun s0=>match an.places b f0 s0 with
 | none=>mfail "loop: places"
 | some (pg,bs0)=>match collect f0 s0 pg with
  | none=>mfail "loop: no such place"
  | some vs0=>mbind (norm P U (pls pg vs0) vs0) fun vs=>mbind (mtP U (pls pg vs0) vs) fun t=>mread fun s1 =>
   bif bs0.all (sameCells s1 s1) && dist t.2 && t.2.all (fun b => !memN b bs0) && Nat.beq t.2.length (nacc (pls pg vs0)) && (rbs (pls pg vs0)).all (fun b => !memN b bs0 && !memN b t.2 && Nat.ble (b+1) s1.nx) then
    shead P U an pg (pls pg vs0) bs0 t.1 t.2 body f0
   else mfail "loop: the start"
end
section
variable {P : Program} {U : Nat→List Dat→Dat} {ov : FuncId→Option TypeId} {nt : Nat}
theorem allN_vc {α : Type} {Q : α→Prop} : ∀ (l : List So) (n : Nat) (k : List E→Tr α),(allN l n k).vc U Q → ∀ es : List E,es.length=l.length→(k (insts U l n es)).vc U Q
 | [],n,k,h,es,hl=>by
  cases es with
  | nil=>exact h
  | cons e es=>simp at hl
 | so :: l,n,k,h,es,hl=>by
  cases es with
  | nil=>simp at hl
  | cons e es =>
   have hl' : es.length=l.length:=by simpa using hl
   have key : (allN l (n+1) fun es=>k (.dat n (datOf U so e) :: es)).vc U Q:=by
    cases so
    ·exact h (e.toI U)
    ·exact h (e.den U).toBool
    ·exact h (e.den U).toStr
    ·exact h (e.toR U)
   exact allN_vc l (n+1) _ key es hl'
theorem sames_insts : ∀ (l : List So) (n : Nat) (es : List E),es.length=l.length→sames U l es (insts U l n es)
 | [],n,[],h=>trivial
 | [],n,e :: es,h=>by simp at h
 | k :: l,n,[],h=>by simp at h
 | k :: l,n,e :: es,h=>⟨by cases k <;> rfl,sames_insts l (n+1) es (by simpa using h)⟩
theorem dats_insts : ∀ (l : List So) (n : Nat) (es : List E),es.length=l.length→datsOf U l (insts U l n es)=datsOf U l es
 | [],n,[],h=>rfl
 | [],n,e :: es,h=>by simp at h
 | k :: l,n,[],h=>by simp at h
 | k :: l,n,e :: es,h=>by
  unfold insts datsOf
  rw [dats_insts l (n+1) es (by simpa using h)]
  cases k <;> rfl
theorem mts_len {τ0 τ : Tau} {F : Nat→Option Blk} {s : SS} : ∀ {ps : List Pl} {vs : List SV} {es : List E} {bs : List Nat},MtsOK P U τ0 τ F s ps vs es bs→es.length=(sos ps).length
 | [],[],es,bs,h=>by rw [h.1]; rfl
 | [],_ :: _,es,bs,h=>h.elim
 | p :: ps,[],es,bs,h=>h.elim
 | p :: ps,v :: vs,es,bs,h=>by
  obtain ⟨r,es',bs',rfl,rfl,hm,hms⟩:=h
  have ih:=mts_len hms
  unfold sos
  cases hso : p.g.so with
  | none=>rw [hm.2.1 hso]; exact ih
  | some so =>
   obtain ⟨e,he⟩:=hm.1 so hso
   rw [he]
   simp only [pushO,List.length_cons,ih]
theorem memN_mem {b : Nat} : ∀ {l : List Nat},memN b l=true→b ∈ l
 | [],h=>by cases h
 | k :: l,h=>by
  unfold memN at h
  by_cases e : b=k
  ·subst e; simp
  ·rw [beq_f e,cond_false] at h
   exact List.mem_cons_of_mem _ (memN_mem h)
theorem dist_get : ∀ {l : List Nat},dist l=true → ∀ (k k' : Nat) b,l[k]? = some b→l[k']? = some b→k=k'
 | [],_,k,k',b,h,_=>by simp at h
 | c :: l,hd,k,k',b,h,h' => by
  unfold dist at hd
  rw [Bool.and_eq_true,Bool.not_eq_true'] at hd
  have hn:=memN_not hd.1
  cases k with
  | zero =>
   cases k' with
   | zero=>rfl
   | succ k' =>
    simp only [List.getElem?_cons_zero,Option.some.injEq,List.getElem?_cons_succ] at h h'
    subst h
    exact absurd (List.mem_of_getElem? h') hn
  | succ k =>
   cases k' with
   | zero =>
    simp only [List.getElem?_cons_zero,Option.some.injEq,List.getElem?_cons_succ] at h h'
    subst h'
    exact absurd (List.mem_of_getElem? h) hn
   | succ k' =>
    simp only [List.getElem?_cons_succ] at h h'
    rw [dist_get hd.2 k k' b h h']
theorem sameCells_ok {s1 s : SS} {b : Nat} (h : sameCells s1 s b=true) : ∃ l l' e z,s1.get b=some (.cells l e z)∧s.get b=some (.cells l' e z)∧l'.length=l.length:=by
 unfold sameCells at h
 split at h
 ·rename_i l e z h1
  split at h
  ·rename_i l' e' z' h2
   simp only [Bool.and_eq_true,Nat.beq_eq] at h
   obtain ⟨⟨rfl,rfl⟩,h3⟩:=h
   exact ⟨l,l',e,z,h1,h2,h3.symm⟩
  ·cases h
 ·cases h
theorem bldB_keys {b : Nat} : ∀ (ps : List Pl) (ds : List E) (nb : Nat),b ∈ (bldB ps ds nb).map Prod.fst→nb≤b ∨ b ∈ rbs ps
 | [],ds,nb,h=>by simp [bldB] at h
 | p :: ps,ds,nb,h=>by
  have sub : ∀ b,b ∈ rbs ps→b ∈ rbs (p :: ps):=fun b hb=>by
   unfold rbs
   split
   ·exact List.mem_cons_of_mem _ hb
   ·exact hb
  have ih : b ∈ (bldB ps (pop p.g ds) (nb+p.g.na)).map Prod.fst→nb≤b ∨ b ∈ rbs (p :: ps):=fun h=>by
   rcases bldB_keys ps _ _ h with h | h
   ·left; omega
   ·exact .inr (sub _ h)
  unfold bldB at h
  split at h
  ·simp only [List.map_cons,List.mem_cons] at h
   rcases h with rfl | h
   ·exact .inl (Nat.le_refl _)
   ·exact ih h
  ·split at h
   ·rename_i q hq
    simp only [List.map_cons,List.mem_cons] at h
    rcases h with rfl | h
    ·obtain ⟨X,hX⟩:=G.fix_num hq (.int 0)
     right
     unfold rbs
     rw [hX]
     exact List.mem_cons_self ..
    ·exact ih h
   ·exact ih h
theorem ovB_keys {s1 : SS} {pv : List (At × SV)} {b : Nat} : ∀ (l : List Nat),b ∈ (ovB s1 pv l).map Prod.fst→b ∈ l
 | [],h=>by simp [ovB] at h
 | c :: l,h=>by
  unfold ovB at h
  split at h
  ·simp only [List.map_cons,List.mem_cons] at h
   rcases h with rfl | h
   ·simp
   ·exact List.mem_cons_of_mem _ (ovB_keys l h)
  ·exact List.mem_cons_of_mem _ (ovB_keys l h)
theorem kills_keys {b : Nat} : ∀ (l : List Nat),b ∈ (kills l).map Prod.fst→b ∈ l
 | [],h=>by simp [kills] at h
 | c :: l,h=>by
  simp only [kills,List.map_cons,List.mem_cons] at h
  rcases h with rfl | h
  ·simp
  ·exact List.mem_cons_of_mem _ (kills_keys l h)
theorem pls_get : ∀ {pg : List (At × G)} {vs : List SV} {i : Nat} {p : Pl},(pls pg vs)[i]? = some p → ∃ q v,pg[i]? = some q∧vs[i]? = some v∧p.at_=q.1∧p.a=v
 | [],vs,i,p,h=>by simp [pls] at h
 | q :: l,[],i,p,h=>by simp [pls] at h
 | q :: l,v :: vs,0,p,h=>by simp only [pls,List.getElem?_cons_zero,Option.some.injEq] at h; exact ⟨q,v,rfl,rfl,by rw [← h],by rw [← h]⟩
 | q :: l,v :: vs,i+1,p,h=>by
  simp only [pls,List.getElem?_cons_succ] at h
  obtain ⟨q',v',h1,h2,h3⟩:=pls_get (pg:=l) (vs:=vs) (i:=i) h
  exact ⟨q',v',h1,h2,h3⟩
theorem pls_at : ∀ {pg : List (At × G)} {vs : List SV},pg.length=vs.length→(pls pg vs).map Pl.at_=pg.map Prod.fst
 | [],[],_=>rfl
 | [],_ :: _,h=>by simp at h
 | _ :: _,[],h=>by simp at h
 | q :: l,v :: vs,h=>by
  simp only [pls,List.map_cons]
  rw [pls_at (by simpa using h)]
theorem atv_ok {τ : Tau} {F : Nat→Option Blk} {s : SS} {hp : Hp} {f : Fm} {tm : T Value} (ht : TD P U τ F f tm) (hs : SD P U τ F s hp) {p : At} {v : SV} (h : atv f s p=some v) : ∃ x,VD P U τ F v x∧PX τ tm hp p x:=by
 cases p with
 | tmp t =>
  simp only [atv] at h
  split at h
  ·rename_i v' hv
   simp only [Option.some.injEq] at h
   subst h
   exact ⟨_,ht t v' hv,rfl⟩
  ·simp only [Option.some.injEq] at h
   subst h
   exact ⟨_, .any _,rfl⟩
 | cell b j =>
  simp only [atv] at h
  split at h
  ·rename_i l e z hb
   rcases hs.live b _ hb with ⟨i,o,y,h1,h2,h3,cs,n,rfl,h4,h5⟩ | ⟨_,L,e',z',ph,h2,_⟩
   ·obtain ⟨x,hx,hv⟩:=h5 j v h
    exact ⟨x,hv,i,o,cs,n,e,z,h1,h2,hx⟩
   ·cases h2
  ·cases h
 | no =>
  simp only [atv,Option.some.injEq] at h
  subst h
  exact ⟨undef, .any _,trivial⟩
theorem collect_ok {τ : Tau} {F : Nat → Option Blk} {s : SS} {hp : Hp} {f : Fm} {tm : T Value} (ht : TD P U τ F f tm) (hs : SD P U τ F s hp) : ∀ {pg : List (At × G)} {vs : List SV}, collect f s pg = some vs →
  pg.length=vs.length ∧ ∃ xs,VDL P U τ F vs xs ∧ ∀ (i : Nat) q x,pg[i]? = some q→xs[i]? = some x→PX τ tm hp q.1 x
 | [],vs,h=>by
  simp only [collect,Option.some.injEq] at h
  subst h
  exact ⟨rfl,[], .nil,fun i q x h=>by simp at h⟩
 | p :: l,vs,h=>by
  unfold collect at h
  split at h
  ·rename_i v hv
   split at h
   ·rename_i vs' hvs
    simp only [Option.some.injEq] at h
    subst h
    obtain ⟨x,h1,h2⟩:=atv_ok ht hs hv
    obtain ⟨h3,xs,h4,h5⟩:=collect_ok ht hs hvs
    refine ⟨by simp [h3],x :: xs, .cons h1 h4,fun i q y hq hy => ?_⟩
    cases i with
    | zero=>simp only [List.getElem?_cons_zero,Option.some.injEq] at hq hy; subst hq; subst hy; exact h2
    | succ i=>simp only [List.getElem?_cons_succ] at hq hy; exact h5 i q y hq hy
   ·cases h
  ·cases h
theorem PX.mono {τ τ' : Tau} {tm : T Value} {hp : Hp} {p : At} {x : Value} (ht : Tle τ τ') (h : PX τ tm hp p x) : PX τ' tm hp p x:=by
 cases p with
 | tmp t=>exact h
 | cell b j=>obtain ⟨i,o,cs,n,e,z,h1,h2⟩:=h; exact ⟨i,o,cs,n,e,z,ht _ _ h1,h2⟩
 | no=>trivial
theorem fkeys_app (l f : Fm) : fkeys l.length (l ++ f)=l.map Prod.fst:=by
 induction l with
 | nil=>cases f <;> rfl
 | cons a l ih=>obtain ⟨k,x⟩:=a; simp only [List.length_cons,List.cons_append,fkeys,List.map_cons,ih]
variable {ar : Option Nat}
theorem XC.loop_next {b : Code} {tm tm1 tm' : T Value} {hp hp1 hp' : Hp} {e : Exit} (h1 : XC P ov ar nt b tm hp .normal tm1 hp1) (h2 : XC P ov ar nt (.loop b) tm1 hp1 e tm' hp') (hn1 : hp.nx ≤ hp1.nx) (hn2 : hp1.nx ≤ hp'.nx)
  (hk : ∀ r,r < hp1.nx→hp1.m.get r=some .dfr→hp'.m.get r=some .dfr) : XC P ov ar nt (.loop b) tm hp e tm' hp' :=
 h1.comp h2 hn1 hn2 hk fun n m ds ds1 ds2 q1 q2=>by
  simp only [xcode,q1]
  exact q2
theorem XC.loop_end {b : Code} {tm tm' : T Value} {hp hp' : Hp} {e : Exit} (h1 : XC P ov ar nt b tm hp e tm' hp') (hne : e ≠ .normal) : XC P ov ar nt (.loop b) tm hp e tm' hp' :=
 h1.map fun n m ds ds' hk=>by
  simp only [xcode,hk]
  split
  ·rename_i _ _ _ hj; simp only [Option.some.injEq,XR.mk.injEq] at hj; exact absurd hj.1 hne
  ·rfl
end
end Go.Sx
namespace Go.Sx
open Go.Xe
section
variable {P : Program} {U : Nat→List Dat→Dat} {ov : FuncId→Option TypeId} {nt : Nat} {ar : Option Nat}
variable {b : Code} {body : Fm→M (Exit × Fm)} {an : LAnn} {pg : List (At × G)} {ps : List Pl} {bs0 kill : List Nat} {s1 : SS} {f0 : Fm} {tm1 : T Value} {τ1 : Tau} {F1 : Nat→Option Blk} {hp1 : Hp} {n0 : Nat} {Q : (Exit × Fm) × SS→Prop}
variable (P U ov) in
def RunsTo (ar : Option Nat) (nt : Nat) (b : Code) (τ1 : Tau) (F1 : Nat→Option Blk) (s1 : SS) (hp1 : Hp) (f0 : Fm) (Q : (Exit × Fm) × SS→Prop) (tm : T Value) (hp : Hp) : Prop :=
 ∃ ex f' s',Q ((ex,f'),s') ∧ ∃ τ' F' hp',Ext τ1 F1 s1 hp1 τ' F' s' hp' ∧ SD P U τ' F' s' hp' ∧ ∃ tm',XC P ov ar nt (.loop b) tm hp ex tm' hp' ∧ TD P U τ' F' f' tm' ∧ (∃ pre,f' = pre ++ f0)∧hp.nx≤hp'.nx ∧ ∀ r,r < hp.nx→hp.m.get r=some .dfr→hp'.m.get r=some .dfr
theorem head_run (hbody : ∀ f', CodeOK P U ov ar nt (body f') b f') (hs1 : SD P U τ1 F1 s1 hp1) (ht1 : TD P U τ1 F1 f0 tm1) (hat : ps.map Pl.at_ = pg.map Prod.fst) (pa : ∀ p ∈ ps, ∃ F0 x0, VD P U τ1 F0 p.a x0)
  (hbk : ∀ c ∈ bs0,c ∉ kill) (hrb : ∀ c ∈ rbs ps,c ∉ bs0∧c ∉ kill∧c < s1.nx) (hB : ∀ es : List E,es.length=(sos ps).length→an.inv (datsOf U (sos ps) es) →
   (mbind (body (fT ps (insts U (sos ps) n0 es) s1 f0)) (sleaf P U an pg ps bs0 kill s1 f0 (insts U (sos ps) n0 es)) (sT ps (insts U (sos ps) n0 es) s1 bs0 kill)).vc U Q) :
  ∀ (N : Nat) (es : List E),an.mu (datsOf U (sos ps) es) < N→es.length=(sos ps).length→an.inv (datsOf U (sos ps) es) → ∀ (τ : Tau) (F : Nat→Option Blk) (hp : Hp) (tm : T Value),
   SD P U τ F (sT ps (insts U (sos ps) n0 es) s1 bs0 kill) hp→TD P U τ F (fT ps (insts U (sos ps) n0 es) s1 f0) tm→Ext τ1 F1 s1 hp1 τ F (sT ps (insts U (sos ps) n0 es) s1 bs0 kill) hp →
   RunsTo P U ov ar nt b τ1 F1 s1 hp1 f0 Q tm hp
 | 0,es,h,_,_=>absurd h (Nat.not_lt_zero _)
 | N + 1, es, hmu, hlen, hinv => by
  intro τ F hp tm hsd htd hex
  have hq:=hB es hlen hinv
  rw [vc_mbind] at hq
  generalize hds : insts U (sos ps) n0 es=ds at hq hsd htd hex
  obtain ⟨⟨e,f'⟩,s',hq,τ',F',hp',ex',hs',tm',hx,ht',pre,hpre⟩:=hbody (fT ps ds s1 f0) τ F _ hp tm htd hsd _ hq hsd
  have hpf : f' = pre ++ fT ps ds s1 f0:=hpre
  have hfin : e ≠ .normal→Q ((e,f'),s')→RunsTo P U ov ar nt b τ1 F1 s1 hp1 f0 Q tm hp:=fun hne hQ =>
   ⟨e,f',s',hQ,τ',F',hp',hex.trans ex',hs',tm',hx.loop_end hne,ht',⟨pre ++ tmpF (bldP ps ds s1.nx),by rw [hpf,fT,List.append_assoc]⟩,ex'.nx,fun r hr hg=>ex'.dfr hsd hr hg (.inl rfl)⟩
  cases e with
  | exit j=>exact hfin (by simp) hq
  | ret=>exact hfin (by simp) hq
  | normal =>
   simp only [sleaf] at hq
   cases c1 : (fkeys (f'.length - (fT ps ds s1 f0).length) f').all (fun t=>pg.any (fun p=>isTmp t p.1)) with
   | false=>rw [c1] at hq; exact hq.elim
   | true =>
    rw [c1,cond_true] at hq
    simp only [mread] at hq
    cases c2 : collect f' s' pg with
    | none=>rw [c2] at hq; exact hq.elim
    | some vs0 =>
     rw [c2] at hq
     simp only at hq
     obtain ⟨hl1,xs,hvx,hpx⟩:=collect_ok ht' hs' c2
     rw [vc_mbind] at hq
     obtain ⟨vs,s2,hq,τ2,F2,hp2,ex2,hs2,rfl,hvx2⟩:=norm_ok ps vs0 xs τ' F' s' hp' hvx hs' _ hq hs'
     rw [vc_mbind] at hq
     obtain ⟨⟨es',bs⟩,s3,hq,o3,hf3,hmt⟩:=mtP_ok (P:=P) (τ:=τ2) (F:=F2) τ1 ps vs s2 _ hq hs2.fc
     have hs3:=hs2.only o3 hf3
     have hex3 : Ext τ1 F1 s1 hp1 τ2 F2 s3 hp2:=((hex.trans ex').trans ex2).trans (Ext.only hs2 o3)
     simp only [mread] at hq
     cases c3 : (newKeys (s3.h.length - (sT ps ds s1 bs0 kill).h.length) s3.h).all (fun b=>Nat.ble s1.nx b || memN b bs0 || memN b kill || memN b (rbs ps)) && bs0.all (sameCells s1 s3) && dist bs &&
      bs.all (fun b => !memN b bs0 && (Nat.ble s1.nx b || memN b kill)) && Nat.beq bs.length (nacc ps) with
     | false=>rw [c3] at hq; exact hq.elim
     | true =>
      rw [c3,cond_true] at hq
      simp only [Bool.and_eq_true] at c3
      obtain ⟨⟨⟨⟨k1,k2⟩,k3⟩,k4⟩,k5⟩:=c3
      rw [List.all_eq_true] at k1 k2 k4
      have hinv' : an.inv (datsOf U (sos ps) es'):=hq.1
      have hmu' : an.mu (datsOf U (sos ps) es') < an.mu (datsOf U (sos ps) ds):=(hq.2 hq.1).1
      have hmt3:=hmt s3 o3.h
      have hlen' := mts_len hmt3
      have head : HeadOK P U τ1 F1 s1 hp1 f0 tm1 ps bs0 kill τ2 F2 s3 hp2 f' tm' vs es' bs xs := by
       refine ⟨hs1,ht1,hs3,ht'.mono ex2.t ex2.f,hex3,hmt3,hvx2,fun i p x hp hxi => ?_, ?_,pa,fun t ht => ?_,fun l hl c hc hlt => ?_,hrb,fun c hc=>⟨hbk c hc,sameCells_ok (k2 c hc)⟩,dist_get k3,fun c hc => ?_,Nat.eq_of_beq_eq_true k5⟩
       ·have h1:=congrArg (fun l=>l[i]?) hat
        simp only [List.getElem?_map,hp,Option.map_some] at h1
        cases hpg : pg[i]? with
        | none=>rw [hpg] at h1; cases h1
        | some q =>
         rw [hpg] at h1
         simp only [Option.map_some,Option.some.injEq] at h1
         rw [h1]
         exact (hpx i q x hpg hxi).mono ex2.t
       ·have h1:=congrArg List.length hat
        simp only [List.length_map] at h1
        rw [h1,hl1]; exact hvx.1.symm
       ·have hnp : t ∉ pre.map Prod.fst := by
         intro hm
         rw [List.all_eq_true,hpf,List.length_append,Nat.add_sub_cancel,fkeys_app] at c1
         have:=c1 t hm
         rw [List.any_eq_true] at this
         obtain ⟨q,hq1,hq2⟩:=this
         have hmem : q.1 ∈ ps.map Pl.at_:=by rw [hat]; exact List.mem_map.2 ⟨q,hq1,rfl⟩
         obtain ⟨p,hp1,hp2⟩:=List.mem_map.1 hmem
         refine ht p hp1 ?_
         rw [hp2]
         cases hqq : q.1 with
         | tmp t' => rw [hqq] at hq2; simp only [isTmp] at hq2; rw [Nat.eq_of_beq_eq_true hq2]
         | cell b j=>rw [hqq] at hq2; cases hq2
         | no=>rw [hqq] at hq2; cases hq2
        rw [hpf,lk_skip _ _ hnp,fT,lk_append]
        cases hlk : lk (tmpF (bldP ps ds s1.nx)) t with
        | none=>rfl
        | some a =>
         obtain ⟨i,q,q1,q2,_⟩:=tmpF_lk _ hlk
         obtain ⟨p,p1,p2⟩:=bldP_at _ _ _ _ _ q1
         exact absurd (by rw [← p2,q2]) (ht p (List.mem_of_getElem? p1))
       ·obtain ⟨l2,e2,_⟩:=(ex'.trans (ex2.trans (Ext.only hs2 o3))).hh
        have hsT : (sT ps ds s1 bs0 kill).h=tmpH ps ds s1 bs0 kill ++ s1.h:=rfl
        have hll : l=l2 ++ tmpH ps ds s1 bs0 kill:=by
         rw [e2,hsT,← List.append_assoc] at hl
         exact (List.append_cancel_right hl).symm
        rw [hll,List.map_append,List.mem_append] at hc
        rcases hc with hc | hc
        ·rw [e2,List.length_append,Nat.add_sub_cancel,newKeys_app] at k1
         have:=k1 c hc
         simp only [Bool.or_eq_true,Nat.ble_eq] at this
         rcases this with ((h1 | h1) | h1) | h1
         ·omega
         ·exact .inl (memN_mem h1)
         ·exact .inr (.inl (memN_mem h1))
         ·exact .inr (.inr (memN_mem h1))
        ·unfold tmpH at hc
         simp only [List.map_append,List.mem_append] at hc
         rcases hc with h1 | h1 | h1
         ·rcases bldB_keys _ _ _ h1 with h2 | h2
          ·omega
          ·exact .inr (.inr h2)
         ·exact .inl (ovB_keys _ h1)
         ·have:=kills_keys _ h1
          rcases List.mem_append.1 this with h2 | h2
          ·exact .inr (.inl h2)
          ·simp at h2; omega
       ·have:=k4 c hc
        simp only [Bool.and_eq_true,Bool.not_eq_true',Bool.or_eq_true,Nat.ble_eq] at this
        refine ⟨memN_not this.1, ?_⟩
        rcases this.2 with h1 | h1
        ·exact .inl h1
        ·exact .inr (memN_mem h1)
      obtain ⟨g1,g2,g3⟩:=head.head (sames_insts (sos ps) n0 es' hlen')
      have hmu2 : an.mu (datsOf U (sos ps) es') < N:=by
       have : datsOf U (sos ps) ds=datsOf U (sos ps) es:=by rw [← hds]; exact dats_insts _ _ _ hlen
       rw [this] at hmu'
       omega
      obtain ⟨ex4,f4,s4,w1,τ4,F4,hp4,w2,w3,tm4,w4,w5,w6,w7,w8⟩:=head_run hbody hs1 ht1 hat pa hbk hrb hB N es' hmu2 hlen' hinv' _ _ _ _ g1 g2 g3
      exact ⟨ex4,f4,s4,w1,τ4,F4,hp4,w2,w3,tm4,hx.loop_next w4 ex'.nx w7 w8,w5,w6,Nat.le_trans ex'.nx w7,fun r hr hg=>w8 r (Nat.lt_of_lt_of_le hr ex'.nx) (ex'.dfr hsd hr hg (.inl rfl))⟩
  | _=>exact hfin (by simp) hq
end
end Go.Sx
namespace Go.Sx
open Go.Xe
def annOf (l : List (Nat × (Fm→SS→LAnn))) (id : Nat) : Option (Fm→SS→LAnn):=lk l id
def slp (P : Program) (U : Nat→List Dat→Dat) (l : List (Nat × (Fm→SS→LAnn))) : SLoop:=fun id b body f=>match annOf l id with
 | some an=>some (mread fun s=>sloop P U (an f s) b body f)
 | none=>none
def ghosts (U : Nat→List Dat→Dat) : List (So × E)→List Dat
 | []=>[]
 | (k,e) :: l=>datOf U k e :: ghosts U l
def gAnn (U : Nat→List Dat→Dat) (name : String) (places : Code→Fm→SS→Option (List (At × G) × List Nat)) (gh : Fm→SS→List (So × E)) (inv : List Dat→List Dat→Prop) (mu : List Dat→List Dat→Nat) : Fm→SS→LAnn :=
 fun f s=>⟨name,places,inv (ghosts U (gh f s)),mu (ghosts U (gh f s)),gh f s⟩
section
variable {P : Program} {U : Nat→List Dat→Dat} {ov : FuncId→Option TypeId} {nt : Nat} {ar : Option Nat}
theorem SD.fvb {τ : Tau} {F : Nat→Option Blk} {s : SS} {hp : Hp} (h : SD P U τ F s hp) (n : Nat) : SD P U τ F (fvb s n) hp:=⟨h.live,h.inj,h.frz,h.lt,h.flt,h.new,h.fc,h.fz⟩
theorem Ext.fvb {τ τ' : Tau} {F F' : Nat→Option Blk} {s s' : SS} {hp hp' : Hp} (h : Ext τ F s hp τ' F' s' hp') (n : Nat) : Ext τ F s hp τ' F' (fvb s' n) hp' := ⟨h.t,h.f,h.nx,h.snx,h.st,h.low,h.hh,h.hf⟩
theorem sloop_ok {b : Code} {body : Fm → M (Exit × Fm)} (hbody : ∀ f', CodeOK P U ov ar nt (body f') b f') (an : LAnn) (f0 : Fm) : CodeOK P U ov ar nt (sloop P U an b body f0) (.loop b) f0 := by
 intro τ F s hp tm ht hs Q hq _
 unfold sloop at hq
 simp only [mread] at hq
 cases c1 : an.places b f0 s with
 | none=>rw [c1] at hq; exact hq.elim
 | some pp =>
  obtain ⟨pg,bs0⟩:=pp
  rw [c1] at hq
  simp only at hq
  cases c2 : collect f0 s pg with
  | none=>rw [c2] at hq; exact hq.elim
  | some vs0 =>
   rw [c2] at hq
   simp only at hq
   obtain ⟨hl1,xs,hvx,hpx⟩:=collect_ok ht hs c2
   generalize hps : pls pg vs0=ps at hq
   have hat : ps.map Pl.at_=pg.map Prod.fst:=by rw [← hps]; exact pls_at hl1
   rw [vc_mbind] at hq
   obtain ⟨vs,s2,hq,τ2,F2,hp2,ex2,hs2,rfl,hvx2⟩:=norm_ok ps vs0 xs τ F s hp hvx hs _ hq hs
   rw [vc_mbind] at hq
   obtain ⟨⟨es,bs⟩,s3,hq,o3,hf3,hmt⟩:=mtP_ok (P:=P) (τ:=τ2) (F:=F2) τ2 ps vs s2 _ hq hs2.fc
   have hs3:=hs2.only o3 hf3
   have hex3:=ex2.trans (Ext.only hs2 o3)
   simp only [mread] at hq
   cases c3 : bs0.all (sameCells s3 s3) && dist bs && bs.all (fun b => !memN b bs0) && Nat.beq bs.length (nacc ps) && (rbs ps).all (fun b => !memN b bs0 && !memN b bs && Nat.ble (b+1) s3.nx) with
   | false=>rw [c3] at hq; exact hq.elim
   | true =>
    rw [c3,cond_true] at hq
    simp only [Bool.and_eq_true] at c3
    obtain ⟨⟨⟨⟨k2,k3⟩,k4⟩,k5⟩,k6⟩:=c3
    rw [List.all_eq_true] at k2 k4 k6
    have hrb : ∀ c ∈ rbs ps,c ∉ bs0∧c ∉ bs∧c < s3.nx:=fun c hc=>by
     have:=k6 c hc
     simp only [Bool.and_eq_true,Bool.not_eq_true',Nat.ble_eq] at this
     exact ⟨memN_not this.1.1,memN_not this.1.2,this.2⟩
    have hs4:=hs3.fvb (sos ps).length
    have hex4:=hex3.fvb (sos ps).length
    have ht4:=ht.mono ex2.t ex2.f
    have hmt3:=hmt (fvb s3 (sos ps).length) o3.h
    have hlen:=mts_len hmt3
    have hinv : an.inv (datsOf U (sos ps) es):=hq.1
    have hB:=allN_vc (U:=U) _ _ _ (hq.2 hq.1)
    have hbk : ∀ c ∈ bs0,c ∉ bs:=fun c hc hb=>by
     have:=k4 c hb
     rw [Bool.not_eq_true'] at this
     exact memN_not this hc
    have pa : ∀ p ∈ ps,∃ F0 x0,VD P U τ2 F0 p.a x0:=by
     intro p hp
     obtain ⟨i,hi⟩:=List.mem_iff_getElem?.1 hp
     rw [← hps] at hi
     obtain ⟨q,v,g1,g2,g3,g4⟩:=pls_get hi
     obtain ⟨x,hx1,hx2⟩:=hvx.get g2
     exact ⟨F2,x,by rw [g4]; exact hx2.mono ex2.t ex2.f⟩
    have head : HeadOK P U τ2 F2 (fvb s3 (sos ps).length) hp2 f0 tm ps bs0 bs τ2 F2 (fvb s3 (sos ps).length) hp2 f0 tm vs es bs xs := by
     refine ⟨hs4,ht4,hs4,ht4,Ext.refl hs4,hmt3,hvx2,fun i p x hp hxi => ?_, ?_,pa,fun t _=>rfl,fun l hl c hc hlt => ?_,hrb,fun c hc=>⟨hbk c hc,sameCells_ok (k2 c hc)⟩,dist_get k3,fun c hc=>⟨fun h=>hbk c h hc, .inr hc⟩,Nat.eq_of_beq_eq_true k5⟩
     ·have h1:=congrArg (fun l=>l[i]?) hat
      simp only [List.getElem?_map,hp,Option.map_some] at h1
      cases hpg : pg[i]? with
      | none=>rw [hpg] at h1; cases h1
      | some q =>
       rw [hpg] at h1
       simp only [Option.map_some,Option.some.injEq] at h1
       rw [h1]
       exact (hpx i q x hpg hxi).mono ex2.t
     ·have h1:=congrArg List.length hat
      simp only [List.length_map] at h1
      rw [h1,hl1]; exact hvx.1.symm
     ·have : l = [] := by
       have:=congrArg List.length hl
       rw [List.length_append] at this
       cases l with
       | nil=>rfl
       | cons a l=>simp at this
      subst this
      simp at hc
    obtain ⟨g1,g2,g3⟩:=head.head (sames_insts (sos ps) s3.fv es hlen)
    obtain ⟨ex4,f4,s4,w1,τ4,F4,hp4,w2,w3,tm4,w4,w5,⟨pre,w6⟩,_⟩:=head_run (U:=U) (an:=an) (pg:=pg) (kill:=bs) (n0:=s3.fv) hbody hs4 ht4 hat pa hbk hrb (fun es' hl' hi' => hB es' hl' (by rw [dats_insts _ _ _ hl']; exact hi'))
     (an.mu (datsOf U (sos ps) es)+1) es (Nat.lt_succ_self _) hlen hinv _ _ _ _ g1 g2 g3
    exact ⟨(ex4,f4),s4,w1,τ4,F4,hp4,hex4.trans w2,w3,tm4,w4,w5,pre,w6⟩
theorem slp_ok (l : List (Nat × (Fm→SS→LAnn))) : LoopRight P U ov ar nt (slp P U l):=by
 intro id b body f r hbody hr
 unfold slp at hr
 split at hr
 ·rename_i an _
  simp only [Option.some.injEq] at hr
  subst hr
  exact fun τ F s hp tm ht hs=>sloop_ok hbody (an f s) f τ F s hp tm ht hs
 ·cases hr
end
def dstsO : List Oper→List Nat
 | []=>[]
 | o :: os=>match o.dst with
  | some d=>d :: dstsO os
  | none=>dstsO os
def dstsC : Code→List Nat
 | .region _ ops _=>dstsO ops.toList
 | .seq x y=>dstsC x ++ dstsC y
 | .cond _ x y=>dstsC x ++ dstsC y
 | .block _ b=>dstsC b
 | .loop b=>dstsC b
 | .scope b=>dstsC b
 | _=>[]
def anys (own : List (Nat × G)) : List Nat→List Nat→List (At × G)
 | _,[]=>[]
 | seen,t :: l=>bif memN t seen then anys own seen l else match lk own t with
  | some _=>anys own (t :: seen) l
  | none=>(.tmp t, .any) :: anys own (t :: seen) l
def ownT : List (Nat × G)→List (At × G)
 | []=>[]
 | (t,g) :: l=>(.tmp t,g) :: ownT l
def cellsG (b : Nat) : Nat→List G→List (At × G)
 | _,[]=>[]
 | j,g :: l=>(.cell b j,g) :: cellsG b (j+1) l
def mkPl (own : List (Nat × G)) (blks : Fm→SS→Option (List (Nat × List G))) : Code→Fm→SS→Option (List (At × G) × List Nat):=fun c f s=>match blks f s with
 | some bl=>some (ownT own ++ (bl.map fun p=>cellsG p.1 0 p.2).flatten ++ anys own [] (dstsC c),bl.map Prod.fst)
 | none=>none
def slT (f : Fm) (t : Nat) : Option Nat:=match lk f t with
 | some (.sl b _ _ _ _)=>some b
 | _=>none
def rowsT (t : Nat) (f : Fm) (s : SS) : List (At × G):=match slT f t with
 | some b=>match s.get b with
  | some (.rows _ e z ph)=>[(.no, .rwk b e z ph)]
  | _=>[]
 | none=>[]
def mkPr (rs : Fm→SS→List (At × G)) (own : List (Nat × G)) (blks : Fm→SS→Option (List (Nat × List G))) : Code→Fm→SS→Option (List (At × G) × List Nat):=fun c f s=>match mkPl own blks c f s with
 | some r=>some (rs f s ++ r.1,r.2)
 | none=>none
end Go.Sx
namespace Go.Sx
open Go.Xe
def sx (P : Program) (U : Nat→List Dat→Dat) (anns : FuncId→List (Nat × (Fm→SS→LAnn))) (con : FuncId→Option (List SV→M SV)) (n : Nat) : SCall :=
 scaller P U (fun call nt=>sdraw P U call nt) (fun _ g _=>slp P U (anns g)) con n
def sxF (P : Program) (U : Nat→List Dat→Dat) (anns : FuncId→List (Nat × (Fm→SS→LAnn))) (con : FuncId→Option (List SV→M SV)) (n : Nat) (g : FuncId) : List SV→M SV :=
 sfun P U (sx P U anns con n) (fun nt=>sdraw P U (sx P U anns con n) nt) (fun g _=>slp P U (anns g)) n g
section
variable {P : Program} {U : Nat→List Dat→Dat} {ov : FuncId→Option TypeId}
theorem sx_ok (anns : FuncId→List (Nat × (Fm→SS→LAnn))) {con : FuncId→Option (List SV→M SV)} (hcon : ∀ g k,con g=some k→RunRight P U ov k g) (hT : ∀ g,isT (ov g)=true→con g ≠ none) (n : Nat) : CallRight P U ov (sx P U anns con n) :=
 scaller_ok (fun _ hcall _=>sdraw_ok hcall) (fun _ _ _ g _=>slp_ok (anns g)) hcon hT n
theorem sxF_ok (anns : FuncId→List (Nat × (Fm→SS→LAnn))) {con : FuncId→Option (List SV→M SV)} (hcon : ∀ g k,con g=some k→RunRight P U ov k g) (hT : ∀ g,isT (ov g)=true→con g ≠ none) (n : Nat) (g : FuncId) (hg : isT (ov g)=false) : RunRight P U ov (sxF P U anns con n g) g :=
 sfun_ok (sx_ok anns hcon hT n) (fun _=>sdraw_ok (sx_ok anns hcon hT n)) (fun _ g _=>slp_ok (anns g)) n g hg
end
end Go.Sx
noncomputable section PartSm31
namespace Go.Sx
open Go.Xe Go.RowKit
def absV (w : World) (v : Value) : Option Value:=match v with
 | .bool _ | .int _ _ | .string _=>some v
 | .slice none _ _=>some v
 | .slice (some ⟨i,_,none⟩) (l+1) c=>match w.heap[i]? with
  | some (.cells _ _ _)=>if l+1≤c∧c < unk then some v else none
  | _=>none
 | .slice (some _) 0 _=>some (.slice (some ⟨0,0,some 0⟩) 0 unk)
 | _=>none
def roT (w : World) : Nat→List Value→T Value
 | _,[] => .e
 | k,v :: vs=>(roT w (k+1) vs).set k (absV w v)
theorem roT_get (w : World) : ∀ (vs : List Value) (k j : Nat),(roT w k vs).get j=if k≤j then (vs[j - k]?).bind (absV w) else none
 | [],k,j=>by simp [roT,T.get_e]
 | v :: vs,k,j=>by
  have ih:=roT_get w vs (k+1) j
  unfold roT
  rw [T.get_set]
  by_cases hjk : j=k
  ·subst hjk; rw [if_pos rfl,if_pos (Nat.le_refl _)]; simp
  ·rw [if_neg hjk,ih]
   by_cases hle : k+1≤j
   ·rw [if_pos hle,if_pos (by omega),show j - k=(j - (k+1))+1 by omega,List.getElem?_cons_succ]
   ·rw [if_neg hle,if_neg (by omega)]
def roB (w : World) : Obj→Option Blk
 | .cells C e _=>some (.ro (roT w 0 C.toList) C.size e 0)
 | _=>none
def roM (w : World) : Nat→List Obj→T Blk
 | _,[] => .e
 | k,o :: os=>(roM w (k+1) os).set k (roB w o)
theorem roM_get (w : World) : ∀ (os : List Obj) (k j : Nat),(roM w k os).get j=if k≤j then (os[j - k]?).bind (roB w) else none
 | [],k,j=>by simp [roM,T.get_e]
 | o :: os,k,j=>by
  have ih:=roM_get w os (k+1) j
  unfold roM
  rw [T.get_set]
  by_cases hjk : j=k
  ·subst hjk; rw [if_pos rfl,if_pos (Nat.le_refl _)]; simp
  ·rw [if_neg hjk,ih]
   by_cases hle : k+1≤j
   ·rw [if_pos hle,if_pos (by omega),show j - k=(j - (k+1))+1 by omega,List.getElem?_cons_succ]
   ·rw [if_neg hle,if_neg (by omega)]
def roHp (w : World) : Hp:=⟨roM w 0 w.heap.toList,w.heap.size⟩
def roSg (w : World) : Sg:=fun i=>match w.heap[i]? with
 | some (.cells C _ _)=>some ⟨i,0,C.size,0⟩
 | _=>none
def BS.ro (w : World) : BS:=⟨(· < w.heap.size),(· < w.heap.size),fun _ h=>h⟩
theorem roHp_get (w : World) (i : Nat) : (roHp w).m.get i=(w.heap[i]?).bind (roB w):=by
 show (roM w 0 w.heap.toList).get i=_
 rw [roM_get,if_pos (Nat.zero_le _)]; simp
theorem absV_VR {w : World} {v a : Value} (h : absV w v=some a) : VR (roSg w) a v:=by
 unfold absV at h
 split at h
 ·cases h; exact .bool _
 ·cases h; exact .int _ _
 ·cases h; exact .string _
 ·cases h; exact .nils _ _
 ·rename_i i o l c
  split at h
  ·rename_i C e f hh
   split at h
   ·rename_i hc
    cases h
    have hs : roSg w i=some ⟨i,0,C.size,0⟩:=by unfold roSg; rw [hh]
    have:=VR.slice (σ:=roSg w) i o _ (l+1) c c hs (.inl ⟨rfl,hc.2⟩) hc.1
    simpa using this
   ·cases h
  ·cases h
 ·cases h; exact .vague _ _
 ·cases h
theorem HR.ro (w : World) : HR (BS.ro w) w (roSg w) (roHp w) w := by
 refine ⟨rfl,rfl,rfl,Nat.le_refl _,fun _ h=>h,fun _ _=>rfl,fun i hi => ?_,fun i b hg => ?_,fun i j b b' p q hi hj hne hp hq => ?_⟩
 ·have hi : w.heap.size≤i:=hi
  unfold roSg
  rw [Array.getElem?_eq_none hi]
 ·rw [roHp_get,Option.bind_eq_some_iff] at hg
  obtain ⟨o,ho,hb⟩:=hg
  cases o with
  | cells C e f =>
   simp only [roB,Option.some.injEq] at hb
   subst hb
   refine ⟨⟨i,0,C.size,0⟩,_,by unfold roSg; rw [ho],(Array.getElem?_eq_some_iff.1 ho).1,ho,C,f,rfl,rfl,rfl,by simp,fun j v hj hv => ?_⟩
   rw [roT_get,if_pos (Nat.zero_le _),Nat.sub_zero,Option.bind_eq_some_iff] at hv
   obtain ⟨u,h1,h2⟩:=hv
   exact ⟨u,by simpa using h1,absV_VR h2⟩
  | _=>cases hb
 ·have key : ∀ {i : Nat} {p : Xe.Pl}, roSg w i = some p → p.blk = i := by
   intro i p h
   unfold roSg at h
   split at h
   ·simp only [Option.some.injEq] at h; rw [← h]
   ·cases h
  rw [key hp,key hq]
  exact fun _=>hne
def roF (w : World) : Nat→Option Blk:=fun i=>(roHp w).m.get i
theorem roF_ok (w : World) : ∀ i b,roF w i=some b→(roHp w).m.get i=some b∧i < (roHp w).nx:=by
 intro i b h
 refine ⟨h, ?_⟩
 rw [roF,roHp_get,Option.bind_eq_some_iff] at h
 obtain ⟨o,ho,_⟩:=h
 exact (Array.getElem?_eq_some_iff.1 ho).1
def isAgg (P : Program) (t : TypeId) : Bool:=match P.underlying t with
 | some (.struct _)=>true
 | some (.array _ _)=>true
 | _=>false
section
variable {H : Type} {enc : TypeId × Value→H} {P : Program} {w : World} {spare : Nat→Bool} {held : Bool}
end
end Go.Sx
end PartSm31
noncomputable section PartSm32
namespace Go.Sx
open Go.Xe Go.RowKit
inductive DW (P : Program) : Kd → Dat → Prop
 | int (k : IntKind) (n : Int) (h : k.min≤n∧n≤k.max) : DW P (.int k) (.int n)
 | bool (b : Bool) : DW P .bool (.bool b)
 | str (s : List UInt8) (h : s.length≤maxLen) : DW P .str (.str s)
 | sl (e : TypeId) (rows : Rows) (hl : rows.length ≤ maxLen) (hz : ∀ r ∈ rows, r.length = (kf P e).length)
   (h : ∀ (r k : Nat) (row : List Dat) (kd : Kd) (d : Dat),rows[r]? = some row→row[k]? = some d→(kf P e)[k]? = some kd→DW P kd d) : DW P (.sl e) (.lst rows)
section
variable {H : Type} {enc : TypeId × Value→H} {P : Program} {w : World} {spare : Nat→Bool} {held : Bool}
end
section
variable {P : Program} {U : Nat→List Dat→Dat} {ov : FuncId→Option TypeId}
theorem HR.roBelow {σ : Sg} {hp : Hp} {w w' : World} (h : HR (BS.ro w) w σ hp w') : Below w.heap.size w w' :=
 ⟨h.os,h.tape,h.output,h.size,h.kept⟩
end
end Go.Sx
end PartSm32
noncomputable section PartSm33
namespace Go.Sx
open Go.Xe
inductive Lf where
 | g (k : G)
 | ptr (i z : Nat)
 | nilp
def Lf.so : Lf→Option So
 | .g k=>k.so
 | _=>none
def Lf.na : Lf→Nat
 | .g k=>k.na
 | _=>0
def Lf.blk (x : Lf) (d : E) : Option SBlk:=match x with
 | .g k=>k.blk .any d
 | _=>none
def lvv (num : Nat→Nat) (x : Lf) (e : E) (nb : Nat) : SV:=match x with
 | .g k=>tv k .any e nb
 | .ptr i z => .ptr (num i) z (.int 0) 0
 | .nilp => .nilp
def popL (x : Lf) (es : List E) : List E:=match x.so with
 | some _=>tl1 es
 | none=>es
def bldV (num : Nat→Nat) : List Lf→List E→Nat→List SV
 | [],_,_=>[]
 | x :: l,es,nb=>lvv num x (hd1 es) nb :: bldV num l (popL x es) (nb+x.na)
def bldA : List Lf→List E→Nat→List (Nat × Option SBlk)
 | [],_,_=>[]
 | x :: l,es,nb=>match x.blk (hd1 es) with
  | some X=>(nb,some X) :: bldA l (popL x es) (nb+x.na)
  | none=>bldA l (popL x es) (nb+x.na)
def sosL : List Lf→List So
 | []=>[]
 | x :: l=>pushO x.so (sosL l)
def naccL : List Lf→Nat
 | []=>0
 | x :: l=>x.na+naccL l
section
variable (P : Program) (U : Nat→List Dat→Dat)
def norm1L (x : Lf) (v : SV) : M SV:=match x with
 | .g k=>norm1 P U k v
 | _=>mret v
def normL : List Lf→List SV→M (List SV)
 | x :: l,v :: vs=>mbind (norm1L P U x v) fun v' => mbind (normL l vs) fun vs' => mret (v' :: vs')
 | [],[]=>mret []
 | _,_=>mfail "contract: places"
def isAt (bl : List Nat) (i b : Nat) : Bool:=match bl[i]? with
 | some b' => Nat.beq b b'
 | none=>false
def mtL1 (bl : List Nat) (x : Lf) (v : SV) : M (Option E × Option Nat):=match x with
 | .g k=>mt1 U k .any v
 | .ptr i z=>match v with
  | .ptr b z' (.int m) f=>bif isAt bl i b && Nat.beq z z' && decide (m=0) && Nat.beq f 0 then mret (none,none) else mfail "contract: another pointer"
  | _=>mfail "contract: no pointer"
 | .nilp=>match v with
  | .nilp=>mret (none,none)
  | _=>mfail "contract: not nil"
def mtL (bl : List Nat) : List Lf→List SV→M (List E × List Nat)
 | x :: l,v :: vs=>mbind (mtL1 U bl x v) fun r=>mbind (mtL bl l vs) fun t=>mret (pushO r.1 t.1,pushO r.2 t.2)
 | [],[]=>mret ([],[])
 | _,_=>mfail "contract: places"
end
section
variable {P : Program} {U : Nat→List Dat→Dat}
theorem norm1L_ok {τ : Tau} {F : Nat → Option Blk} {s : SS} {hp : Hp} (x : Lf) {v : SV} {u : Value} (hv : VD P U τ F v u) (hs : SD P U τ F s hp) :
  OKh P U (norm1L P U x v) τ F s hp fun v' τ' F' hp' => hp' = hp∧VD P U τ' F' v' u:=by
 cases x with
 | g k=>exact norm1_ok k hv hs
 | _=>exact OKh.ret ⟨rfl,hv⟩
theorem normL_ok : ∀ (ps : List Lf) (vs : List SV) (xs : List Value) (τ : Tau) (F : Nat → Option Blk) (s : SS) (hp : Hp), VDL P U τ F vs xs → SD P U τ F s hp →
  OKh P U (normL P U ps vs) τ F s hp fun vs' τ' F' hp' => hp' = hp∧VDL P U τ' F' vs' xs
 | [],[],xs,τ,F,s,hp,hv,hs=>OKh.ret ⟨rfl,hv⟩
 | [],v :: vs,xs,τ,F,s,hp,hv,hs=>OKh.fail
 | p :: ps,[],xs,τ,F,s,hp,hv,hs=>OKh.fail
 | p :: ps,v :: vs,xs,τ,F,s,hp,hv,hs=>by
  obtain ⟨y,ys,rfl,h1,h2⟩:=hv.uncons
  unfold normL
  refine (norm1L_ok p h1 hs).bind fun v' τ1 F1 s1 hp1 ex hs1 ⟨e1,e2⟩=>(normL_ok ps vs ys τ1 F1 s1 hp1 (h2.mono ex.t ex.f) hs1).bind fun vs' τ2 F2 s2 hp2 ex2 hs2 ⟨k1,k2⟩=>OKh.ret ⟨by rw [k1,e1], .cons (e2.mono ex2.t ex2.f) k2⟩
variable (P U) in
def LOK (bl : List Nat) (τ : Tau) (F : Nat→Option Blk) (s : SS) (x : Lf) (v : SV) (r : Option E × Option Nat) : Prop :=
 (∀ so,x.so=some so → ∃ e,r.1=some e)∧(x.so=none→r.1=none)∧(x.na=0→r.2=none) ∧
 (∀ u,VD P U τ F v u → ∀ (τ2 : Tau) (num : Nat→Nat) (nb : Nat) (d : E),(∀ i b,bl[i]? = some b→τ2 (num i)=τ b)→(∀ e so,r.1=some e→x.so=some so→sameE U so e d)→(∀ b,r.2=some b→τ2 nb=τ b)→VD P U τ2 F (lvv num x d nb) u) ∧
 (x.na ≠ 0 → ∃ so,x.so=some so∧BlkFor P U τ F s so x.blk r)
theorem mtL1_ok {τ : Tau} {F : Nat→Option Blk} {s : SS} (bl : List Nat) (x : Lf) (v : SV) : OKp U (mtL1 U bl x v) s fun r => ∀ s',s'.h=s.h→LOK P U bl τ F s' x v r:=by
 cases x with
 | g k =>
  refine (mt1_ok (P:=P) (τ:=τ) (F:=F) (fun _=>none) k .any v).mono fun r h s' hs' => ?_
  obtain ⟨h1,h2,h3,h4,h5⟩:=h s' hs'
  refine ⟨h1,h2,h3,fun u hu τ2 num nb d _ hd hb=>h4 u hu τ2 nb d (fun b p e=>by cases e) ⟨fun _=>none,undef, .any _⟩ hd hb,fun hna=>h5.1 hna⟩
 | ptr i z =>
  simp only [mtL1]
  split
  ·rename_i b z' m f
   cases hc : isAt bl i b && Nat.beq z z' && decide (m=0) && Nat.beq f 0 with
   | false=>exact OKp.fail
   | true =>
    simp only [Bool.and_eq_true,Nat.beq_eq,decide_eq_true_eq] at hc
    obtain ⟨⟨⟨hi,rfl⟩,rfl⟩,rfl⟩:=hc
    refine OKp.ret fun s' _=>⟨fun so h=>(by cases h),fun _=>rfl,fun _=>rfl,fun u hu τ2 num nb d hb _ _ => ?_,fun h=>absurd rfl h⟩
    unfold isAt at hi
    split at hi
    ·rename_i b' hb'
     have:=Nat.eq_of_beq_eq_true hi
     subst this
     cases hu with
     | ptr _ _ _ _ i' o' h h0=>exact .ptr (num i) z (.int 0) 0 i' o' (by rw [hb i b hb']; exact h) h0
    ·cases hi
  ·exact OKp.fail
 | nilp =>
  simp only [mtL1]
  split
  ·refine OKp.ret fun s' _=>⟨fun so h=>(by cases h),fun _=>rfl,fun _=>rfl,fun u hu τ2 num nb d _ _ _ => ?_,fun h=>absurd rfl h⟩
   cases hu
   exact .nilp
  ·exact OKp.fail
variable (P U) in
def LsOK (bl : List Nat) (τ : Tau) (F : Nat→Option Blk) (s : SS) : List Lf→List SV→List E→List Nat→Prop
 | [],[],es,bs=>es=[]∧bs=[]
 | x :: l,v :: vs,es,bs => ∃ r es' bs',es=pushO r.1 es' ∧ bs=pushO r.2 bs' ∧ LOK P U bl τ F s x v r∧LsOK bl τ F s l vs es' bs'
 | _,_,_,_=>False
theorem mtL_ok {τ : Tau} {F : Nat→Option Blk} (bl : List Nat) : ∀ (ps : List Lf) (vs : List SV) (s : SS),OKp U (mtL U bl ps vs) s fun r => ∀ s',s'.h=s.h→LsOK P U bl τ F s' ps vs r.1 r.2
 | [],[],s=>OKp.ret fun _ _=>⟨rfl,rfl⟩
 | [],_ :: _,s=>OKp.fail
 | _ :: _,[],s=>OKp.fail
 | p :: ps,v :: vs,s=>by
  unfold mtL
  refine (mtL1_ok (P:=P) (τ:=τ) (F:=F) bl p v).bind fun r s1 o1 _ h1=>(mtL_ok (τ:=τ) (F:=F) bl ps vs s1).bind fun t s2 o2 _ h2=>OKp.ret fun s' hs' => ?_
  exact ⟨r,t.1,t.2,rfl,rfl,h1 s' hs',h2 s' (by rw [hs',o1.h])⟩
section
variable {bl : List Nat} {τ : Tau} {F : Nat→Option Blk} {s : SS}
theorem Lf.blk_none {x : Lf} (h : x.na=0) (d : E) : x.blk d=none:=by
 cases x with
 | g k=>exact G.blk_none h .any d
 | _=>rfl
theorem lok_step {x : Lf} {ps : List Lf} {v : SV} {r : Option E × Option Nat} {es' ds : List E} (h : LOK P U bl τ F s x v r) (hd : sames U (sosL (x :: ps)) (pushO r.1 es') ds) :
  (∀ e so,r.1=some e→x.so=some so→sameE U so e (hd1 ds))∧sames U (sosL ps) es' (popL x ds)∧(∀ b,r.2=some b→x.na=1)∧(x.na=0 ∨ x.na=1):=by
 obtain ⟨m1,m2,m3,m4,m5⟩:=h
 have hna : x.na=0 ∨ x.na=1:=by
  cases x with
  | g k=>exact k.na_le
  | _=>exact .inl rfl
 refine ⟨?_, ?_,fun b hb => ?_,hna⟩
 ·intro e so he hso
  unfold sosL at hd
  rw [hso,he] at hd
  cases ds with
  | nil=>exact hd.elim
  | cons d ds=>exact hd.1
 ·unfold sosL at hd
  cases hso : x.so with
  | none =>
   rw [hso,m2 hso] at hd
   unfold popL; rw [hso]; exact hd
  | some so =>
   obtain ⟨e,he⟩:=m1 so hso
   rw [hso,he] at hd
   cases ds with
   | nil=>exact hd.elim
   | cons d ds=>unfold popL; rw [hso]; exact hd.2
 ·rcases hna with h0 | h1
  ·rw [m3 h0] at hb; cases hb
  ·exact h1
theorem LsOK.vals : ∀ {ps : List Lf} {vs : List SV} {es : List E} {bs : List Nat} {ds : List E} {xs : List Value} {τ2 : Tau} {num : Nat → Nat} {nb : Nat}, LsOK P U bl τ F s ps vs es bs → sames U (sosL ps) es ds →
  (∀ i b,bl[i]? = some b→τ2 (num i)=τ b)→(∀ k b,bs[k]? = some b→τ2 (nb+k)=τ b)→VDL P U τ F vs xs→VDL P U τ2 F (bldV num ps ds nb) xs
 | [], [], es, bs, ds, xs, τ2, num, nb, h, hd, hk, hb, hx => by
   have : xs=[]:=List.eq_nil_of_length_eq_zero hx.1.symm
   subst this
   exact VDL.nil
 | [],_ :: _,es,bs,ds,xs,τ2,num,nb,h,hd,hk,hb,hx=>h.elim
 | x :: ps,[],es,bs,ds,xs,τ2,num,nb,h,hd,hk,hb,hx=>h.elim
 | x :: ps,v :: vs,es,bs,ds,xs,τ2,num,nb,h,hd,hk,hb,hx=>by
  obtain ⟨r,es',bs',rfl,rfl,hm,hms⟩:=h
  obtain ⟨y,ys,rfl,h1,h2⟩:=hx.uncons
  obtain ⟨s1,s2,s3,s4⟩:=lok_step hm hd
  unfold bldV
  refine .cons (hm.2.2.2.1 y h1 τ2 num nb (hd1 ds) hk s1 fun b hr => ?_) (LsOK.vals hms s2 hk (fun k b hkb => ?_) h2)
  ·have:=hb 0 b (by rw [hr]; rfl)
   simpa using this
  ·rcases s4 with h0 | h0
   ·rw [h0,Nat.add_zero]
    have hr : r.2=none:=hm.2.2.1 h0
    rw [hr] at hb
    exact hb k b hkb
   ·obtain ⟨so,_,b',L,x',hr,_⟩:=hm.2.2.2.2 (by omega)
    rw [hr] at hb
    have:=hb (k+1) b hkb
    rw [h0,show nb+1+k=nb+(k+1) by omega]
    exact this
theorem LsOK.blks : ∀ {ps : List Lf} {vs : List SV} {es : List E} {bs : List Nat} {ds : List E} {nb : Nat}, LsOK P U bl τ F s ps vs es bs → sames U (sosL ps) es ds →
  ∀ b' y,lk (bldA ps ds nb) b' = some y → ∃ k b X x',b' = nb+k∧bs[k]? = some b∧y=some X∧s.get b=some x' ∧ (∀ (τ2 : Tau) o z,BD P U τ F o x' z→BD P U τ2 F o X z)∧(RowNil P U x' → RowNil P U X)
 | [],vs,es,bs,ds,nb,h,hd=>fun b' y hy=>by simp [bldA,lk] at hy
 | x :: ps,[],es,bs,ds,nb,h,hd=>h.elim
 | x :: ps,v :: vs,es,bs,ds,nb,h,hd=>by
  obtain ⟨r,es',bs',rfl,rfl,hm,hms⟩:=h
  obtain ⟨s1,s2,s3,s4⟩:=lok_step hm hd
  intro b' y hy
  have ih:=LsOK.blks (nb:=nb+x.na) hms s2
  by_cases hna : x.na=0
  ·have hr : r.2=none:=hm.2.2.1 hna
   have hy' : lk (bldA ps (popL x ds) (nb+x.na)) b' = some y:=by
    unfold bldA at hy
    rw [Lf.blk_none hna] at hy
    exact hy
   obtain ⟨k,b,X,x',h1,h2⟩:=ih b' y hy'
   exact ⟨k,b,X,x',by rw [h1,hna,Nat.add_zero],by rw [hr]; exact h2⟩
  ·have hn1 : x.na=1:=s4.resolve_left hna
   obtain ⟨so,hso,b0,L,x',hr,hrL,hx,hbd⟩:=hm.2.2.2.2 hna
   obtain ⟨X0,hX,k1,k2⟩:=hbd (hd1 ds) (s1 L so hrL hso)
   have hy' : lk ((nb,some X0) :: bldA ps (popL x ds) (nb+x.na)) b' = some y:=by
    unfold bldA at hy
    rw [hX] at hy
    exact hy
   rw [lk_cons] at hy'
   split at hy'
   ·rename_i e1
    simp only [Option.some.injEq] at hy'
    exact ⟨0,b0,_,x',e1.symm,by rw [hr]; rfl,hy'.symm,hx,k1,k2⟩
   ·obtain ⟨k,b,X,x'',h1,h2,h3⟩:=ih b' y hy'
    exact ⟨k+1,b,X,x'',by rw [h1,hn1]; omega,by rw [hr]; exact h2,h3⟩
theorem LsOK.live : ∀ {ps : List Lf} {vs : List SV} {es : List E} {bs : List Nat},LsOK P U bl τ F s ps vs es bs → ∀ {k b : Nat},bs[k]? = some b → ∃ x,s.get b=some x
 | [],[],es,bs,h,k,b,hb=>by rw [h.2] at hb; simp at hb
 | [],_ :: _,es,bs,h,k,b,hb=>h.elim
 | p :: ps,[],es,bs,h,k,b,hb=>h.elim
 | p :: ps,v :: vs,es,bs,h,k,b,hb=>by
  obtain ⟨r,es',bs',rfl,rfl,hm,hms⟩:=h
  cases hr : r.2 with
  | none=>rw [hr] at hb; exact hms.live hb
  | some b0 =>
   rw [hr] at hb
   cases k with
   | succ k=>exact hms.live (k:=k) hb
   | zero =>
    have hna : p.na ≠ 0:=fun h0=>by rw [hm.2.2.1 h0] at hr; cases hr
    obtain ⟨so,_,b1,L,x',h1,_,hx,_⟩:=hm.2.2.2.2 hna
    rw [hr] at h1
    simp only [Option.some.injEq] at h1
    have e0 : b0=b:=by simpa [pushO] using hb
    exact ⟨x',by rw [← e0,h1]; exact hx⟩
theorem LsOK.len : ∀ {ps : List Lf} {vs : List SV} {es : List E} {bs : List Nat},LsOK P U bl τ F s ps vs es bs→es.length=(sosL ps).length
 | [],[],es,bs,h=>by rw [h.1]; rfl
 | [],_ :: _,es,bs,h=>h.elim
 | p :: ps,[],es,bs,h=>h.elim
 | p :: ps,v :: vs,es,bs,h=>by
  obtain ⟨r,es',bs',rfl,rfl,hm,hms⟩:=h
  have ih:=hms.len
  unfold sosL
  cases hso : p.so with
  | none=>rw [hm.2.1 hso]; exact ih
  | some so =>
   obtain ⟨e,he⟩:=hm.1 so hso
   rw [he]
   simp only [pushO,List.length_cons,ih]
end
inductive Vs where
 | one (l : Lf)
 | agg (ls : List Lf)
def Vs.lfs : Vs→List Lf
 | .one l=>[l]
 | .agg ls=>ls
def Vs.fl : Vs→SV→Option (List SV)
 | .one _,v=>some [v]
 | .agg ls, .agg l=>bif Nat.beq l.length ls.length then some l else none
 | _,_=>none
def hdV : List SV→SV
 | [] => .any
 | v :: _=>v
def Vs.mk : Vs→List SV→SV
 | .one _,l=>hdV l
 | .agg _,l => .agg l
def flVs : List Vs→List SV→Option (List SV)
 | [],[]=>some []
 | a :: r,v :: vs=>match a.fl v with
  | some l=>match flVs r vs with
   | some m=>some (l ++ m)
   | none=>none
  | none=>none
 | _,_=>none
def lfsV : List Vs→List Lf
 | []=>[]
 | a :: r=>a.lfs ++ lfsV r
def mkVs : List Vs→List SV→List SV
 | [],_=>[]
 | a :: r,fl=>a.mk (fl.take a.lfs.length) :: mkVs r (fl.drop a.lfs.length)
theorem VDL.split {τ : Tau} {F : Nat→Option Blk} {gl : List SV} {xs ys : List Value} (h : VDL P U τ F gl (xs ++ ys)) : VDL P U τ F (gl.take xs.length) xs∧VDL P U τ F (gl.drop xs.length) ys:=by
 induction xs generalizing gl with
 | nil=>exact ⟨by simpa using VDL.nil,by simpa using h⟩
 | cons x xs ih =>
  cases gl with
  | nil=>have:=h.1; simp at this
  | cons a gl =>
   obtain ⟨y,ys',e,h1,h2⟩:=h.uncons
   cases e
   obtain ⟨k1,k2⟩:=ih h2
   exact ⟨.cons h1 k1,k2⟩
theorem Vs.fl_ok {τ : Tau} {F : Nat → Option Blk} {a : Vs} {v : SV} {l : List SV} {x : Value} (h : a.fl v = some l) (hv : VD P U τ F v x) :
  ∃ xs,VDL P U τ F l xs∧xs.length=a.lfs.length ∧ ∀ (τ2 : Tau) F2 gl,VDL P U τ2 F2 gl xs→VD P U τ2 F2 (a.mk gl) x:=by
 cases a with
 | one lf =>
  simp only [Vs.fl,Option.some.injEq] at h
  subst h
  refine ⟨[x], .cons hv .nil,rfl,fun τ2 F2 gl hg => ?_⟩
  cases gl with
  | nil=>have:=hg.1; simp at this
  | cons b gl=>obtain ⟨y,ys,e,h1,_⟩:=hg.uncons; cases e; exact h1
 | agg ls =>
  unfold Vs.fl at h
  split at h
  ·rename_i hh; cases hh
  ·rename_i ls' m hh
   cases hh
   cases hc : Nat.beq m.length ls.length with
   | false=>rw [hc] at h; cases h
   | true =>
    rw [hc,cond_true,Option.some.injEq] at h
    subst h
    cases hv with
    | agg _ xs h1 h2=>exact ⟨xs,⟨h1,h2⟩,by rw [← h1]; exact Nat.eq_of_beq_eq_true hc,fun τ2 F2 gl hg => .agg gl xs hg.1 hg.2⟩
  ·cases h
theorem flVs_ok {τ : Tau} {F : Nat → Option Blk} : ∀ {as : List Vs} {vs fl : List SV} {args : List Value}, flVs as vs = some fl → VDL P U τ F vs args →
  ∃ fx,VDL P U τ F fl fx∧fx.length=(lfsV as).length ∧ ∀ (τ2 : Tau) F2 gl rest,VDL P U τ2 F2 gl fx→VDL P U τ2 F2 (mkVs as (gl ++ rest)) args
 | [],[],fl,args,h,hv=>by
  simp only [flVs,Option.some.injEq] at h
  subst h
  have : args=[]:=List.eq_nil_of_length_eq_zero hv.1.symm
  subst this
  exact ⟨[], .nil,rfl,fun _ _ _ _ _ => .nil⟩
 | [],_ :: _,fl,args,h,hv=>by simp [flVs] at h
 | _ :: _,[],fl,args,h,hv=>by simp [flVs] at h
 | a :: r,v :: vs,fl,args,h,hv=>by
  unfold flVs at h
  split at h
  ·rename_i l hl
   split at h
   ·rename_i m hm
    simp only [Option.some.injEq] at h
    subst h
    obtain ⟨y,ys,rfl,h1,h2⟩:=hv.uncons
    obtain ⟨xs,k1,k2,k3⟩:=Vs.fl_ok hl h1
    obtain ⟨fx,q1,q2,q3⟩:=flVs_ok hm h2
    refine ⟨xs ++ fx,k1.append q1,by simp [lfsV,k2,q2],fun τ2 F2 gl rest hg => ?_⟩
    obtain ⟨g1,g2⟩:=hg.split
    have hlen : xs.length≤gl.length:=by rw [hg.1]; simp
    unfold mkVs
    rw [← k2,List.take_append_of_le_length hlen,List.drop_append_of_le_length hlen]
    exact .cons (k3 τ2 F2 _ g1) (q3 τ2 F2 _ rest g2)
   ·cases h
  ·cases h
def resL : List Vs→SV→Option (List SV)
 | [_],a=>some [a]
 | _, .tup l=>some l
 | _,_=>none
def packR : List Vs→List SV→SV
 | [_],l=>hdV l
 | _,l => .tup l
theorem resL_ok {τ : Tau} {F : Nat → Option Blk} {res : List Vs} {a : SV} {l : List SV} {v : Value} (h : resL res a = some l) (hv : VD P U τ F a v) :
  ∃ xs,VDL P U τ F l xs ∧ ∀ (τ2 : Tau) F2 l2,VDL P U τ2 F2 l2 xs→VD P U τ2 F2 (packR res l2) v:=by
 unfold resL at h
 split at h
 ·simp only [Option.some.injEq] at h
  subst h
  refine ⟨[v], .cons hv .nil,fun τ2 F2 gl hg => ?_⟩
  cases gl with
  | nil=>have:=hg.1; simp at this
  | cons b gl=>obtain ⟨y,ys,e,h1,_⟩:=hg.uncons; cases e; exact h1
 ·rename_i r m hne
  simp only [Option.some.injEq] at h
  subst h
  cases hv with
  | tup _ xs h1 h2 =>
   refine ⟨xs,⟨h1,h2⟩,fun τ2 F2 gl hg => ?_⟩
   unfold packR
   split
   ·rename_i hh; exact (hne _ rfl).elim
   ·exact .tup gl xs hg.1 hg.2
 ·cases h
abbrev BlkS:=TypeId × Nat × List Lf
def lfsB : List BlkS→List Lf
 | []=>[]
 | a :: r=>a.2.2 ++ lfsB r
def clBl (s : SS) : List BlkS → List Nat → Option (List SV)
 | [],[]=>some []
 | a :: r, b :: bs => match s.get b with
  | some (.cells l e' z') => bif Nat.beq a.1 e' && Nat.beq a.2.1 z' && Nat.beq l.length a.2.2.length then
    match clBl s r bs with
    | some m=>some (l ++ m)
    | none=>none
   else none
  | _=>none
 | _,_=>none
def mkBl (num : Nat→Nat) : Nat→List BlkS→List SV→List (Nat × Option SBlk)
 | _,[],_=>[]
 | i,a :: r,fl=>(num i,some (.cells (fl.take a.2.2.length) a.1 a.2.1)) :: mkBl num (i+1) r (fl.drop a.2.2.length)
def BX (τ : Tau) (hp : Hp) : List BlkS→List Nat→List Value→Prop
 | [],[],fx=>fx=[]
 | a :: r,b :: bs,fx => ∃ xs ys,fx=xs ++ ys∧xs.length=a.2.2.length∧(∃ i o cs n,τ b=some (some (i,o))∧hp.m.get i=some (.cells cs n a.1 a.2.1)∧o+xs.length≤n ∧ ∀ (j : Nat) x,xs[j]? = some x→cs.get (o+j)=some x)∧BX τ hp r bs ys
 | _,_,_=>False
theorem BX.mono {τ τ' : Tau} {hp : Hp} (ht : Tle τ τ') : ∀ {r : List BlkS} {bs : List Nat} {fx : List Value},BX τ hp r bs fx→BX τ' hp r bs fx
 | [],[],fx,h=>h
 | [],_ :: _,fx,h=>h.elim
 | _ :: _,[],fx,h=>h.elim
 | a :: r,b :: bs,fx,h=>by
  obtain ⟨xs,ys,h1,h2,⟨i,o,cs,n,h3,h4⟩,h5⟩:=h
  exact ⟨xs,ys,h1,h2,⟨i,o,cs,n,ht _ _ h3,h4⟩,h5.mono ht⟩
theorem BX.len {τ : Tau} {hp : Hp} : ∀ {r : List BlkS} {bs : List Nat} {fx : List Value},BX τ hp r bs fx→bs.length=r.length∧fx.length=(lfsB r).length
 | [],[],fx,h=>by have h : fx=[]:=h; subst h; exact ⟨rfl,rfl⟩
 | [],_ :: _,fx,h=>h.elim
 | _ :: _,[],fx,h=>h.elim
 | a :: r,b :: bs,fx,h=>by
  obtain ⟨xs,ys,rfl,h2,_,h5⟩:=h
  obtain ⟨k1,k2⟩:=h5.len
  exact ⟨by simp [k1],by simp [lfsB,h2,k2]⟩
theorem clBl_ok {τ : Tau} {F : Nat → Option Blk} {s : SS} {hp : Hp} (hs : SD P U τ F s hp) : ∀ {r : List BlkS} {bs : List Nat} {fl : List SV}, clBl s r bs = some fl → ∃ fx, VDL P U τ F fl fx ∧ BX τ hp r bs fx
 | [],[],fl,h=>by
  simp only [clBl,Option.some.injEq] at h
  subst h
  exact ⟨[], .nil,rfl⟩
 | [],_ :: _,fl,h=>by simp [clBl] at h
 | _ :: _,[],fl,h=>by simp [clBl] at h
 | a :: r, b :: bs, fl, h => by
  unfold clBl at h
  split at h
  ·rename_i l e' z' hb
   cases hc : Nat.beq a.1 e' && Nat.beq a.2.1 z' && Nat.beq l.length a.2.2.length with
   | false=>rw [hc] at h; cases h
   | true =>
    rw [hc,cond_true] at h
    simp only [Bool.and_eq_true,Nat.beq_eq] at hc
    obtain ⟨⟨rfl,rfl⟩,hlen⟩:=hc
    split at h
    ·rename_i m hm
     simp only [Option.some.injEq] at h
     subst h
     obtain ⟨fx,q1,q2⟩:=clBl_ok hs hm
     rcases hs.live b _ hb with ⟨i,o,y,h1,h2,h3,cs,n,rfl,h4,h5⟩ | ⟨_,L,e',z',ph,h2,_⟩
     ·have hcell : ∀ j, ∃ x, ∀ a', l[j]? = some a' → cs.get (o + j) = some x ∧ VD P U τ F a' x := by
       intro j
       cases hj : l[j]? with
       | none=>exact ⟨undef,fun a' e=>by cases e⟩
       | some a' =>
        obtain ⟨x,hx,hv⟩:=h5 j a' hj
        exact ⟨x,fun a2 e=>by cases e; exact ⟨hx,hv⟩⟩
      obtain ⟨ch,hch⟩:=Classical.axiomOfChoice hcell
      let xs:=(List.range l.length).map ch
      have hxs : xs.length=l.length:=by simp [xs]
      have hxg : ∀ (j : Nat) x,xs[j]? = some x → ∃ a',l[j]? = some a' ∧ x=ch j:=by
       intro j x hx
       have hj : j < l.length:=by rw [← hxs]; exact (List.getElem?_eq_some_iff.1 hx).1
       refine ⟨l[j],List.getElem?_eq_getElem hj, ?_⟩
       simp only [xs,List.getElem?_map,List.getElem?_range hj,Option.map_some,Option.some.injEq] at hx
       exact hx.symm
      have hv : VDL P U τ F l xs:=⟨hxs.symm,fun j a' x ha hx=>by
       obtain ⟨_,_,rfl⟩:=hxg j x hx
       exact (hch j a' ha).2⟩
      refine ⟨xs ++ fx,hv.append q1,xs,fx,rfl,by rw [hxs]; exact hlen,⟨i,o,cs,n,h1,h2,by rw [hxs]; exact h4,fun j x hx => ?_⟩,q2⟩
      obtain ⟨a',ha',rfl⟩:=hxg j x hx
      exact (hch j a' ha').1
     ·cases h2
    ·cases h
  ·cases h
theorem mkBl_ok {τ τ2 : Tau} {F : Nat → Option Blk} {hp : Hp} {num : Nat → Nat} {rest : List SV} : ∀ {r : List BlkS} {bs : List Nat} {fx : List Value} {gl : List SV} {i0 : Nat}, BX τ hp r bs fx → VDL P U τ2 F gl fx → ∀ {b : Nat} {y : Option SBlk}, lk (mkBl num i0 r (gl ++ rest)) b = some y →
  ∃ j bj X i o Y,b=num (i0+j)∧bs[j]? = some bj∧y=some X∧(∃ l e z,X = .cells l e z)∧τ bj=some (some (i,o))∧hp.m.get i=some Y∧BD P U τ2 F o X Y
 | [],[],fx,gl,i0,h,hv,b,y,hy=>by simp [mkBl,lk] at hy
 | [],_ :: _,fx,gl,i0,h,hv,b,y,hy=>h.elim
 | _ :: _,[],fx,gl,i0,h,hv,b,y,hy=>h.elim
 | a :: r,b0 :: bs,fx,gl,i0,h,hv,b,y,hy=>by
  obtain ⟨xs,ys,rfl,h2,⟨i,o,cs,n,h3,h4,h5,h6⟩,h7⟩:=h
  obtain ⟨g1,g2⟩:=hv.split
  have hlen : xs.length≤gl.length:=by rw [hv.1]; simp
  unfold mkBl at hy
  rw [← h2,List.take_append_of_le_length hlen,List.drop_append_of_le_length hlen,lk_cons] at hy
  split at hy
  ·rename_i e
   simp only [Option.some.injEq] at hy
   subst hy
   refine ⟨0,b0,_,i,o,_,e.symm,rfl,rfl,⟨_,_,_,rfl⟩,h3,h4,cs,n,rfl,by rw [g1.1]; exact h5,fun j a' ha => ?_⟩
   obtain ⟨x,hx,hvx⟩:=g1.get ha
   exact ⟨x,h6 j x hx,hvx⟩
  ·obtain ⟨j,bj,X,i',o',Y,e1,e2,e3⟩:=mkBl_ok h7 g2 hy
   exact ⟨j+1,bj,X,i',o',Y,by rw [e1]; congr 1; omega,e2,e3⟩
theorem mkBl_mem {num : Nat→Nat} : ∀ {r : List BlkS} {fl : List SV} {i0 j : Nat},j < r.length→num (i0+j) ∈ (mkBl num i0 r fl).map Prod.fst
 | [],fl,i0,j,h=>by simp at h
 | a :: r,fl,i0,0,h=>by simp [mkBl]
 | a :: r,fl,i0,j+1,h=>by
  simp only [mkBl,List.map_cons,List.mem_cons]
  right
  have:=mkBl_mem (num:=num) (r:=r) (fl:=fl.drop a.2.2.length) (i0:=i0+1) (j:=j) (by simpa using h)
  rw [show i0+(j+1)=i0+1+j by omega]
  exact this
end
end Go.Sx
end PartSm33
noncomputable section PartSm34
namespace Go.Sx
open Go.Xe
structure Con where
 name : String
 args : List Vs
 blks : List BlkS
 find : List SV→SS→Option (List Nat)
 pre : List Dat→Prop
 res : List Vs
 post : List BlkS
 find' : SV→SS→Option (List Nat)
 rel : List Dat→List Dat→Prop
def Con.inL (c : Con) : List Lf:=lfsV c.args ++ lfsB c.blks
def Con.outL (c : Con) : List Lf:=lfsV c.res ++ lfsB c.post
def nums : Nat→Nat→List Nat
 | _,0=>[]
 | i,n+1=>i :: nums (i+1) n
theorem nums_len : ∀ (n i : Nat),(nums i n).length=n
 | 0,_=>rfl
 | n+1,i=>by simp [nums,nums_len n]
theorem nums_get : ∀ (n i k : Nat),(nums i n)[k]? = if k < n then some (i+k) else none
 | 0,i,k=>by simp [nums]
 | n+1,i,0=>by simp [nums]
 | n+1,i,k+1=>by
  simp only [nums,List.getElem?_cons_succ,nums_get n (i+1) k]
  by_cases h : k < n
  ·rw [if_pos h,if_pos (by omega)]; congr 1; omega
  ·rw [if_neg h,if_neg (by omega)]
def idN : Nat→Nat:=fun i=>i
def gvals (c : Con) (es : List E) : List SV:=bldV idN c.inL es c.blks.length
def gargs (c : Con) (es : List E) : List SV:=mkVs c.args (gvals c es)
def gst (c : Con) (es : List E) (fv : Nat) : SS:=⟨mkBl idN 0 c.blks ((gvals c es).drop (lfsV c.args).length) ++ bldA c.inL es c.blks.length,c.blks.length+naccL c.inL,[],fv,[]⟩
def tauG (τ : Tau) (ns : List Nat) : Tau:=fun b=>match ns[b]? with
 | some b' => τ b'
 | none=>none
def numF (c : Con) (bl : List Nat) (n : Nat) (i : Nat) : Nat:=bif Nat.ble (i+1) c.blks.length then bl.getD i 0 else n+(i - c.blks.length)
def fvals (c : Con) (es : List E) (s : SS) (bl : List Nat) : List SV:=bldV (numF c bl s.nx) c.outL es (s.nx+(c.post.length - c.blks.length))
def fst_ (c : Con) (es : List E) (s : SS) (bl kill : List Nat) : SS :=
 ⟨mkBl (numF c bl s.nx) 0 c.post ((fvals c es s bl).drop (lfsV c.res).length) ++ (bldA c.outL es (s.nx+(c.post.length - c.blks.length)) ++ (kills (kill ++ [s.nx]) ++ s.h)),s.nx+(c.post.length - c.blks.length)+naccL c.outL,s.fc,s.fv+(sosL c.outL).length,s.fz⟩
def liveB (s : SS) (b : Nat) : Bool:=(s.get b).isSome
section
variable (P : Program) (U : Nat→List Dat→Dat)
def cfin (c : Con) (es : List E) (a : SV) : M Unit:=mread fun s=>match resL c.res a with
 | none=>mfail "contract: result"
 | some l=>match flVs c.res l with
  | none=>mfail "contract: results"
  | some fl1=>match c.find' a s with
   | none=>mfail "contract: new blocks"
   | some nw=>match clBl s c.post (nums 0 c.blks.length ++ nw) with
    | none=>mfail "contract: blocks behind"
    | some fl2=>mbind (normL P U c.outL (fl1 ++ fl2)) fun vs=>mbind (mtL U (nums 0 c.blks.length ++ nw) c.outL vs) fun t=>mread fun s2 =>
     bif (nums 0 c.blks.length ++ nw).all (liveB s2) && dist (nw ++ t.2) && nw.all (Nat.ble (c.blks.length+naccL c.inL)) && t.2.all (Nat.ble c.blks.length) && Nat.beq t.2.length (naccL c.outL) && Nat.beq (nw.length+c.blks.length) c.post.length then
      fun _ => .need (.pt (c.name ++ "Rel") [(sosL c.inL).zip es,(sosL c.outL).zip t.1]) (c.rel (datsOf U (sosL c.inL) es) (datsOf U (sosL c.outL) t.1)) .done
     else mfail "contract: the end"
def cvc (c : Con) (run : List SV→M SV) : Tr (Unit × SS) :=
 allN (sosL c.inL) 0 fun es => .asm (.pt (c.name ++ "Pre") [(sosL c.inL).zip es]) (c.pre (datsOf U (sosL c.inL) es)) ((mbind (run (gargs c es)) (cfin P U c es)) (gst c es (sosL c.inL).length))
def kcon (c : Con) (args : List SV) : M SV:=mread fun s0=>match flVs c.args args with
 | none=>mfail "contract: arguments"
 | some fl1=>match c.find args s0 with
  | none=>mfail "contract: no blocks"
  | some bl=>match clBl s0 c.blks bl with
   | none=>mfail "contract: blocks"
   | some fl2=>mbind (normL P U c.inL (fl1 ++ fl2)) fun vs=>mbind (mtL U bl c.inL vs) fun t=>mread fun s1 =>
    bif bl.all (liveB s1) && dist (bl ++ t.2) && Nat.beq t.2.length (naccL c.inL) && Nat.ble c.blks.length c.post.length then
     fun _ => .need (.pt (c.name ++ "Pre") [(sosL c.inL).zip t.1]) (c.pre (datsOf U (sosL c.inL) t.1)) (allN (sosL c.outL) s1.fv fun ds => .asm (.pt (c.name ++ "Rel") [(sosL c.inL).zip t.1,(sosL c.outL).zip ds]) (c.rel (datsOf U (sosL c.inL) t.1) (datsOf U (sosL c.outL) ds))
      (.ret (packR c.res (mkVs c.res (fvals c ds s1 bl)),fst_ c ds s1 bl t.2)))
    else mfail "contract: the start"
end
section
variable {P : Program} {U : Nat→List Dat→Dat} {ov : FuncId→Option TypeId}
theorem liveB_get {s : SS} {b : Nat} (h : liveB s b=true) : ∃ x,s.get b=some x:=Option.isSome_iff_exists.1 h
theorem tauG_get {τ : Tau} {ns : List Nat} {b b' : Nat} (h : ns[b]? = some b') : tauG τ ns b=τ b' := by unfold tauG; rw [h]
theorem gst_ok {c : Con} {τ : Tau} {F : Nat → Option Blk} {s : SS} {hp : Hp} {vs : List SV} {fx1 fx2 : List Value} {bl accs : List Nat} {es ds : List E} {fv : Nat} (hs : SD P U τ F s hp) (hv : VDL P U τ F vs (fx1 ++ fx2)) (h1 : fx1.length = (lfsV c.args).length)
  (hb : BX τ hp c.blks bl fx2) (hm : LsOK P U bl τ F s c.inL vs es accs) (hd : dist (bl ++ accs)=true) (hlive : ∀ b ∈ bl,∃ x,s.get b=some x) (hn : accs.length=naccL c.inL) (hsm : sames U (sosL c.inL) es ds) :
  SD P U (tauG τ (bl ++ accs)) F (gst c ds fv) hp∧VDL P U (tauG τ (bl ++ accs)) F (gvals c ds) (fx1 ++ fx2) ∧ ∀ b x,(gst c ds fv).get b=some x → ∃ b' x',(bl ++ accs)[b]? = some b' ∧ s.get b' = some x' := by
 have hbl : bl.length=c.blks.length:=hb.len.1
 have n1 : ∀ i b,bl[i]? = some b→(bl ++ accs)[i]? = some b:=fun i b h=>by rw [List.getElem?_append_left (List.getElem?_eq_some_iff.1 h).1]; exact h
 have n2 : ∀ k b,accs[k]? = some b→(bl ++ accs)[c.blks.length+k]? = some b:=fun k b h=>by
  rw [List.getElem?_append_right (by omega),hbl,Nat.add_sub_cancel_left]; exact h
 have hvals : VDL P U (tauG τ (bl ++ accs)) F (gvals c ds) (fx1 ++ fx2):=hm.vals hsm (fun i b h=>tauG_get (n1 i b h)) (fun k b h=>tauG_get (n2 k b h)) hv
 obtain ⟨_,v2⟩:=hvals.split
 rw [h1] at v2
 have hblk:=hm.blks (nb:=c.blks.length) hsm
 have cls : ∀ b x, (gst c ds fv).get b = some x →
   (∃ b' i o Y,bl[b]? = some b' ∧ (∃ l e z,x = .cells l e z)∧τ b' = some (some (i,o))∧hp.m.get i=some Y∧BD P U (tauG τ (bl ++ accs)) F o x Y) ∨
   (∃ k b' x',b=c.blks.length+k∧accs[k]? = some b' ∧ s.get b' = some x' ∧ (∀ (τ2 : Tau) o z,BD P U τ F o x' z→BD P U τ2 F o x z)∧(RowNil P U x' → RowNil P U x)):=by
  intro b x hbx
  have hbx' : (match lk (mkBl idN 0 c.blks ((gvals c ds).drop (lfsV c.args).length) ++ bldA c.inL ds c.blks.length) b with | some x=>x | none=>none)=some x:=hbx
  rw [lk_append] at hbx'
  cases c1 : lk (mkBl idN 0 c.blks ((gvals c ds).drop (lfsV c.args).length)) b with
  | some y =>
   rw [c1] at hbx'
   simp only at hbx'
   subst hbx'
   rw [← List.append_nil ((gvals c ds).drop (lfsV c.args).length)] at c1
   obtain ⟨j,bj,X,i,o,Y,e1,e2,e3,e4,e5,e6,e7⟩:=mkBl_ok hb v2 c1
   cases e3
   have : b=j:=by rw [e1]; show 0+j=j; omega
   subst this
   exact .inl ⟨bj,i,o,Y,e2,e4,e5,e6,e7⟩
  | none =>
   rw [c1] at hbx'
   simp only at hbx'
   cases c2 : lk (bldA c.inL ds c.blks.length) b with
   | none=>rw [c2] at hbx'; cases hbx'
   | some y =>
    rw [c2] at hbx'
    simp only at hbx'
    subst hbx'
    obtain ⟨k,b',X,x',e1,e2,e3,e4,e5,e6⟩:=hblk b _ c2
    cases e3
    exact .inr ⟨k,b',x',e1,e2,e4,e5,e6⟩
 have src : ∀ b x,(gst c ds fv).get b=some x → ∃ b' x',(bl ++ accs)[b]? = some b' ∧ s.get b' = some x' := by
  intro b x hbx
  rcases cls b x hbx with ⟨b',i,o,Y,e1,_⟩ | ⟨k,b',x',rfl,e2,e3,_⟩
  ·obtain ⟨x',hx'⟩:=hlive b' (List.mem_of_getElem? e1)
   exact ⟨b',x',n1 b b' e1,hx'⟩
  ·exact ⟨b',x',n2 k b' e2,e3⟩
 refine ⟨⟨fun b x hbx => ?_,fun b b2 x y i o j q hbx hby hne e1 e2 => ?_,hs.frz,fun b i o h => ?_,hs.flt,fun b hle => ?_,(fun _ _ h=>by cases h),fun _ h=>by cases h⟩,hvals,src⟩
 ·rcases cls b x hbx with ⟨b',i,o,Y,e1,e2,e3,e4,e5⟩ | ⟨k,b',x',rfl,e2,e3,e4,e5⟩
  ·obtain ⟨x',hx'⟩:=hlive b' (List.mem_of_getElem? e1)
   rcases hs.live b' x' hx' with ⟨i',o',y',k1,_,k3,_⟩ | ⟨k1,_⟩
   ·rw [e3] at k1
    simp only [Option.some.injEq,Prod.mk.injEq] at k1
    obtain ⟨rfl,rfl⟩:=k1
    exact .inl ⟨i,o,Y,by rw [tauG_get (n1 b b' e1)]; exact e3,e4,k3,e5⟩
   ·rw [e3] at k1; cases k1
  ·rcases hs.live b' x' e3 with ⟨i,o,y,k1,k2,k3,k4⟩ | ⟨k1,k2⟩
   ·exact .inl ⟨i,o,y,by rw [tauG_get (n2 k b' e2)]; exact k1,k2,k3,e4 _ o y k4⟩
   ·exact .inr ⟨by rw [tauG_get (n2 k b' e2)]; exact k1,e5 k2⟩
 ·obtain ⟨b',x',k1,k2⟩:=src b x hbx
  obtain ⟨c',y',k3,k4⟩:=src b2 y hby
  rw [tauG_get k1] at e1
  rw [tauG_get k3] at e2
  refine hs.inj b' c' x' y' i o j q k2 k4 (fun e => ?_) e1 e2
  subst e
  exact hne (dist_get hd b b2 b' k1 k3)
 ·unfold tauG at h
  split at h
  ·exact hs.lt _ i o h
  ·cases h
 ·have hle : c.blks.length+naccL c.inL≤b:=hle
  unfold tauG
  rw [List.getElem?_eq_none (by rw [List.length_append,hbl,hn]; exact hle)]
variable (P U ov) in
def RightG (c : Con) (g : FuncId) : Prop := ∀ (es : List E),es.length=(sosL c.inL).length→c.pre (datsOf U (sosL c.inL) es) → ∀ τ F hp xs,SD P U τ F (gst c (insts U (sosL c.inL) 0 es) (sosL c.inL).length) hp→VDL P U τ F (gargs c (insts U (sosL c.inL) 0 es)) xs →
 ∃ v τ' F' s' hp' vs fx1 fx2 es' nw accs,XRun P ov g xs hp v hp' ∧ Ext τ F (gst c (insts U (sosL c.inL) 0 es) (sosL c.inL).length) hp τ' F' s' hp' ∧ SD P U τ' F' s' hp' ∧ VDL P U τ' F' vs (fx1 ++ fx2)∧fx1.length=(lfsV c.res).length ∧
  (∀ (τ2 : Tau) F2 gl rest,VDL P U τ2 F2 gl fx1→VD P U τ2 F2 (packR c.res (mkVs c.res (gl ++ rest))) v)∧BX τ' hp' c.post (nums 0 c.blks.length ++ nw) fx2∧LsOK P U (nums 0 c.blks.length ++ nw) τ' F' s' c.outL vs es' accs ∧
  (∀ b ∈ nums 0 c.blks.length ++ nw,∃ x,s'.get b=some x)∧dist (nw ++ accs)=true∧(∀ b ∈ nw,c.blks.length+naccL c.inL≤b)∧(∀ b ∈ accs,c.blks.length≤b)∧accs.length=naccL c.outL∧nw.length+c.blks.length=c.post.length ∧
  c.rel (datsOf U (sosL c.inL) es) (datsOf U (sosL c.outL) es')
theorem rightG_of {c : Con} {run : List SV→M SV} {g : FuncId} (hrun : RunRight P U ov run g) (hvc : (cvc P U c run).vc U fun _=>True) : RightG P U ov c g:=by
 intro es hlen hpre τ F hp xs hs hx
 have hq:=allN_vc (U:=U) _ _ _ hvc es hlen
 have hq:=hq (by rw [dats_insts _ _ _ hlen]; exact hpre)
 generalize hds : insts U (sosL c.inL) 0 es=ds at *
 rw [vc_mbind] at hq
 obtain ⟨a,s1,hq,τ1,F1,hp1,ex1,hs1,v,hrunv,hva⟩:=hrun _ xs τ F _ hp hx hs _ hq hs
 unfold cfin at hq
 simp only [mread] at hq
 cases c1 : resL c.res a with
 | none=>rw [c1] at hq; exact hq.elim
 | some l =>
 rw [c1] at hq
 simp only at hq
 cases c2 : flVs c.res l with
 | none=>rw [c2] at hq; exact hq.elim
 | some fl1 =>
 rw [c2] at hq
 simp only at hq
 cases c3 : c.find' a s1 with
 | none=>rw [c3] at hq; exact hq.elim
 | some nw =>
 rw [c3] at hq
 simp only at hq
 cases c4 : clBl s1 c.post (nums 0 c.blks.length ++ nw) with
 | none=>rw [c4] at hq; exact hq.elim
 | some fl2 =>
 rw [c4] at hq
 simp only at hq
 obtain ⟨us,hl1,hl2⟩:=resL_ok c1 hva
 obtain ⟨fx1,hf1,hf2,hf3⟩:=flVs_ok c2 hl1
 obtain ⟨fx2,hb1,hb2⟩:=clBl_ok hs1 c4
 rw [vc_mbind] at hq
 obtain ⟨vs,s2,hq,τ2,F2,hp2,ex2,hs2,rfl,hvs⟩:=normL_ok c.outL (fl1 ++ fl2) (fx1 ++ fx2) τ1 F1 s1 hp1 (hf1.append hb1) hs1 _ hq hs1
 rw [vc_mbind] at hq
 obtain ⟨⟨es',accs⟩,s3,hq,o3,hf3',hmt⟩:=mtL_ok (P:=P) (τ:=τ2) (F:=F2) (nums 0 c.blks.length ++ nw) c.outL vs s2 _ hq hs2.fc
 simp only [mread] at hq
 cases c5 : (nums 0 c.blks.length ++ nw).all (liveB s3) && dist (nw ++ accs) && nw.all (Nat.ble (c.blks.length+naccL c.inL)) && accs.all (Nat.ble c.blks.length) && Nat.beq accs.length (naccL c.outL) && Nat.beq (nw.length+c.blks.length) c.post.length with
 | false=>rw [c5] at hq; exact hq.elim
 | true =>
 rw [c5] at hq
 simp only [Bool.and_eq_true,List.all_eq_true,Nat.ble_eq,Nat.beq_eq] at c5
 obtain ⟨⟨⟨⟨⟨k1,k2⟩,k3⟩,k4⟩,k5⟩,k6⟩:=c5
 have hrel : c.rel (datsOf U (sosL c.inL) ds) (datsOf U (sosL c.outL) es'):=hq.1
 have hd : datsOf U (sosL c.inL) ds=datsOf U (sosL c.inL) es:=by rw [← hds]; exact dats_insts _ _ _ hlen
 rw [hd] at hrel
 have hs3:=hs2.only o3 hf3'
 exact ⟨v,τ2,F2,s3,hp2,vs,fx1,fx2,es',nw,accs,hrunv,ex1.trans (ex2.trans (Ext.only hs2 o3)),hs3,hvs,hf2,fun τ3 F3 gl rest hg=>hl2 τ3 F3 _ (hf3 τ3 F3 gl rest hg),hb2.mono ex2.t,hmt s3 o3.h,
  fun b hb=>liveB_get (k1 b hb),k2,k3,k4,k5,k6,hrel⟩
end
end Go.Sx
end PartSm34
noncomputable section PartSm35
namespace Go.Sx
open Go.Xe
section
variable {P : Program} {U : Nat→List Dat→Dat} {ov : FuncId→Option TypeId}
theorem numF_lo {c : Con} {bl : List Nat} {n i b : Nat} (hi : i < c.blks.length) (h : bl[i]? = some b) : numF c bl n i=b:=by
 unfold numF
 rw [Nat.ble_eq_true_of_le hi,cond_true,List.getD,h]; rfl
theorem numF_hi {c : Con} {bl : List Nat} {n k : Nat} : numF c bl n (c.blks.length+k)=n+k:=by
 unfold numF
 have : Nat.ble (c.blks.length+k+1) c.blks.length=false:=by
  cases h : Nat.ble (c.blks.length+k+1) c.blks.length with
  | false=>rfl
  | true=>have:=Nat.le_of_ble_eq_true h; omega
 rw [this,cond_false,Nat.add_sub_cancel_left]
theorem fst_ok {c : Con} {τ1 : Tau} {F1 : Nat → Option Blk} {s1 : SS} {hp1 : Hp} {bl kill : List Nat} {ds0 : List E} {fv : Nat} {τ' : Tau} {F' : Nat → Option Blk} {s' : SS} {hp' : Hp} {vs : List SV} {fx1 fx2 : List Value} {es ds : List E} {nw accs : List Nat}
  (hs1 : SD P U τ1 F1 s1 hp1) (hbl : bl.length=c.blks.length) (hkl : kill.length=naccL c.inL) (hlv : ∀ b ∈ bl ++ kill,∃ x,s1.get b=some x) (_ : dist (bl ++ kill)=true)
  (hsrc : ∀ b x,(gst c ds0 fv).get b=some x → ∃ b' x',(bl ++ kill)[b]? = some b' ∧ s1.get b' = some x')
  (ex : Ext (tauG τ1 (bl ++ kill)) F1 (gst c ds0 fv) hp1 τ' F' s' hp') (hs : SD P U τ' F' s' hp') (hv : VDL P U τ' F' vs (fx1 ++ fx2)) (hf1 : fx1.length=(lfsV c.res).length) (hb : BX τ' hp' c.post (nums 0 c.blks.length ++ nw) fx2)
  (hm : LsOK P U (nums 0 c.blks.length ++ nw) τ' F' s' c.outL vs es accs) (hl : ∀ b ∈ nums 0 c.blks.length ++ nw,∃ x,s'.get b=some x) (hd : dist (nw ++ accs)=true) (hnw : ∀ b ∈ nw,c.blks.length+naccL c.inL≤b)
  (hac : ∀ b ∈ accs,c.blks.length≤b) (hna : accs.length=naccL c.outL) (hnl : nw.length+c.blks.length=c.post.length) (hsm : sames U (sosL c.outL) es ds) :
  SD P U (tau2 τ1 τ' s1.nx (nw ++ accs)) F' (fst_ c ds s1 bl kill) hp' ∧ Ext τ1 F1 s1 hp1 (tau2 τ1 τ' s1.nx (nw ++ accs)) F' (fst_ c ds s1 bl kill) hp' ∧ VDL P U (tau2 τ1 τ' s1.nx (nw ++ accs)) F' (fvals c ds s1 bl) (fx1 ++ fx2):=by
 have hm0 : c.post.length - c.blks.length=nw.length:=by omega
 have gnx : (gst c ds0 fv).nx=(bl ++ kill).length:=by show c.blks.length+naccL c.inL=_; rw [List.length_append,hbl,hkl]
 have blt : ∀ b x,s1.get b=some x→b < s1.nx:=fun b x h=>hs1.bound h
 have blt1 : ∀ b p,τ1 b=some p→b < s1.nx:=fun b p hb=>Nat.lt_of_not_le fun hle=>by rw [hs1.new b hle] at hb; cases hb
 have lo : ∀ b,b < s1.nx→tau2 τ1 τ' s1.nx (nw ++ accs) b=τ1 b:=fun b hb=>tau2_lo hb
 have nsb : ∀ k b,(bl ++ kill)[k]? = some b→b < s1.nx∧τ' k=τ1 b:=by
  intro k b h
  obtain ⟨x,hx⟩:=hlv b (List.mem_of_getElem? h)
  exact ⟨blt b x hx,by rw [ex.st k (by rw [gnx]; exact (List.getElem?_eq_some_iff.1 h).1),tauG_get h]⟩
 have hnum : ∀ i b,(nums 0 c.blks.length ++ nw)[i]? = some b→tau2 τ1 τ' s1.nx (nw ++ accs) (numF c bl s1.nx i)=τ' b:=by
  intro i b h
  by_cases hi : i < c.blks.length
  ·rw [List.getElem?_append_left (by rw [nums_len]; exact hi),nums_get,if_pos hi,Nat.zero_add] at h
   cases h
   have hbi : bl[i]? = some (bl[i]'(by omega)):=List.getElem?_eq_getElem (by omega)
   have hns : (bl ++ kill)[i]? = some (bl[i]'(by omega)):=by rw [List.getElem?_append_left (by omega)]; exact hbi
   obtain ⟨k1,k2⟩:=nsb i _ hns
   rw [numF_lo hi hbi,lo _ k1,k2]
  ·rw [List.getElem?_append_right (by rw [nums_len]; omega),nums_len] at h
   obtain ⟨k,rfl⟩ : ∃ k,i=c.blks.length+k:=⟨i - c.blks.length,by omega⟩
   rw [Nat.add_sub_cancel_left] at h
   rw [numF_hi]
   exact tau2_hi (by rw [List.getElem?_append_left (List.getElem?_eq_some_iff.1 h).1]; exact h)
 have hacn : ∀ k b,accs[k]? = some b→tau2 τ1 τ' s1.nx (nw ++ accs) (s1.nx+(c.post.length - c.blks.length)+k)=τ' b:=by
  intro k b h
  rw [hm0,Nat.add_assoc]
  exact tau2_hi (by rw [List.getElem?_append_right (by omega),Nat.add_sub_cancel_left]; exact h)
 have hvals : VDL P U (tau2 τ1 τ' s1.nx (nw ++ accs)) F' (fvals c ds s1 bl) (fx1 ++ fx2):=hm.vals hsm hnum hacn hv
 obtain ⟨_,v2⟩:=hvals.split
 rw [hf1] at v2
 have hblk:=hm.blks (nb:=s1.nx+(c.post.length - c.blks.length)) hsm
 have htle : Tle τ1 (tau2 τ1 τ' s1.nx (nw ++ accs)):=fun b p hb=>by rw [lo b (blt1 b p hb)]; exact hb
 have srcs : ∀ k b,(nums 0 c.blks.length ++ (nw ++ accs))[k]? = some b→tau2 τ1 τ' s1.nx (nw ++ accs) (numF c bl s1.nx k)=τ' b:=by
  intro k b h
  by_cases hi : k < c.blks.length
  ·refine hnum k b ?_
   rw [List.getElem?_append_left (by rw [nums_len]; exact hi)] at h ⊢
   exact h
  ·rw [List.getElem?_append_right (by rw [nums_len]; omega),nums_len] at h
   obtain ⟨j,rfl⟩ : ∃ j,k=c.blks.length+j:=⟨k - c.blks.length,by omega⟩
   rw [Nat.add_sub_cancel_left] at h
   rw [numF_hi]
   exact tau2_hi h
 have dsrc : ∀ (k k' : Nat) b,(nums 0 c.blks.length ++ (nw ++ accs))[k]? = some b→(nums 0 c.blks.length ++ (nw ++ accs))[k']? = some b→k=k' := by
  have hge : ∀ b ∈ nw ++ accs,c.blks.length≤b:=fun b hb=>by
   rcases List.mem_append.1 hb with h | h
   ·have:=hnw b h; omega
   ·exact hac b h
  intro k k' b h h'
  by_cases hk : k < c.blks.length
  ·rw [List.getElem?_append_left (by rw [nums_len]; exact hk),nums_get,if_pos hk,Nat.zero_add] at h
   cases h
   by_cases hk' : k' < c.blks.length
   ·rw [List.getElem?_append_left (by rw [nums_len]; exact hk'),nums_get,if_pos hk',Nat.zero_add] at h'
    cases h'; rfl
   ·rw [List.getElem?_append_right (by rw [nums_len]; omega)] at h'
    have:=hge k (List.mem_of_getElem? h')
    omega
  ·rw [List.getElem?_append_right (by rw [nums_len]; omega)] at h
   by_cases hk' : k' < c.blks.length
   ·rw [List.getElem?_append_left (by rw [nums_len]; exact hk'),nums_get,if_pos hk',Nat.zero_add] at h'
    cases h'
    have:=hge k' (List.mem_of_getElem? h)
    omega
   ·rw [List.getElem?_append_right (by rw [nums_len]; omega)] at h'
    have:=dist_get hd _ _ b h h'
    rw [nums_len] at this
    omega
 have cls : ∀ b x, (fst_ c ds s1 bl kill).get b = some x →
   (∃ k b',b=numF c bl s1.nx k∧(nums 0 c.blks.length ++ (nw ++ accs))[k]? = some b' ∧ (∃ x',s'.get b' = some x') ∧
    ((∃ i o Y,τ' b' = some (some (i,o))∧hp'.m.get i=some Y∧F' i=none∧BD P U (tau2 τ1 τ' s1.nx (nw ++ accs)) F' o x Y) ∨ (τ' b' = some none∧RowNil P U x))) ∨
   (b < s1.nx∧b ∉ bl∧b ∉ kill∧s1.get b=some x):=by
  intro b x hbx
  have hbx' : (match lk (mkBl (numF c bl s1.nx) 0 c.post ((fvals c ds s1 bl).drop (lfsV c.res).length) ++ (bldA c.outL ds (s1.nx+(c.post.length - c.blks.length)) ++ (kills (kill ++ [s1.nx]) ++ s1.h))) b with | some x=>x | none=>none)=some x:=hbx
  rw [lk_append,lk_append,lk_append] at hbx'
  cases c1 : lk (mkBl (numF c bl s1.nx) 0 c.post ((fvals c ds s1 bl).drop (lfsV c.res).length)) b with
  | some y =>
   rw [c1] at hbx'
   simp only at hbx'
   subst hbx'
   rw [← List.append_nil ((fvals c ds s1 bl).drop (lfsV c.res).length)] at c1
   obtain ⟨j,bj,X,i,o,Y,e1,e2,e3,_,e5,e6,e7⟩:=mkBl_ok hb v2 c1
   cases e3
   left
   obtain ⟨x',hx'⟩:=hl bj (List.mem_of_getElem? e2)
   have hF : F' i=none:=by
    rcases hs.live bj x' hx' with ⟨i',o',y',k1,_,k3,_⟩ | ⟨k1,_⟩
    ·rw [e5] at k1
     simp only [Option.some.injEq,Prod.mk.injEq] at k1
     rw [k1.1]; exact k3
    ·rw [e5] at k1; cases k1
   refine ⟨j,bj,by rw [e1,Nat.zero_add], ?_,⟨x',hx'⟩, .inl ⟨i,o,Y,e5,e6,hF,e7⟩⟩
   rw [← List.append_assoc,List.getElem?_append_left (List.getElem?_eq_some_iff.1 e2).1]; exact e2
  | none =>
   rw [c1] at hbx'
   simp only at hbx'
   cases c2 : lk (bldA c.outL ds (s1.nx+(c.post.length - c.blks.length))) b with
   | some y =>
    rw [c2] at hbx'
    simp only at hbx'
    subst hbx'
    obtain ⟨k,b',X,x',e1,e2,e3,e4,e5,e6⟩:=hblk b _ c2
    cases e3
    left
    refine ⟨c.blks.length+(nw.length+k),b',by rw [numF_hi,e1,hm0,Nat.add_assoc], ?_,⟨x',e4⟩, ?_⟩
    ·rw [List.getElem?_append_right (by rw [nums_len]; omega),nums_len,Nat.add_sub_cancel_left,List.getElem?_append_right (by omega),Nat.add_sub_cancel_left]; exact e2
    ·rcases hs.live b' x' e4 with ⟨i,o,y,k1,k2,k3,k4⟩ | ⟨k1,k2⟩
     ·exact .inl ⟨i,o,y,k1,k2,k3,e5 _ o y k4⟩
     ·exact .inr ⟨k1,e6 k2⟩
   | none =>
    rw [c2,kills_lk] at hbx'
    simp only at hbx'
    by_cases hk : b ∈ kill ++ [s1.nx]
    ·rw [if_pos hk] at hbx'; cases hbx'
    ·rw [if_neg hk] at hbx'
     have hb1 : s1.get b=some x:=hbx'
     refine .inr ⟨blt b x hb1,fun hbb => ?_,fun h=>hk (List.mem_append_left _ h),hb1⟩
     obtain ⟨i,hi⟩:=List.mem_iff_getElem?.1 hbb
     have hlt : i < c.blks.length:=by have:=(List.getElem?_eq_some_iff.1 hi).1; omega
     have:=mkBl_mem (num:=numF c bl s1.nx) (r:=c.post) (fl:=(fvals c ds s1 bl).drop (lfsV c.res).length) (i0:=0) (j:=i) (by omega)
     rw [Nat.zero_add,numF_lo hlt hi] at this
     exact absurd this (lk_none c1)
 obtain ⟨lg,a1,a2,a3,a4,_⟩:=ex.hh
 have genloc : ∀ b0 x i o,(gst c ds0 fv).get b0=some x→tauG τ1 (bl ++ kill) b0=some (some (i,o)) → ∃ b' x',b' ∈ bl ++ kill∧s1.get b' = some x' ∧ τ1 b' = some (some (i,o)):=by
  intro b0 x i o h0 ht
  obtain ⟨b',x',k1,k2⟩:=hsrc b0 x h0
  rw [tauG_get k1] at ht
  exact ⟨b',x',List.mem_of_getElem? k1,k2,ht⟩
 have locT : ∀ b i o,b < (gst c ds0 fv).nx→τ' b=some (some (i,o)) → ∃ b' x',b' ∈ bl ++ kill∧s1.get b' = some x' ∧ τ1 b' = some (some (i,o)):=by
  intro b i o hb ht
  rw [gnx] at hb
  have hg:=List.getElem?_eq_getElem hb
  obtain ⟨_,k2⟩:=nsb b _ hg
  obtain ⟨x,hx⟩:=hlv _ (List.mem_of_getElem? hg)
  rw [k2] at ht
  exact ⟨_,x,List.mem_of_getElem? hg,hx,ht⟩
 have loc : ∀ b i o,τ' b=some (some (i,o))→hp1.nx≤i ∨ ∃ b' x' o',b' ∈ bl ++ kill∧s1.get b' = some x' ∧ τ1 b' = some (some (i,o')):=by
  intro b i o ht
  by_cases hb : b < (gst c ds0 fv).nx
  ·obtain ⟨b',x',h1,h2,h3⟩:=locT b i o hb ht
   exact .inr ⟨b',x',o,h1,h2,h3⟩
  ·rcases a3 b i o (Nat.le_of_not_lt hb) ht with h | ⟨b0,x,o0,h1,h2,_⟩
   ·exact .inl h
   ·obtain ⟨b',x',k1,k2,k3⟩:=genloc b0 x i o0 h1 h2
    exact .inr ⟨b',x',o0,k1,k2,k3⟩
 have apart : ∀ b x i o c' y o',s1.get b=some x→b ∉ bl→b ∉ kill→τ1 b=some (some (i,o))→c' ∈ bl ++ kill→s1.get c' = some y→τ1 c' = some (some (i,o'))→False:=by
  intro b x i o c' y o' h1 h2 h3 h4 h5 h6 h7
  have hne : b ≠ c' := fun e=>by
   subst e
   rcases List.mem_append.1 h5 with h | h
   ·exact h2 h
   ·exact h3 h
  exact hs1.inj b c' x y i o i o' h1 h6 hne h4 h7 rfl
 have keysB : ∀ b ∈ bl,b ∈ (mkBl (numF c bl s1.nx) 0 c.post ((fvals c ds s1 bl).drop (lfsV c.res).length)).map Prod.fst:=by
  intro b hbb
  obtain ⟨i,hi⟩:=List.mem_iff_getElem?.1 hbb
  have hlt : i < c.blks.length:=by have:=(List.getElem?_eq_some_iff.1 hi).1; omega
  have:=mkBl_mem (num:=numF c bl s1.nx) (r:=c.post) (fl:=(fvals c ds s1 bl).drop (lfsV c.res).length) (i0:=0) (j:=i) (by omega)
  rw [Nat.zero_add,numF_lo hlt hi] at this
  exact this
 have keys : ∀ b ∈ bl ++ kill,b ∈ (mkBl (numF c bl s1.nx) 0 c.post ((fvals c ds s1 bl).drop (lfsV c.res).length) ++ (bldA c.outL ds (s1.nx+(c.post.length - c.blks.length)) ++ kills (kill ++ [s1.nx]))).map Prod.fst:=by
  intro b hbb
  simp only [List.map_append,List.mem_append]
  rcases List.mem_append.1 hbb with h | h
  ·exact .inl (keysB b h)
  ·exact .inr (.inr (List.mem_map.2 ⟨(b,none),lk_mem (by rw [kills_lk,if_pos (List.mem_append_left _ h)]),rfl⟩))
 have untouched : ∀ b x i o,s1.get b=some x→b ∉ bl→b ∉ kill→τ1 b=some (some (i,o))→hp'.m.get i=hp1.m.get i:=by
  intro b x i o h1 h2 h3 h4
  refine a2 i (hs1.lt b i o h4) fun b0 x0 o0 k1 k2 _ => ?_
  obtain ⟨b',x',q1,q2,q3⟩:=genloc b0 x0 i o0 k1 k2
  exact apart b x i o b' x' o0 h1 h2 h3 h4 q1 q2 q3
 refine ⟨⟨fun b x hbx => ?_,fun b b2 x y i o j q hbx hby hne e1 e2 => ?_,hs.frz,fun b i o h => ?_,hs.flt,fun b hle => ?_,hs1.fc,fun r hr=>(hs1.fz r hr).mono htle ex.f⟩,⟨htle,ex.f,ex.nx, ?_,fun b hb=>lo b hb,fun b x hbx hlt => ?_,⟨mkBl (numF c bl s1.nx) 0 c.post ((fvals c ds s1 bl).drop (lfsV c.res).length) ++ (bldA c.outL ds (s1.nx+(c.post.length - c.blks.length)) ++ kills (kill ++ [s1.nx])), ?_,fun i hi hno => ?_,fun b i o hb' ht => ?_,fun i y hi hy => ?_,fun hp=>absurd rfl (hp (s1.nx,none) (List.mem_append_right _ (List.mem_append_right _ (lk_mem (by rw [kills_lk,if_pos (List.mem_append_right _ (by simp))])))))⟩,⟨[],rfl⟩⟩,hvals⟩
 ·rcases cls b x hbx with ⟨k,b',rfl,e2,_,h⟩ | ⟨hlt,hnb,hnk,hb1⟩
  ·rcases h with ⟨i,o,Y,h1,h2,h3,h4⟩ | ⟨h1,h2⟩
   ·exact .inl ⟨i,o,Y,by rw [srcs k b' e2]; exact h1,h2,h3,h4⟩
   ·exact .inr ⟨by rw [srcs k b' e2]; exact h1,h2⟩
  ·rcases hs1.live b x hb1 with ⟨i,o,y,h1,h2,h3,h4⟩ | ⟨h1,h2⟩
   ·refine .inl ⟨i,o,y,by rw [lo b hlt]; exact h1,by rw [untouched b x i o hb1 hnb hnk h1]; exact h2, ?_,h4.mono htle ex.f⟩
    cases hF : F' i with
    | none=>rfl
    | some y' =>
     exfalso
     rcases a4 i y' (hs1.lt b i o h1) hF with h5 | ⟨b0,o0,h5,_⟩
     ·rw [h3] at h5; cases h5
     ·rcases loc b0 i o0 h5 with h6 | ⟨b',x',o',h6,h7,h8⟩
      ·have:=hs1.lt b i o h1; omega
      ·exact apart b x i o b' x' o' hb1 hnb hnk h1 h6 h7 h8
   ·exact .inr ⟨by rw [lo b hlt]; exact h1,h2⟩
 ·have mixed : ∀ {b b2 x y i o j q} {k b' : Nat}, (nums 0 c.blks.length ++ (nw ++ accs))[k]? = some b' → tau2 τ1 τ' s1.nx (nw ++ accs) (numF c bl s1.nx k) = some (some (i, o)) → b = numF c bl s1.nx k → s1.get b2 = some y → b2 < s1.nx → b2 ∉ bl → b2 ∉ kill →
    tau2 τ1 τ' s1.nx (nw ++ accs) b2=some (some (j,q))→i ≠ j∧(x : SBlk)=x:=by
   intro b b2 x y i o j q k b' k1 k2 _ k3 k4 k5 k6 k7
   refine ⟨fun e => ?_,rfl⟩
   subst e
   rw [srcs k b' k1] at k2
   rw [lo b2 k4] at k7
   rcases loc b' i o k2 with h | ⟨b'',x'',o'',h1,h2,h3⟩
   ·have:=hs1.lt b2 i q k7; omega
   ·exact apart b2 y i q b'' x'' o'' k3 k5 k6 k7 h1 h2 h3
  rcases cls b x hbx with ⟨k,b',rfl,k1,⟨x',hx'⟩,_⟩ | ⟨hlt,hnb,hnk,hb1⟩
  ·rcases cls b2 y hby with ⟨k',b2',rfl,k2,⟨y',hy'⟩,_⟩ | ⟨hlt2,hnb2,hnk2,hb2⟩
   ·rw [srcs k b' k1] at e1
    rw [srcs k' b2' k2] at e2
    refine hs.inj b' b2' x' y' i o j q hx' hy' (fun e => ?_) e1 e2
    subst e
    exact hne (by rw [dsrc k k' b' k1 k2])
   ·exact (mixed (b:=numF c bl s1.nx k) (x:=x) k1 e1 rfl hb2 hlt2 hnb2 hnk2 e2).1
  ·rcases cls b2 y hby with ⟨k',b2',rfl,k2,⟨y',hy'⟩,_⟩ | ⟨hlt2,hnb2,hnk2,hb2⟩
   ·exact Ne.symm (mixed (b:=numF c bl s1.nx k') (x:=x) k2 e2 rfl hb1 hlt hnb hnk e1).1
   ·rw [lo b hlt] at e1
    rw [lo b2 hlt2] at e2
    exact hs1.inj b b2 x y i o j q hb1 hb2 hne e1 e2
 ·by_cases hlt : b < s1.nx
  ·rw [lo b hlt] at h
   exact Nat.lt_of_lt_of_le (hs1.lt b i o h) ex.nx
  ·unfold tau2 at h
   rw [if_neg hlt] at h
   split at h
   ·exact hs.lt _ i o h
   ·cases h
 ·have hle : s1.nx+(c.post.length - c.blks.length)+naccL c.outL≤b:=hle
  unfold tau2
  rw [if_neg (by omega),List.getElem?_eq_none (by rw [List.length_append,hna]; omega)]
 ·show s1.nx≤s1.nx+(c.post.length - c.blks.length)+naccL c.outL
  omega
 ·rcases cls b x hbx with ⟨k,b',rfl,k1,_⟩ | ⟨_,_,_,hb1⟩
  ·by_cases hk : k < c.blks.length
   ·have hbi : bl[k]? = some (bl[k]'(by omega)):=List.getElem?_eq_getElem (by omega)
    rw [numF_lo hk hbi] at hlt ⊢
    exact hlv _ (List.mem_append_left _ (List.mem_of_getElem? hbi))
   ·obtain ⟨j,rfl⟩ : ∃ j,k=c.blks.length+j:=⟨k - c.blks.length,by omega⟩
    rw [numF_hi] at hlt
    omega
  ·exact ⟨x,hb1⟩
 ·show mkBl (numF c bl s1.nx) 0 c.post ((fvals c ds s1 bl).drop (lfsV c.res).length) ++ (bldA c.outL ds (s1.nx + (c.post.length - c.blks.length)) ++ (kills (kill ++ [s1.nx]) ++ s1.h)) =
   (mkBl (numF c bl s1.nx) 0 c.post ((fvals c ds s1 bl).drop (lfsV c.res).length) ++ (bldA c.outL ds (s1.nx+(c.post.length - c.blks.length)) ++ kills (kill ++ [s1.nx]))) ++ s1.h
  rw [List.append_assoc,List.append_assoc]
 ·refine a2 i hi fun b0 x0 o0 k1 k2 _ => ?_
  obtain ⟨b',x',q1,q2,q3⟩:=genloc b0 x0 i o0 k1 k2
  exact hno b' x' o0 q2 q3 (keys b' q1)
 ·unfold tau2 at ht
  rw [if_neg (by omega)] at ht
  split at ht
  ·rcases loc _ i o ht with h | ⟨b',x',o',h1,h2,h3⟩
   ·exact .inl h
   ·exact .inr ⟨b',x',o',h2,h3,keys b' h1⟩
  ·cases ht
 ·rcases a4 i y hi hy with h | ⟨b0,o0,h5,_⟩
  ·exact .inl h
  ·rcases loc b0 i o0 h5 with h6 | ⟨b',x',o',h6,h7,h8⟩
   ·omega
   ·exact .inr ⟨b',o',by rw [lo b' (blt b' x' h7)]; exact h8,keys b' h6⟩
theorem kcon_ok {c : Con} {g : FuncId} (hg : RightG P U ov c g) : RunRight P U ov (kcon P U c) g:=by
 intro l args τ F s hp hl hs Q hq _
 unfold kcon at hq
 simp only [mread] at hq
 cases c1 : flVs c.args l with
 | none=>rw [c1] at hq; exact hq.elim
 | some fl1 =>
 rw [c1] at hq
 simp only at hq
 cases c2 : c.find l s with
 | none=>rw [c2] at hq; exact hq.elim
 | some bl =>
 rw [c2] at hq
 simp only at hq
 cases c3 : clBl s c.blks bl with
 | none=>rw [c3] at hq; exact hq.elim
 | some fl2 =>
 rw [c3] at hq
 simp only at hq
 obtain ⟨fx1,hf1,hf2,hf3⟩:=flVs_ok c1 hl
 obtain ⟨fx2,hb1,hb2⟩:=clBl_ok hs c3
 rw [vc_mbind] at hq
 obtain ⟨vs,s2,hq,τ2,F2,hp2,ex2,hs2,rfl,hvs⟩:=normL_ok c.inL (fl1 ++ fl2) (fx1 ++ fx2) τ F s hp (hf1.append hb1) hs _ hq hs
 rw [vc_mbind] at hq
 obtain ⟨⟨es,accs⟩,s3,hq,o3,hf3',hmt⟩:=mtL_ok (P:=P) (τ:=τ2) (F:=F2) bl c.inL vs s2 _ hq hs2.fc
 simp only [mread] at hq
 cases c5 : bl.all (liveB s3) && dist (bl ++ accs) && Nat.beq accs.length (naccL c.inL) && Nat.ble c.blks.length c.post.length with
 | false=>rw [c5] at hq; exact hq.elim
 | true =>
 rw [c5] at hq
 simp only [Bool.and_eq_true,List.all_eq_true,Nat.ble_eq,Nat.beq_eq] at c5
 obtain ⟨⟨⟨k1,k2⟩,k3⟩,k4⟩:=c5
 have hs3:=hs2.only o3 hf3'
 have hm:=hmt s3 o3.h
 have hlen:=hm.len
 have hpre : c.pre (datsOf U (sosL c.inL) es):=hq.1
 have hlive : ∀ b ∈ bl,∃ x,s3.get b=some x:=fun b hb=>liveB_get (k1 b hb)
 have hb3:=hb2.mono ex2.t
 obtain ⟨g1,g2,g3⟩:=gst_ok (fv:=(sosL c.inL).length) hs3 hvs hf2 hb3 hm k2 hlive k3 (sames_insts (sosL c.inL) 0 es hlen)
 have hargs : VDL P U (tauG τ2 (bl ++ accs)) F2 (gargs c (insts U (sosL c.inL) 0 es)) args:=by
  obtain ⟨w1,_⟩:=g2.split
  have:=hf3 _ _ _ ((gvals c (insts U (sosL c.inL) 0 es)).drop fx1.length) w1
  rw [List.take_append_drop] at this
  exact this
 obtain ⟨v,τ',F',s',hp',vs',fx1',fx2',es',nw,accs',r1,r2,r3,r4,r5,r6,r7,r8,r9,r10,r11,r12,r13,r14,r15⟩:=hg es hlen hpre _ F2 hp2 args g1 hargs
 have hlen' := r8.len
 have hQ:=allN_vc (U:=U) _ _ _ (hq.2 hpre) es' hlen' (by rw [dats_insts _ _ _ hlen']; exact r15)
 have hlv : ∀ b ∈ bl ++ accs,∃ x,s3.get b=some x:=fun b hb=>by
  rcases List.mem_append.1 hb with h | h
  ·exact hlive b h
  ·obtain ⟨k,hk⟩:=List.mem_iff_getElem?.1 h
   exact hm.live hk
 obtain ⟨f1,f2,f3⟩:=fst_ok (U:=U) hs3 hb3.len.1 k3 hlv k2 g3 r2 r3 r4 r5 r7 r8 r9 r10 r11 r12 r13 r14 (sames_insts (sosL c.outL) s3.fv es' hlen')
 refine ⟨_,_,hQ,_,F',hp',(ex2.trans (Ext.only hs2 o3)).trans f2,f1,v,r1, ?_⟩
 obtain ⟨w1,_⟩:=f3.split
 have:=r6 _ _ _ ((fvals c (insts U (sosL c.outL) s3.fv es') s3 bl).drop fx1'.length) w1
 rw [List.take_append_drop] at this
 exact this
end
def conOf (P : Program) (U : Nat→List Dat→Dat) : List (FuncId × Con)→FuncId→Option (List SV→M SV)
 | [],_=>none
 | p :: l,g=>bif Nat.beq p.1 g then some (kcon P U p.2) else conOf P U l g
section
variable {P : Program} {U : Nat→List Dat→Dat} {ov : FuncId→Option TypeId}
variable (P U ov) in
def AllG : List (FuncId × Con)→Prop
 | []=>True
 | p :: l=>RightG P U ov p.2 p.1∧AllG l
theorem conOf_ok : ∀ {l : List (FuncId × Con)},AllG P U ov l → ∀ g k,conOf P U l g=some k→RunRight P U ov k g
 | [],_,g,k,h=>by cases h
 | p :: l,ha,g,k,h=>by
  unfold conOf at h
  cases hb : Nat.beq p.1 g with
  | true =>
   rw [hb,cond_true,Option.some.injEq] at h
   rw [← h,← Nat.eq_of_beq_eq_true hb]
   exact kcon_ok ha.1
  | false=>rw [hb,cond_false] at h; exact conOf_ok ha.2 g k h
theorem noT {C : FuncId→Prop} : ∀ g,isT (noOv g)=true→C g:=fun _ h=>Bool.noConfusion (show false=true from h)
theorem ovNT {a : FuncId} {t : TypeId} {rest : FuncId→Option TypeId} (h : isT (some t)=false) (hr : ∀ g,isT (rest g)=false) : ∀ g,isT (ovIf a t rest g)=false:=by
 intro g
 unfold ovIf
 cases hb : Nat.beq g a with
 | true=>rw [cond_true]; exact h
 | false=>rw [cond_false]; exact hr g
theorem conT {L : FuncId} {rest : FuncId → Option TypeId} {con : FuncId → Option (List SV → M SV)} (h : (con L).isSome = true)
  (hr : ∀ g,isT (rest g)=false:=by first | exact fun _=>rfl | exact ovNT rfl (fun _=>rfl) | exact ovNT rfl (ovNT rfl (fun _=>rfl)) | exact ovNT rfl (ovNT rfl (ovNT rfl (fun _=>rfl)))) : ∀ g,isT (ovIf L tTrue rest g)=true→con g ≠ none:=by
 intro g hg e
 unfold ovIf at hg
 cases hb : Nat.beq g L with
 | true=>rw [← Nat.eq_of_beq_eq_true hb,e] at h; cases h
 | false=>rw [hb,cond_false,hr g] at hg; cases hg
theorem rightG_vc (anns : FuncId → List (Nat × (Fm → SS → LAnn))) {l : List (FuncId × Con)} (ha : AllG P U ov l) (n : Nat) {g : FuncId} {c : Con} (h : (cvc P U c (sxF P U anns (conOf P U l) n g)).vc U fun _ => True)
  (hT : ∀ g,isT (ov g)=true→conOf P U l g ≠ none:=by exact noT) (hg : isT (ov g)=false:=by rfl) : RightG P U ov c g :=
 rightG_of (sxF_ok anns (conOf_ok ha) hT n g hg) h
theorem rightG_eq (anns : FuncId → List (Nat × (Fm → SS → LAnn))) {l : List (FuncId × Con)} (ha : AllG P U ov l) (n : Nat) {g : FuncId} {c : Con} {V : Prop} (he : (cvc P U c (sxF P U anns (conOf P U l) n g)).vc U (fun _ => True) = V) (hv : V)
  (hT : ∀ g,isT (ov g)=true→conOf P U l g ≠ none:=by exact noT) (hg : isT (ov g)=false:=by rfl) : RightG P U ov c g :=
 rightG_vc anns ha n (he.symm ▸ hv) hT hg
end
end Go.Sx
end PartSm35
noncomputable section PartSm36
namespace Go.Sx
open Go.Xe Go.RowKit
section
variable {P : Program} {U : Nat→List Dat→Dat} {ov : FuncId→Option TypeId}
theorem law_calls (hm : P.follows .mixedOrders = true) (hov : ∀ g t, ov g = some t → OvOK P g t) {c : Con} {f : FuncId} (hg : RightG P U ov c f) (h1 : c.blks = []) (h2 : c.res = [.one (.g .bool)]) (h3 : c.post = []) (hrel : ∀ d e, c.rel d e → e = [.bool true])
  (ha : naccL c.inL=0) (hA : ∀ nb ds,bldA c.inL ds nb=[]) {es : List E} (hlen : es.length=(sosL c.inL).length) (hpre : c.pre (datsOf U (sosL c.inL) es)) {xs ys : List Value} {w : World}
  (hl : VDL P U (fun _=>none) (roF w) (gargs c (insts U (sosL c.inL) 0 es)) xs) (hx : VRL (roSg w) xs ys) :
  Calls P f ys.toArray w fun e w' => e = .returned (.bool true)∧Below w.heap.size w w' := by
 have hgst : gst c (insts U (sosL c.inL) 0 es) (sosL c.inL).length=⟨[],0,[],(sosL c.inL).length,[]⟩:=by
  unfold gst
  rw [hA,h1,ha]; rfl
 have hs : SD P U (fun _=>none) (roF w) (gst c (insts U (sosL c.inL) 0 es) (sosL c.inL).length) (roHp w):=by
  rw [hgst]
  exact ⟨fun b x hb=>(by cases hb),fun b c x y i o j q hb=>(by cases hb),fun i b h=>(roF_ok w i b h).1,fun b i o h=>(by cases h),fun i b h=>(roF_ok w i b h).2,fun b _=>rfl,fun c t h=>(by simp at h),fun r h=>(by simp at h)⟩
 obtain ⟨v,τ',F',s',hp',vs,fx1,fx2,es',nw,accs,⟨n0,hr⟩,_,_,r4,r5,r6,r7,r8,_,_,_,_,_,_,r15⟩:=hg es hlen hpre _ _ _ xs hs hl
 have hee:=hrel _ _ r15
 have hout : c.outL=[.g .bool]:=by unfold Con.outL; rw [h2,h3]; rfl
 have hfx2 : fx2=[]:=by
  have:=r7.len.2
  rw [h3] at this
  exact List.eq_nil_of_length_eq_zero this
 subst hfx2
 rw [List.append_nil] at r4
 rw [hout] at r8 hee
 have hsm:=sames_insts (U:=U) (sosL [.g .bool]) 0 es' r8.len
 have hd : ∃ e,es' = [e]∧(e.den U).toBool=true:=by
  have:=r8.len
  cases es' with
  | nil=>simp [sosL,Lf.so,G.so,pushO] at this
  | cons e es'' =>
   have hnil : es'' = []:=by
    have : es''.length=0:=by simpa [sosL,Lf.so,G.so,pushO] using this
    exact List.eq_nil_of_length_eq_zero this
   subst hnil
   refine ⟨e,rfl, ?_⟩
   have h : [Dat.bool (e.den U).toBool]=[Dat.bool true]:=hee
   simpa using h
 obtain ⟨e,rfl,he⟩:=hd
 have hvl : VD P U τ' F' (.bool e) v:=by
  cases vs with
  | nil=>exact r8.elim
  | cons a vs' =>
   obtain ⟨r,es'',bs',e1,e2,hm1,hms⟩:=r8
   cases vs' with
   | cons b vs'' => exact hms.elim
   | nil =>
    obtain ⟨rfl,rfl⟩:=hms
    obtain ⟨y,ys',rfl,hy,hys⟩:=r4.uncons
    have hz : ys' = []:=List.eq_nil_of_length_eq_zero hys.1.symm
    subst hz
    obtain ⟨e0,he0⟩:=hm1.1 .b rfl
    have h5:=hm1.2.2.2.1 y hy τ' (fun i=>(nums 0 c.blks.length ++ nw).getD i 0) 0 e (fun i b hb=>by rw [List.getD,hb]; rfl) (fun e2 so he2 hso=>by
     rw [he2] at e1
     have : e=e2:=by simpa [pushO] using e1
     subst this
     cases so <;> rfl) (fun b hb=>by
      have:=hm1.2.2.1 rfl
      rw [this] at hb; cases hb)
    have h6:=r6 τ' F' [.bool e] [] (.cons h5 .nil)
    rw [h2] at h6
    exact h6
 cases hvl
 rw [he] at hr
 refine ((exec_ok hm hov n0).run f xs (roHp w) _ hp' (hr n0 (Nat.le_refl _)) (BS.ro w) w (roSg w) w ys hx (HR.ro w)).mono fun e w' he => ?_
 obtain ⟨σ',u,rfl,_,hv,hw'⟩:=he
 cases hv
 exact ⟨rfl,HR.roBelow hw'⟩
end
end Go.Sx
end PartSm36
noncomputable section PartSm37
namespace Go.Sx
open Go.Xe
structure Jn where
 name : String
 gh : List SV→SS→List (So × E)
 one : Bool
 res : List (Option IntKind)
 rel : List Dat→List Dat→Prop
section
variable {P : Program} {U : Nat→List Dat→Dat} {ov : FuncId→Option TypeId}
end
section
variable {P : Program} {U : Nat→List Dat→Dat}
def yesM : List SV→M SV:=fun l=>match l with
 | []=>mret (.bool (.bool true))
 | _=>mfail "an argument"
def yesRel (_ e : List Dat) : Prop:=e=[.bool true]
def cYes (n : String) : Con:=⟨n,[],[],fun _ _=>some [],fun d=>d=[],[.one (.g .bool)],[],fun _ _=>some [],yesRel⟩
theorem yes_right {ov : FuncId→Option TypeId} {L : FuncId} (h : isT (ov L)=true) (n : String) : RightG P U ov (cYes n) L:=by
 refine rightG_of (run:=yesM) (fun l args τ F s hp hl hs => ?_) fun _=>⟨rfl,fun _=>trivial⟩
 cases l with
 | cons a l=>exact OKh.fail
 | nil =>
  obtain rfl : args=[]:=List.eq_nil_of_length_eq_zero hl.1.symm
  refine OKh.ret ⟨Value.bool true,⟨1,fun m hm => ?_⟩,VD.bool (.bool true)⟩
  obtain ⟨m,rfl⟩ : ∃ k,m=k+1:=⟨m - 1,by omega⟩
  show (bif isT (ov L) && ([] : List Value).isEmpty then some (Value.bool true,hp) else _)=some (Value.bool true,hp)
  rw [h]; rfl
end
end Go.Sx
end PartSm37
namespace Go.Sx
def shrI (k : IntKind) (a b : Int) : Int:=a.fdiv (2 ^ (min b.toNat k.bits))
theorem need_twice {p q : Prop} : (p∧(p→p∧(p→q))) ↔ (p∧(p→q)):=⟨fun h=>⟨h.1,fun x=>(h.2 x).2 x⟩,fun h=>⟨h.1,fun x=>⟨x,h.2⟩⟩⟩
theorem need_known {p q : Prop} : (p→p∧(p→q)) ↔ (p→q):=⟨fun h x=>(h x).2 x,fun h x=>⟨x,h⟩⟩
theorem toInt_int (n : Int) : (Dat.int n).toInt=n:=rfl
theorem toBool_bool (b : Bool) : (Dat.bool b).toBool=b:=rfl
section
variable {α : Type} {f : α→List Dat}
theorem cellAt_map {T : List α} {i : Int} {s : α} (h : T[i.toNat]? = some s) (j : Nat) : cellAt (T.map f) i j=(f s).getD j (.int 0):=by
 unfold cellAt
 rw [show (T.map f).getD i.toNat []=f s by rw [List.getD_eq_getElem?_getD,List.getElem?_map,h]; rfl]
theorem get_at {T : List α} {i : Int} (h0 : 0≤i) (h1 : i < (T.length : Int)) : ∃ o,T[i.toNat]? = some o:=⟨_,List.getElem?_eq_getElem (by omega)⟩
theorem part_map {l : List α} {a n : Int} : Sx.part (l.map f) a n=((l.drop a.toNat).take n.toNat).map f:=by
 unfold Sx.part; rw [← List.map_drop,← List.map_take]
theorem map_inj_of {β : Type} {f : α→β} (hf : ∀ a b,f a=f b→a=b) : ∀ {l m : List α},l.map f=m.map f→l=m
 | [],[],_=>rfl
 | [],b :: m,h=>by simp at h
 | a :: l,[],h=>by simp at h
 | a :: l,b :: m,h=>by
  simp only [List.map_cons,List.cons.injEq] at h
  rw [hf a b h.1,map_inj_of hf h.2]
end
theorem take_succ_at {α : Type} {l : List α} {k : Nat} {a : α} (h : l[k]? = some a) : l.take (k+1)=l.take k ++ [a]:=by
 rw [List.take_add_one,h]; rfl
theorem drop_at {α : Type} {l : List α} {k : Nat} {a : α} (h : l[k]? = some a) : l.drop k=a :: l.drop (k+1):=by
 have hk:=(List.getElem?_eq_some_iff.1 h).1
 rw [List.drop_eq_getElem_cons hk,(List.getElem?_eq_some_iff.1 h).2]
theorem toNat_succ {k : Int} (h : 0≤k) : (k+1).toNat=k.toNat+1:=by omega
theorem keyR_mk {k : List Int} {n : Nat} (h : k.length=n) (v : Dat) : keyR n (k.map Dat.int ++ [v])=k:=by
 unfold keyR
 rw [List.take_left' (by rw [List.length_map]; exact h),List.map_map]; exact List.map_id' k
theorem valR_mk {k : List Int} {n : Nat} (h : k.length=n) (v : Dat) : (k.map Dat.int ++ [v]).getD n (.int 0)=v:=by
 rw [List.getD_eq_getElem?_getD,List.getElem?_append_right (by rw [List.length_map]; omega),List.length_map,show n - k.length=0 by omega]; rfl
theorem mget_mput (k x : List Int) (h : k.length=x.length) (v d : Dat) : ∀ M : Rows,mgetR (mputR M k v) x d=if x=k then v else mgetR M x d
 | []=>by
  unfold mputR mgetR
  rw [keyR_mk h,valR_mk h]
  by_cases e : x=k
  ·subst e; rw [if_pos rfl,if_pos rfl]
  ·rw [if_neg e,if_neg (show ¬ k=x from fun c=>e c.symm)]; rfl
 | r :: M=>by
  unfold mputR
  by_cases hr : keyR k.length r=k
  ·rw [if_pos hr]
   unfold mgetR
   rw [keyR_mk h,valR_mk h,← h,hr]
   by_cases e : x=k
   ·subst e; rw [if_pos rfl,if_pos rfl]
   ·rw [if_neg e,if_neg (show ¬ k=x from fun c=>e c.symm),if_neg (show ¬ k=x from fun c=>e c.symm)]
  ·rw [if_neg hr]
   unfold mgetR
   by_cases e : keyR x.length r=x
   ·rw [if_pos e,if_pos e,if_neg (fun c=>hr (by rw [h,e,c]))]
   ·rw [if_neg e,if_neg e]; exact mget_mput k x h v d M
end Go.Sx
set_option linter.unusedVariables false
noncomputable section PartSm39
namespace Go.Sx
open Go.Xe
def numK : Kd→Bool
 | .int _=>true
 | .bool=>true
 | .str=>true
 | _=>false
theorem PV.num {P : Program} {F F' : Nat→Option Blk} {k : Kd} {v : Value} {d : Dat} (hk : numK k=true) (p : PV P F k v d) : PV P F' k v d:=by
 cases p with
 | int k n=>exact .int k n
 | bool b=>exact .bool b
 | str s=>exact .str s
 | nils e=>cases hk
 | vague e=>cases hk
 | _=>cases hk
section
variable {P : Program} {U : Nat→List Dat→Dat} {ov : FuncId→Option TypeId}
def pureE (P : Program) (s : SS) (a : SV) (s1 : SS) : Tr (SV × SS):=match a,s1.h with
 | .sl b z o n c,(k,some (.rows L e z' ph)) :: (k2,none) :: h =>
  bif Nat.beq h.length s.h.length && Nat.beq k2 k && Nat.ble s.nx k && (kf P e).all numK then .ret (.sl b z o n c,⟨(k,some (.rows L e z' ph)) :: s.h,s1.nx,s1.fc,s1.fv,s.fz⟩) else .ret (.sl b z o n c,s1)
 | a,_ => .ret (a,s1)
def pureR (P : Program) (run : List SV→M SV) : List SV→M SV:=fun l s=>(run l s).bind fun r=>pureE P s r.1 r.2
theorem pureR_ok {run : List SV→M SV} {g : FuncId} (hr : RunRight P U ov run g) : RunRight P U ov (pureR P run) g:=by
 intro l args τ F s hp hl hs Q hq _
 unfold pureR at hq
 rw [Tr.vc_bind] at hq
 obtain ⟨a,s1,h1,τ1,F1,hp1,ex,hs1,v,hx,hv⟩:=hr l args τ F s hp hl hs _ hq hs
 simp only at h1
 unfold pureE at h1
 split at h1
 ·rename_i b z o n c k L e z' ph k2 h hh
  cases hc : Nat.beq h.length s.h.length && Nat.beq k2 k && Nat.ble s.nx k && (kf P e).all numK with
  | false=>rw [hc] at h1; exact ⟨_,_,h1,τ1,F1,hp1,ex,hs1,v,hx,hv⟩
  | true =>
   rw [hc] at h1
   simp only [Bool.and_eq_true,Nat.beq_eq,Nat.ble_eq,List.all_eq_true] at hc
   obtain ⟨⟨⟨c1,c2⟩,c3⟩,c4⟩:=hc
   subst k2
   obtain ⟨lg,a1,a2,a3,a4,a5⟩:=ex.hh
   rw [hh] at a1
   have a1' : [(k,some (SBlk.rows L e z' ph)),(k,none)] ++ h=lg ++ s.h:=a1
   obtain ⟨e1,e2⟩:=List.append_inj' a1' c1
   subst e1
   subst e2
   have get : ∀ b,(⟨(k,some (.rows L e z' ph)) :: s.h,s1.nx,s1.fc,s1.fv,s.fz⟩ : SS).get b=s1.get b:=fun b=>by
    unfold SS.get
    rw [hh,lk_cons,lk_cons,lk_cons]
    by_cases hb : k=b
    ·rw [if_pos hb,if_pos hb]
    ·rw [if_neg hb,if_neg hb,if_neg hb]
   have old : ∀ b x,s1.get b=some x→k ≠ b→s.get b=some x:=fun b x hb hne=>by
    rw [← get] at hb
    unfold SS.get at hb ⊢
    rw [lk_cons,if_neg hne] at hb
    exact hb
   have new : ∀ b x,s.get b=some x→b ∈ [(k,some (SBlk.rows L e z' ph)),(k,none)].map Prod.fst→False:=fun b x hb hm=>by
    have:=hs.bound hb
    simp only [List.map_cons,List.map_nil,List.mem_cons,List.not_mem_nil,or_false,or_self] at hm
    omega
   refine ⟨_,_,h1,τ1,F,hp1,⟨ex.t,Fle.refl F,ex.nx,ex.snx,ex.st,fun b x hb hlt=>ex.low b x (by rw [← get]; exact hb) hlt,⟨[(k,some (.rows L e z' ph))],rfl,fun i hi hno=>a2 i hi fun b x o p1 p2 p3=>new b x p1 p3,fun b i o hb ht => ?_,fun i y hi hy => .inl hy,fun _ i y hy=>hy⟩,ex.hf⟩,
    ⟨fun b x hb => ?_,fun b c x y i o j q hb hc=>hs1.inj b c x y i o j q (by rw [← get]; exact hb) (by rw [← get]; exact hc),fun i b hF=>hs1.frz i b (ex.f i b hF),hs1.lt,fun i b hF=>hs1.flt i b (ex.f i b hF),hs1.new,hs1.fc,fun r hr=>(hs.fz r hr).mono ex.t (Fle.refl F)⟩,v,hx, ?_⟩
   ·rcases a3 b i o hb ht with h | ⟨b0,x,o0,h1,h2,h3⟩
    ·exact .inl h
    ·exact (new b0 x h1 h3).elim
   ·rw [get] at hb
    by_cases hk : k=b
    ·subst hk
     have hx : x = .rows L e z' ph:=by
      rw [← get] at hb
      unfold SS.get at hb
      rw [lk_cons,if_pos rfl] at hb
      exact (Option.some.inj hb).symm
     subst hx
     rcases hs1.live k _ hb with ⟨i,o,y,p1,p2,p3,cs,n,q1,⟨r1,r2,r3,r4⟩,q3⟩ | p
     ·refine .inl ⟨i,o,y,p1,p2, ?_,cs,n,q1,⟨r1,r2,r3,fun r j row d hr hd => ?_⟩,q3⟩
      ·cases hF : F i with
       | none=>rfl
       | some y' => rw [ex.f i y' hF] at p3; cases p3
      ·obtain ⟨x,t1,t2⟩:=r4 r j row d hr hd
       exact ⟨x,t1,fun kd hkd=>(t2 kd hkd).num (c4 kd (List.mem_of_getElem? hkd))⟩
     ·exact .inr p
    ·have hb0:=old b x hb hk
     rcases hs.live b x hb0 with ⟨i,o,y,p1,p2,p3,p4⟩ | ⟨p1,p2⟩
     ·exact .inl ⟨i,o,y,ex.t _ _ p1,by rw [a2 i (hs.lt b i o p1) fun b x o p1 p2 p3=>new b x p1 p3]; exact p2,p3,p4.mono ex.t (Fle.refl F)⟩
     ·exact .inr ⟨ex.t _ _ p1,p2⟩
   ·cases hv with
    | sl _ _ _ _ _ i o c h h0 h1 hc=>exact .sl _ _ _ _ _ i o c h h0 h1 hc
    | sl0 _ _ _ _ _ h h0 h1 hc=>exact .sl0 _ _ _ _ _ h h0 h1 hc
 ·exact ⟨_,_,h1,τ1,F1,hp1,ex,hs1,v,hx,hv⟩
variable (P U) in
def conP (l : List (FuncId × Con)) (g : FuncId) : Option (List SV→M SV):=match conOf P U l g with
 | some k=>some (pureR P k)
 | none=>none
end
end Go.Sx
end PartSm39
set_option linter.unusedVariables false
noncomputable section PartSm40
namespace Go.Sx
open Go.Xe
def Con.below (c : Con) (mu : List Dat→Nat) (n : Nat) : Con := { c with pre:=fun d=>c.pre d∧mu d < n }
section
variable {P : Program} {U : Nat→List Dat→Dat} {ov : FuncId→Option TypeId}
end
end Go.Sx
end PartSm40
set_option linter.unusedVariables false
noncomputable section PartSm45
namespace Go.Sx
open Go.Xe
mutual
def noFv (n : Nat) : SV→Bool
 | .any=>true
 | .int _ _=>true
 | .bool _=>true
 | .str _=>true
 | .nilp=>true
 | .nils=>true
 | .sl _ _ _ _ _=>true
 | .agg l=>noFvs n l
 | .tup l=>noFvs n l
 | _=>false
def noFvs (n : Nat) : List SV→Bool
 | []=>true
 | a :: l=>noFv n a && noFvs n l
end
theorem noFvs_get {n : Nat} : ∀ {l : List SV},noFvs n l=true → ∀ {i : Nat} {a : SV},l[i]? = some a→noFv n a=true
 | [],_,i,a,h=>by simp at h
 | b :: l,h,0,a,ha=>by
  unfold noFvs at h
  rw [Bool.and_eq_true] at h
  simp only [List.getElem?_cons_zero,Option.some.injEq] at ha
  rw [← ha]; exact h.1
 | b :: l,h,i+1,a,ha=>by
  unfold noFvs at h
  rw [Bool.and_eq_true] at h
  exact noFvs_get h.2 (by simpa using ha)
section
variable {P : Program} {U : Nat→List Dat→Dat} {ov : FuncId→Option TypeId}
theorem VD.noF {n : Nat} {τ : Tau} {F F' : Nat→Option Blk} {a : SV} {v : Value} (h : VD P U τ F a v) (hn : noFv n a=true) : VD P U τ F' a v:=by
 induction h with
 | any v=>exact .any v
 | int k e=>exact .int k e
 | bool e=>exact .bool e
 | str e=>exact .str e
 | nilp=>exact .nilp
 | nils=>exact .nils
 | sl b z off len cap i o c k h0 h1 hc=>exact .sl b z off len cap i o c k h0 h1 hc
 | sl0 b z off len cap k h0 h1 hc=>exact .sl0 b z off len cap k h0 h1 hc
 | agg l xs h1 _ ih=>exact .agg l xs h1 fun i a x ha hx=>ih i a x ha hx (noFvs_get (by unfold noFv at hn; exact hn) ha)
 | tup l xs h1 _ ih=>exact .tup l xs h1 fun i a x ha hx=>ih i a x ha hx (noFvs_get (by unfold noFv at hn; exact hn) ha)
 | _=>simp [noFv] at hn
def newB (n : Nat) : List (Nat × Option SBlk)→List (Nat × Option SBlk)
 | []=>[]
 | p :: l=>bif Nat.ble n p.1 then p :: newB n l else newB n l
theorem newB_lk {n b : Nat} : ∀ {l : List (Nat × Option SBlk)},lk (newB n l) b=if n≤b then lk l b else none
 | []=>by simp [newB,lk]
 | p :: l=>by
  unfold newB
  cases hc : Nat.ble n p.1 with
  | true =>
   rw [cond_true,lk_cons,lk_cons,newB_lk]
   have:=Nat.le_of_ble_eq_true hc
   by_cases e : p.1=b
   ·rw [if_pos e,if_pos e,if_pos (by omega)]
   ·rw [if_neg e,if_neg e]
  | false =>
   rw [cond_false,newB_lk,lk_cons]
   by_cases e : p.1=b
   ·rw [if_neg (fun h=>by rw [Nat.ble_eq_true_of_le (by omega)] at hc; cases hc),if_neg (fun h=>by rw [Nat.ble_eq_true_of_le (by omega)] at hc; cases hc)]
   ·rw [if_neg e]
def numB (P : Program) (p : Nat × Option SBlk) : Bool:=match p.2 with
 | some (.rows _ e _ _)=>(kf P e).all numK
 | some _=>false
 | none=>true
variable (P U) in
def lendE (c : Con) (s : SS) (r : SV × SS) : Tr (SV × SS) :=
 bif Nat.beq r.2.nx (s.nx+c.post.length+naccL c.outL) && c.blks.isEmpty && Nat.beq (naccL c.inL) 0 && noFv 0 r.1 && (newB s.nx (r.2.h.take (r.2.h.length - s.h.length))).all (numB P) then
  .ret (r.1,⟨newB s.nx (r.2.h.take (r.2.h.length - s.h.length)) ++ s.h,r.2.nx,r.2.fc,r.2.fv,s.fz⟩)
 else .ret r
variable (P U) in
def kconL (c : Con) (l : List SV) : M SV:=fun s=>(kcon P U c l s).bind (lendE P c s)
theorem kconL_ok {c : Con} {g : FuncId} (hg : RightG P U ov c g) : RunRight P U ov (kconL P U c) g := by
 intro l args τ F s hp hl hs Q hq _
 unfold kconL at hq
 rw [Tr.vc_bind] at hq
 have hbig : ∃ a s', Tr.vc U (lendE P c s (a, s')) Q ∧ ∃ τ1 F1 hp1 v, Ext τ F s hp τ1 F1 s' hp1 ∧ SD P U τ1 F1 s' hp1 ∧ XRun P ov g args hp v hp1 ∧ VD P U τ1 F1 a v ∧
   (c.blks=[]→naccL c.inL=0→s'.nx=s.nx+c.post.length+naccL c.outL→(∀ i,i < hp.nx→hp1.m.get i=hp.m.get i) ∧ ∀ b i o,s.nx≤b→τ1 b=some (some (i,o))→hp.nx≤i):=by
  unfold kcon at hq
  simp only [mread] at hq
  cases c1 : flVs c.args l with
  | none=>rw [c1] at hq; exact hq.elim
  | some fl1 =>
  rw [c1] at hq
  simp only at hq
  cases c2 : c.find l s with
  | none=>rw [c2] at hq; exact hq.elim
  | some bl =>
  rw [c2] at hq
  simp only at hq
  cases c3 : clBl s c.blks bl with
  | none=>rw [c3] at hq; exact hq.elim
  | some fl2 =>
  rw [c3] at hq
  simp only at hq
  obtain ⟨fx1,hf1,hf2,hf3⟩:=flVs_ok c1 hl
  obtain ⟨fx2,hb1,hb2⟩:=clBl_ok hs c3
  rw [vc_mbind] at hq
  obtain ⟨vs,s2,hq,τ2,F2,hp2,ex2,hs2,rfl,hvs⟩:=normL_ok c.inL (fl1 ++ fl2) (fx1 ++ fx2) τ F s hp (hf1.append hb1) hs _ hq hs
  rw [vc_mbind] at hq
  obtain ⟨⟨es,accs⟩,s3,hq,o3,hf3',hmt⟩:=mtL_ok (P:=P) (τ:=τ2) (F:=F2) bl c.inL vs s2 _ hq hs2.fc
  simp only [mread] at hq
  cases c5 : bl.all (liveB s3) && dist (bl ++ accs) && Nat.beq accs.length (naccL c.inL) && Nat.ble c.blks.length c.post.length with
  | false=>rw [c5] at hq; exact hq.elim
  | true =>
  rw [c5] at hq
  simp only [Bool.and_eq_true,List.all_eq_true,Nat.ble_eq,Nat.beq_eq] at c5
  obtain ⟨⟨⟨k1,k2⟩,k3⟩,k4⟩:=c5
  have hs3:=hs2.only o3 hf3'
  have hm:=hmt s3 o3.h
  have hlen:=hm.len
  have hpre : c.pre (datsOf U (sosL c.inL) es):=hq.1
  have hlive : ∀ b ∈ bl,∃ x,s3.get b=some x:=fun b hb=>liveB_get (k1 b hb)
  have hb3:=hb2.mono ex2.t
  obtain ⟨g1,g2,g3⟩:=gst_ok (fv:=(sosL c.inL).length) hs3 hvs hf2 hb3 hm k2 hlive k3 (sames_insts (sosL c.inL) 0 es hlen)
  have hargs : VDL P U (tauG τ2 (bl ++ accs)) F2 (gargs c (insts U (sosL c.inL) 0 es)) args:=by
   obtain ⟨w1,_⟩:=g2.split
   have:=hf3 _ _ _ ((gvals c (insts U (sosL c.inL) 0 es)).drop fx1.length) w1
   rw [List.take_append_drop] at this
   exact this
  obtain ⟨v,τ',F',s',hp',vs',fx1',fx2',es',nw,accs',r1,r2,r3,r4,r5,r6,r7,r8,r9,r10,r11,r12,r13,r14,r15⟩:=hg es hlen hpre _ F2 hp2 args g1 hargs
  have hlen' := r8.len
  have hQ:=allN_vc (U:=U) _ _ _ (hq.2 hpre) es' hlen' (by rw [dats_insts _ _ _ hlen']; exact r15)
  have hlv : ∀ b ∈ bl ++ accs,∃ x,s3.get b=some x:=fun b hb=>by
   rcases List.mem_append.1 hb with h | h
   ·exact hlive b h
   ·obtain ⟨k,hk⟩:=List.mem_iff_getElem?.1 h
    exact hm.live hk
  obtain ⟨f1,f2,f3⟩:=fst_ok (U:=U) hs3 hb3.len.1 k3 hlv k2 g3 r2 r3 r4 r5 r7 r8 r9 r10 r11 r12 r13 r14 (sames_insts (sosL c.outL) s3.fv es' hlen')
  refine ⟨_,_,hQ,_,F',hp',v,(ex2.trans (Ext.only hs2 o3)).trans f2,f1,r1, ?_,fun hb0 ha0 hn0 => ?_⟩
  ·obtain ⟨w1,_⟩:=f3.split
   have:=r6 _ _ _ ((fvals c (insts U (sosL c.outL) s3.fv es') s3 bl).drop fx1'.length) w1
   rw [List.take_append_drop] at this
   exact this
  ·have hn : s3.nx+(c.post.length - c.blks.length)+naccL c.outL=s.nx+c.post.length+naccL c.outL:=hn0
   have hbl : bl=[]:=List.eq_nil_of_length_eq_zero (by rw [hb3.len.1,hb0]; rfl)
   have hac : accs=[]:=List.eq_nil_of_length_eq_zero (by rw [k3,ha0])
   rw [hb0,List.length_nil,Nat.sub_zero] at hn
   clear hn0
   subst hbl; subst hac
   have hsn : s3.nx=s.nx:=by omega
   obtain ⟨lg,_,a2,a3,_⟩:=r2.hh
   have non : ∀ b x,(gst c (insts U (sosL c.inL) 0 es) (sosL c.inL).length).get b=some x→False:=fun b x h=>by
    obtain ⟨b',x',h1,_⟩:=g3 b x h
    simp at h1
   refine ⟨fun i hi=>a2 i hi fun b x o h _ _=>non b x h,fun b i o hb ht => ?_⟩
   unfold tau2 at ht
   rw [if_neg (by omega)] at ht
   split at ht
   ·rcases a3 _ i o (by show c.blks.length+naccL c.inL≤_; rw [hb0,ha0]; exact Nat.zero_le _) ht with h | ⟨b0,x,o0,h,_⟩
    ·exact h
    ·exact (non b0 x h).elim
   ·cases ht
 obtain ⟨a,s1,hq,τ1,F1,hp1,v,ex,hs1,hx,hv,hAB⟩:=hbig
 unfold lendE at hq
 cases hc : Nat.beq s1.nx (s.nx+c.post.length+naccL c.outL) && c.blks.isEmpty && Nat.beq (naccL c.inL) 0 && noFv 0 a && (newB s.nx (s1.h.take (s1.h.length - s.h.length))).all (numB P) with
 | false=>rw [hc] at hq; exact ⟨_,_,hq,τ1,F1,hp1,ex,hs1,v,hx,hv⟩
 | true =>
 rw [hc] at hq
 simp only [Bool.and_eq_true,Nat.beq_eq,List.isEmpty_iff,List.all_eq_true] at hc
 obtain ⟨⟨⟨⟨c1,c2⟩,c3⟩,c4⟩,c5⟩:=hc
 obtain ⟨hA,hB⟩:=hAB c2 c3 c1
 obtain ⟨lg,a1,_⟩:=ex.hh
 have hlg : s1.h.take (s1.h.length - s.h.length)=lg:=by
  rw [a1,List.length_append,Nat.add_sub_cancel,List.take_left']
  rfl
 rw [hlg] at hq c5
 have get : ∀ b,(⟨newB s.nx lg ++ s.h,s1.nx,s1.fc,s1.fv,s.fz⟩ : SS).get b=if s.nx≤b then s1.get b else s.get b:=fun b=>by
  unfold SS.get
  rw [a1,lk_append,lk_append,newB_lk]
  by_cases hb : s.nx≤b
  ·rw [if_pos hb,if_pos hb]
  ·rw [if_neg hb,if_neg hb]
 have lo : ∀ b x,b < s.nx→(⟨newB s.nx lg ++ s.h,s1.nx,s1.fc,s1.fv,s.fz⟩ : SS).get b=some x→s.get b=some x:=fun b x hb h=>by rw [get,if_neg (by omega)] at h; exact h
 have hi : ∀ b x,s.nx≤b→(⟨newB s.nx lg ++ s.h,s1.nx,s1.fc,s1.fv,s.fz⟩ : SS).get b=some x→s1.get b=some x:=fun b x hb h=>by rw [get,if_pos hb] at h; exact h
 have tl : ∀ b p,s.nx≤b→τ b=some p→False:=fun b p hb h=>by rw [hs.new b hb] at h; cases h
 refine ⟨_,_,hq,τ1,F,hp1,⟨ex.t,Fle.refl F,ex.nx,ex.snx,ex.st,fun b x hb hlt=>⟨x,lo b x hlt hb⟩,⟨newB s.nx lg,rfl,fun i hi' _=>hA i hi',fun b i o hb ht => .inl (hB b i o hb ht),fun i y _ hy => .inl hy,fun _ i y hy=>hy⟩,ex.hf⟩,
  ⟨fun b x hb => ?_,fun b b2 x y i o j q hb hb2 hne e1 e2 => ?_,fun i b hF=>hs1.frz i b (ex.f i b hF),hs1.lt,fun i b hF=>hs1.flt i b (ex.f i b hF),hs1.new,hs1.fc,fun r hr=>(hs.fz r hr).mono ex.t (Fle.refl F)⟩,v,hx,hv.noF c4⟩
 ·by_cases hlt : s.nx≤b
  ·have hb1:=hi b x hlt hb
   have hnum : numB P (b,some x)=true:=by
    refine c5 _ ?_
    have h1 : (match lk (newB s.nx lg ++ s.h) b with | some x=>x | none=>none)=some x:=hb
    rw [lk_append] at h1
    cases h2 : lk (newB s.nx lg) b with
    | some y =>
     rw [h2] at h1
     have h1 : y=some x:=h1
     rw [← h1]
     exact lk_mem h2
    | none =>
     rw [h2] at h1
     exact absurd (hs.bound (show s.get b=some x from h1)) (by omega)
   rcases hs1.live b x hb1 with ⟨i,o,y,p1,p2,p3,p4⟩ | p
   ·cases x with
    | rows L e z ph =>
     obtain ⟨cs,n,q1,⟨r1,r2,r3,r4⟩,q3⟩:=p4
     refine .inl ⟨i,o,y,p1,p2, ?_,cs,n,q1,⟨r1,r2,r3,fun r j row d hr hd => ?_⟩,q3⟩
     ·cases hF : F i with
      | none=>rfl
      | some y' => rw [ex.f i y' hF] at p3; cases p3
     ·obtain ⟨x,t1,t2⟩:=r4 r j row d hr hd
      exact ⟨x,t1,fun kd hkd=>(t2 kd hkd).num (List.all_eq_true.1 hnum kd (List.mem_of_getElem? hkd))⟩
    | _=>cases hnum
   ·exact .inr p
  ·rcases hs.live b x (lo b x (by omega) hb) with ⟨i,o,y,p1,p2,p3,p4⟩ | ⟨p1,p2⟩
   ·exact .inl ⟨i,o,y,ex.t _ _ p1,by rw [hA i (hs.lt b i o p1)]; exact p2,p3,p4.mono ex.t (Fle.refl F)⟩
   ·exact .inr ⟨ex.t _ _ p1,p2⟩
 ·have old : ∀ b i o,b < s.nx→τ1 b=some (some (i,o))→τ b=some (some (i,o)):=fun b i o hb h=>by rw [← ex.st b hb]; exact h
  by_cases h1 : s.nx≤b
  ·by_cases h2 : s.nx≤b2
   ·exact hs1.inj b b2 x y i o j q (hi b x h1 hb) (hi b2 y h2 hb2) hne e1 e2
   ·have:=hB b i o h1 e1
    have:=hs.lt b2 j q (old b2 j q (by omega) e2)
    omega
  ·by_cases h2 : s.nx≤b2
   ·have:=hB b2 j q h2 e2
    have:=hs.lt b i o (old b i o (by omega) e1)
    omega
   ·exact hs.inj b b2 x y i o j q (lo b x (by omega) hb) (lo b2 y (by omega) hb2) hne (old b i o (by omega) e1) (old b2 j q (by omega) e2)
variable (P U) in
def conL (l : List (FuncId × Con)) (ls : List (FuncId × Con)) (g : FuncId) : Option (List SV→M SV):=match ls with
 | []=>conP P U l g
 | p :: ls=>bif Nat.beq p.1 g then some (kconL P U p.2) else conL l ls g
theorem conL_ok {l : List (FuncId × Con)} (ha : AllG P U ov l) : ∀ {ls : List (FuncId × Con)},AllG P U ov ls → ∀ g k,conL P U l ls g=some k→RunRight P U ov k g
 | [],_,g,k,hk=>by
  unfold conL conP at hk
  cases h : conOf P U l g with
  | none=>rw [h] at hk; cases hk
  | some k0 =>
   rw [h] at hk
   cases hk
   exact pureR_ok (conOf_ok ha g k0 h)
 | p :: ls,hl,g,k,hk=>by
  unfold conL at hk
  cases hb : Nat.beq p.1 g with
  | true =>
   rw [hb,cond_true,Option.some.injEq] at hk
   rw [← hk,← Nat.eq_of_beq_eq_true hb]
   exact kconL_ok hl.1
  | false=>rw [hb,cond_false] at hk; exact conL_ok ha hl.2 g k hk
theorem rightL_eq (anns : FuncId → List (Nat × (Fm → SS → LAnn))) {l ls : List (FuncId × Con)} (ha : AllG P U ov l) (hl : AllG P U ov ls) (n : Nat) {g : FuncId} {c : Con} {V : Prop} (he : (cvc P U c (sxF P U anns (conL P U l ls) n g)).vc U (fun _ => True) = V) (hv : V)
  (hT : ∀ g,isT (ov g)=true→conL P U l ls g ≠ none) (hg : isT (ov g)=false:=by rfl) : RightG P U ov c g :=
 rightG_of (sxF_ok anns (conL_ok ha hl) hT n g hg) (he.symm ▸ hv)
end
end Go.Sx
end PartSm45
