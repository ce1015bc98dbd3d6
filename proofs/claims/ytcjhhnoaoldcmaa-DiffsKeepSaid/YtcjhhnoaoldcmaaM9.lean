/- keep: its first loop, whole; a round of its second loop.
  Conditions: none. -/
import Derived.Test.YtcjhhnoaoldcmaaM8
set_option linter.unusedVariables false
set_option linter.unusedSimpArgs false
noncomputable section
namespace Go.D
open Go Go.Xe Go.Sx
open Go.C36 (row)
section
variable {ov :FuncId->Option TypeId}{hp hp2:Hp}{t o:Tree}{F0:FB}{iw ow ib i:Nat}{vm:Value}{Ss:List (List Nat)}{cs0:T Value}
theorem k_out {k : Nat} {tm : T Value} {cs : T Value} {F : FB} (I : I0 hp2 t o F0 iw ow ib i vm Ss cs0 k tm hp cs F) (hk : k = t.c.length) :
  ∃tm',XK PR ov 69 (.loop kL0) tm hp (.exit 0) tm' hp/\I0 hp2 t o F0 iw ow ib i vm Ss cs0 k tm' hp cs F:=by
 have h3:=k_R3 (ov:=ov) (hp:=hp) (Q:=fun tm1 hp1=>hp1=hp/\(∀x,x≠21->tm1.get x=tm.get x)/\tm1.get 21=some (.bool (decide ((k:Int)<(t.c.length:Int))))) I.t19 I.t20 fun tm1 e d=>⟨rfl,e,d⟩
 obtain⟨tm1,hp1,f,rfl,e,d⟩:=h3
 rw[bH5 (by omega)]at d
 refine⟨tm1,.loopX ?_ (by simp),⟨⟨by rw[e 1 (by omega)];exact I.k12.a,by rw[e 2 (by omega)];exact I.k12.b⟩,by rw[e 4 (by omega)];exact I.t4,by rw[e 19 (by omega)];exact I.t19,by rw[e 20 (by omega)];exact I.t20,I.kp,I.old,I.arr,I.todo,I.done,I.fh,I.fle,I.fz⟩⟩
 rw[k_l0]
 exact f.seq (.seqX (.condF (ev_t d) .exit) (by simp))
theorem k_loop (st : ∀ (k : Nat) (tm : T Value) (hp : Hp) (cs : T Value) (F : FB), I0 hp2 t o F0 iw ow ib i vm Ss cs0 k tm hp cs F → k < t.c.length → YN PR ov 69 kL0 tm hp fun tm' hp' => ∃ cs' F', I0 hp2 t o F0 iw ow ib i vm Ss cs0 (k + 1) tm' hp' cs' F') :
  ∀(d k:Nat) (tm:T Value) (hp:Hp) (cs:T Value) (F:FB),k+d=t.c.length->I0 hp2 t o F0 iw ow ib i vm Ss cs0 k tm hp cs F-> ∃tm' hp' cs' F',XK PR ov 69 (.loop kL0) tm hp (.exit 0) tm' hp'/\I0 hp2 t o F0 iw ow ib i vm Ss cs0 t.c.length tm' hp' cs' F'
 |0,k,tm,hp,cs,F,hk,I=>by
  obtain⟨tm',x,I'⟩:=k_out (ov:=ov) I (by omega)
  rw[show k=t.c.length by omega]at I'
  exact⟨tm',hp,cs,F,x,I'⟩
 |d+1,k,tm,hp,cs,F,hk,I=>by
  obtain⟨tm1,hp1,e,a,F1,b⟩:=st k tm hp cs F I (by omega)
  obtain⟨tm',hp',cs',F',f,I2⟩:=k_loop st d (k+1) tm1 hp1 a F1 (by omega) b
  exact⟨tm',hp',cs',F',e.loopN f,I2⟩
end
def CapU (l c:Nat):Prop:=(c<unk/\c=l/\l<=67108864)\/ ∃lo,c=g9 lo 0/\lo<=67108864/\l<=67108864
def Own5 (F:FB)(hp:Hp)(iw:Nat)(L:Sx.Rows)(v:Value)(io:Option Nat):Prop:=
 (L=[]/\v= .slice none 0 0/\io=none)\/ ∃i o c cs n,io=some i/\v= .slice (some ⟨i,o,none⟩) L.length c/\CapU L.length c/\i<hp.nx/\i≠iw/\F i=none/\hp.m.get i=some (.cells cs n tN 6)/\j7 PR F tN 6 o n cs L
structure Win (F:FB)(hp:Hp)(iw ow N:Nat)(t:Tree)(L:Sx.Rows)(cs:T Value)(io:Option Nat):Prop where
 w:hp.m.get iw=some (.cells cs N tN 6)
 wb:ow+6<=N
 wl:iw<hp.nx
 wf:F iw=none
 hd:Hd F t (at6 cs ow)
 v5:∃v,cs.get (ow+5)=some v/\Own5 F hp iw L v io
 fh:FH F hp
def krD (M C L:Sx.Rows)(n i:Int)(t:Tree):List Dat:=[.lst M,.lst C,.int n,.int i,.int t.k,.str t.t,.str t.y,.lst (t.a.map Att.row),.str t.x,.lst L]
def krE (M C L:Sx.Rows)(n i:Int)(t:Tree):List E:=[.dat 0 (.lst M),.dat 1 (.lst C),.dat 2 (.int n),.dat 3 (.int i),.dat 4 (.int t.k),.dat 5 (.str t.t),.dat 6 (.str t.y),.dat 7 (.lst (t.a.map Att.row)),.dat 8 (.str t.x),.dat 9 (.lst L)]
def krS (M C L:Sx.Rows)(n i:Int)(t:Tree):SS:=⟨[(0,some (.cells [.int .u8 (.dat 4 (.int t.k)),.str (.dat 5 (.str t.t)),.str (.dat 6 (.str t.y)),.lst tAt (.dat 7 (.lst (t.a.map Att.row))) false,.str (.dat 8 (.str t.x)),.sl 1 6 (.int 0) (i9 (.dat 9 (.lst L))) .un] tN 6)),(1,some (.rows (.dat 9 (.lst L)) tN 6 (i9 (.dat 9 (.lst L)))))],2,[],10,[]⟩
def krT (iw ow:Nat)(p:Option (Nat×Nat)):Tau:=fun b=>match b with
 |0=>some (some (iw,ow))
 |1=>some p
 |_=>none
theorem krS_0 (M C L:Sx.Rows)(n i:Int)(t:Tree):(krS M C L n i t).get 0=some (.cells [.int .u8 (.dat 4 (.int t.k)),.str (.dat 5 (.str t.t)),.str (.dat 6 (.str t.y)),.lst tAt (.dat 7 (.lst (t.a.map Att.row))) false,.str (.dat 8 (.str t.x)),.sl 1 6 (.int 0) (i9 (.dat 9 (.lst L))) .un] tN 6):=rfl
theorem krS_1 (M C L:Sx.Rows)(n i:Int)(t:Tree):(krS M C L n i t).get 1=some (.rows (.dat 9 (.lst L)) tN 6 (i9 (.dat 9 (.lst L)))):=rfl
theorem krS_n (M C L:Sx.Rows)(n i:Int)(t:Tree){b:Nat}(h:2<=b):(krS M C L n i t).get b=none:=by
 unfold SS.get krS
 simp only[lk]
 rw[n8 (by omega),n8 (by omega)]
 rfl
variable {L:Sx.Rows}
theorem krS_some {M C:Sx.Rows}{n i:Int}{t:Tree}{b:Nat}{x:n5}(h:(krS M C L n i t).get b=some x):b=0\/b=1:=by
 by_cases h2:2<=b
 ·rw[krS_n _ _ _ _ _ _ h2]at h;cases h
 ·omega
theorem lenE_dat (k:Nat)(L:Sx.Rows):(i9 (.dat k (.lst L))).toI U0=(L.length:Int):=by rw[c9];rfl
theorem kr_sd {F : FB} {hp : Hp} {iw ow N : Nat} {t : Tree}  {cs : T Value} {io : Option Nat} (W : Win F hp iw ow N t L cs io) (M C : Sx.Rows) (n i : Int) :
  ∃p,(∀q o,p=some (q,o)->io=some q)/\(∀q,io=some q-> ∃o,p=some (q,o))/\SD PR U0 (krT iw ow p) F (krS M C L n i t) hp:=by
 obtain⟨v,Q,A⟩:=W.v5
 have hd:=W.hd
 obtain⟨c0,B,D,⟨Y,G,s⟩,H⟩:=hd
 have big:L.length<=67108864\/v= .slice none 0 0:=by
  rcases A with⟨_,h,_⟩| ⟨_,_,_,_,_,_,_,hc,_⟩
  ·exact .inr h
  ·rcases hc with⟨_,_,h⟩| ⟨_,_,_,h⟩<;>exact .inl h
 have mk : ∀ p, VD PR U0 (krT iw ow p) F (.sl 1 6 (.int 0) (i9 (.dat 9 (.lst L))) .un) v → (∀ q o, p = some (q, o) → q ≠ iw ∧ q < hp.nx ∧ F q = none ∧ ∃ y, hp.m.get q = some y ∧ BD PR U0 (krT iw ow p) F o (.rows (.dat 9 (.lst L)) tN 6 (i9 (.dat 9 (.lst L)))) y) → (p = none → L = []) →
   SD PR U0 (krT iw ow p) F (krS M C L n i t) hp:=by
  intro p h1 h2 h3
  refine⟨fun b x hb=>?_,fun b c x y q o l o' hb hc f g k=>?_,fun q b h=>(W.fh q b h).1,fun b q o h=>?_,fun q b h=>(W.fh q b h).2,fun b hb=>?_,fun c t h=>by simp[krS]at h,fun r h=>by simp[krS]at h⟩
  ·rcases krS_some hb with rfl|rfl
   ·rw[krS_0]at hb
    cases hb
    refine .inl ⟨iw,ow,_,rfl,W.w,W.wf,cs,N,rfl,W.wb,fun j a d=>?_⟩
    match j,d with
    |0,d=>cases d;exact⟨_,c0,.int _ _⟩
    |1,d=>cases d;exact⟨_,B,.str _⟩
    |2,d=>cases d;exact⟨_,D,.str _⟩
    |3,d=>cases d;exact⟨_,G,.lst _ _ _ _ s (fun h=>by cases h)⟩
    |4,d=>cases d;exact⟨_,H,.str _⟩
    |5,d=>cases d;exact⟨_,Q,h1⟩
    |j+6,d=>simp at d
   ·rw[krS_1]at hb
    cases hb
    cases p with
    |none=>exact .inr ⟨rfl,_,_,_,_,rfl,h3 rfl,by rw[kf_N];rfl,by rw[lenE_dat,h3 rfl];decide⟩
    |some S=>
     obtain⟨q,o⟩:=S
     obtain⟨V,X,J,y,K,O⟩:=h2 q o rfl
     exact .inl ⟨q,o,y,rfl,K,J,O⟩
  ·rcases krS_some hb with rfl|rfl<;>rcases krS_some hc with rfl|rfl
   ·exact absurd rfl f
   ·cases g
    have k:some p=some (some (l,o')):=k
    cases k
    exact fun h=>(h2 l o' rfl).1 h.symm
   ·cases k
    have g:some p=some (some (q,o)):=g
    cases g
    exact(h2 q o rfl).1
   ·exact absurd rfl f
  ·match b,h with
   |0,h=>cases h;exact W.wl
   |1,h=>
    have h:some p=some (some (q,o)):=h
    cases h
    exact(h2 q o rfl).2.1
   |b+2,h=>cases h
  ·have hb:2<=b:=hb
   match b,hb with
   |b+2,_=>rfl
 rcases A with⟨z,rfl,rfl⟩| ⟨q,o,c,I,R,rfl,rfl,hc,hlt,f,u,hq,hr⟩
 ·refine⟨none,fun q o h=>(by cases h),fun q h=>(by cases h),mk none (.sl0 _ _ _ _ _ rfl rfl (by rw[lenE_dat,z];rfl) (fun e h=>by cases h)) (fun q o h=>by cases h) (fun _=>z)⟩
 ·have  g : (i9 (.dat 9 (.lst L))).toN U0 = L.length := by show ((i9 (.dat 9 (.lst L))).toI U0).toNat = _; rw [lenE_dat]; rfl
  refine⟨some (q,o),fun l o' h=>(by cases h;rfl),fun l h=>(by cases h;exact⟨o,rfl⟩),mk _ ?_ (fun l o' h=>?_) (fun h=>by cases h)⟩
  ·have := VD.sl (P := PR) (U := U0) (τ := krT iw ow (some (q, o))) (F := F) 1 6 (.int 0) (i9 (.dat 9 (.lst L))) .un q o c rfl (by decide) (by rw [lenE_dat]; omega) (by
    rcases hc with⟨h1,h2,h3⟩| ⟨lo,h1,h2,h3⟩
    ·exact .inl ⟨h1,by rw[g];exact h2,by rw[lenE_dat];omega⟩
    ·exact .inr ⟨lo,h1,h2,by rw[lenE_dat];omega⟩)
   rw[g]at this
   have k:o+(E.int 0).toN U0*6=o:=by show o+0*6=o;omega
   rwa[k]at this
  ·cases h
   refine⟨f,hlt,u,_,hq,I,R,rfl,hr,?_⟩
   rw[g]
   exact hr.1
end Go.D
