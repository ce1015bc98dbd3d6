/- keep: its second loop, whole.
  Conditions: none. -/
import Derived.Test.YtcjhhnoaoldcmaaMA
set_option linter.unusedVariables false
set_option linter.unusedSimpArgs false
noncomputable section
namespace Go.D
open Go Go.Xe Go.Sx
open Go.C36 (row)
variable {ov :FuncId->Option TypeId}{hp3:Hp}{F3:FB}{iw ow N:Nat}{t:Tree}{A oc:List Tree}{m:List Int}{cs3:T Value}{io3:Option Nat}
structure I2 (hp3:Hp)(F3:FB)(iw ow N:Nat)(t:Tree)(A oc:List Tree)(m:List Int)(cs3:T Value)(io3:Option Nat)(n:Nat)(tm:T Value)(hp:Hp)(cs:T Value)(F:FB)(io:Option Nat)(vm vo:Value):Prop where
 w:Win F hp iw ow N t (rows (A++leftF oc m n)) cs io
 t1:tm.get 1=some (.pointer (some ⟨iw,ow,none⟩))
 t4:tm.get 4=some vm
 pm:PV PR F (.sl 3) vm (.lst (m.map row))
 t45:tm.get 45=some vo
 po:PV PR F (.sl tN) vo (.lst (rows oc))
 t46:tm.get 46=some (.int .i64 oc.length)
 t47:tm.get 47=some (.int .i64 n)
 kp:m9 hp3 hp
 old:∀j,j<hp3.nx->j≠iw->io3≠some j->hp.m.get j=hp3.m.get j
 win:∀j,j<ow\/ow+6<=j->cs.get j=cs3.get j
 fle:Fle F3 F
 fz:∀q b,F q=some b->F3 q=some b\/hp3.nx<=q\/io3=some q
 io:∀q,io=some q->hp3.nx<=q\/io3=some q
theorem leftF_len (oc:List Tree)(m:List Int):∀n,(leftF oc m n).length<=n
 |0=>bC4 _
 |n+1=>by
  have:=leftF_len oc m n
  unfold leftF
  rw[bC8]
  split
  ·simp;omega
  ·rw[bD6];omega
variable {cs tm:T Value}{io:Option Nat}{vm vo:Value}
theorem k2_step ( L : ∀ tm, M4 PR U0 cKr (PmT tpKr tm) (PcX PR ov ntKr (pcKr (f5 PR kF)) otKr 6 tm)) ( R : A.length + oc.length ≤ 1000) (hm : m.length ≤ 1000) ( P : ∀ s ∈ oc, Valid s) {n : Nat}  {hp : Hp}  {F : FB}  
  (I:I2 hp3 F3 iw ow N t A oc m cs3 io3 n tm hp cs F io vm vo) (hn:n<oc.length):YN PR ov 69 kL2 tm hp fun tm' hp'=>∃cs' F' a c d,I2 hp3 F3 iw ow N t A oc m cs3 io3 (n+1) tm' hp' cs' F' a c d:=by
 rw[k_l2]
 refine .seq (k_R9 I.t46 I.t47 fun tm1 e p=>?_)
 refine .seq (.condT (ev_t (by rw[p];simp only[decide_eq_true (show(n:Int)<(oc.length:Int) by omega)])) (.skip (.seq ?_)))
 have O:=leftF_len oc m n
 obtain⟨tm',hp',cs',F',v,c,d,a,x,r,y,fl,B,D,H,g,J,k,l,K,gs,E,G⟩:=
  kr_use L I.w (tm:=tm1) (M:=m.map row) (C:=rows oc) (n:=oc.length) (i:=n) (by rw[e 1 (by omega)];exact I.t1) (by rw[e 4 (by omega)];exact I.t4) I.pm (by rw[e 45 (by omega)];exact I.t45) I.po (by rw[e 46 (by omega)];exact I.t46) (by rw[e 47 (by omega)];exact I.t47)
   ⟨by omega,by simp only[ln,bC0];omega,⟨_,rfl,by rw[bC8];omega⟩,⟨_,rfl,fun s hs=>P s (bB1 hs)⟩,_,rfl,hm⟩
 obtain⟨_,_,_,_,_,_,_,_,_,u⟩:=r
 have u:=u m oc rfl rfl
 have z:v=rows (A++leftF oc m (n+1)):=by
  rw[u]
  by_cases h:(n:Int)∈m
  ·rw[bC3 h]
   show rows (A++leftF oc m n)=rows (A++(leftF oc m n++if(n:Int)∈m then []else(oc.drop n).take 1))
   rw[bC3 h,bI5]
  ·rw[bC1 h]
   show rows (A++leftF oc m n)++(rows (oc.drop n)).take 1=rows (A++(leftF oc m n++if(n:Int)∈m then []else(oc.drop n).take 1))
   rw[bC1 h,<-bB5]
   simp only[rows,bE8,List.map_take]
 subst z
 refine⟨tm',hp',x,?_⟩
 refine k_R13 l (by omega) (by omega) fun Q f o=>⟨cs',F',a,c,d,y,by rw[f 1 (by omega)];exact B,by rw[f 4 (by omega)];exact D,H,by rw[f 45 (by omega)];exact g,J,by rw[f 46 (by omega)];exact k,by rw[o];rfl,I.kp.trans x.kp,fun j h1 h2 h3=>?_,fun j hj=>(K j hj).trans (I.win j hj),fun q b h=>fl _ _ (I.fle q b h),fun q b h=>?_,fun q h=>?_⟩
 ·rw[gs j (bF3 h1 I.kp.nx) h2 (fun h=>(I.io j h).elim (fun h'=>by omega) h3)]
  exact I.old j h1 h2 h3
 ·rcases E q b h with h|h|h
  ·exact I.fz q b h
  ·exact .inr (.inl (bF8 I.kp.nx h))
  ·exact(I.io q h).elim (fun h=>.inr (.inl h)) fun h=>.inr (.inr h)
 ·rcases G q h with h|h
  ·exact .inl (bF8 I.kp.nx h)
  ·exact I.io q h
theorem k2_out {n : Nat}  {hp : Hp}  {F : FB}   (I : I2 hp3 F3 iw ow N t A oc m cs3 io3 n tm hp cs F io vm vo) (hn : n = oc.length) :
  ∃tm',XK PR ov 69 (.loop kL2) tm hp (.exit 2) tm' hp:=by
 have h3:=k_R9 (ov:=ov) (hp:=hp) (Q:=fun tm1 hp1=>hp1=hp/\tm1.get 48=some (.bool (decide ((n:Int)<(oc.length:Int))))) I.t46 I.t47 fun tm1 b h=>⟨rfl,h⟩
 obtain⟨tm1,hp1,a,rfl,h⟩:=h3
 rw[bH5 (by omega)]at h
 refine⟨tm1,.loopX ?_ (by simp)⟩
 rw[k_l2]
 exact a.seq (.seqX (.condF (ev_t h) .exit) (by simp))
theorem k2_loop ( e : ∀ tm, M4 PR U0 cKr (PmT tpKr tm) (PcX PR ov ntKr (pcKr (f5 PR kF)) otKr 6 tm)) ( c : A.length + oc.length ≤ 1000) (hm : m.length ≤ 1000) ( f : ∀ s ∈ oc, Valid s) :
  ∀(d n:Nat) {tm:T Value} {hp:Hp} {cs:T Value} {F:FB} {io:Option Nat} {vm vo:Value},n+d=oc.length->I2 hp3 F3 iw ow N t A oc m cs3 io3 n tm hp cs F io vm vo->
   ∃tm' hp' cs' F' a,XK PR ov 69 (.loop kL2) tm hp (.exit 2) tm' hp'/\Win F' hp' iw ow N t (rows (A++leftF oc m oc.length)) cs' a/\m9 hp3 hp'/\(∀j,j<hp3.nx->j≠iw->io3≠some j->hp'.m.get j=hp3.m.get j)/\(∀j,j<ow\/ow+6<=j->cs'.get j=cs3.get j)/\Fle F3 F'/\
    (∀q b,F' q=some b->F3 q=some b\/hp3.nx<=q\/io3=some q)/\ ∀q,a=some q->hp3.nx<=q\/io3=some q
 |0,n,tm,hp,cs,F,io,vm,vo,hn,I=>by
  obtain⟨tm',x⟩:=k2_out (ov:=ov) I (by omega)
  have I':=I.w
  rw[show n=oc.length by omega]at I'
  exact⟨tm',hp,cs,F,io,x,I',I.kp,I.old,I.win,I.fle,I.fz,I.io⟩
 |d+1,n,tm,hp,cs,F,io,vm,vo,hn,I=>by
  obtain⟨tm1,hp1,o,h,F1,i,k,l,g⟩:=k2_step e c hm f I (by omega)
  obtain⟨tm',hp',cs',F',a,p,I2⟩:=k2_loop e c hm f d (n+1) (by omega) g
  exact⟨tm',hp',cs',F',a,o.loopN p,I2⟩
end Go.D
