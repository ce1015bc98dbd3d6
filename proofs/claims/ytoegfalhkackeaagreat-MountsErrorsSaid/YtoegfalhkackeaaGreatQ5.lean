/- Mounts: the nodes of a tree are yielded (all): its code, step by step.
  Conditions: none. -/
import Derived.Test.YtoegfalhkackeaaGreatQ2
set_option maxRecDepth 10000
set_option linter.all false
noncomputable section
namespace Go.D
open Go Go.Xe Go.Sx
def cdAs :Code->Code
 | .rangeFunc _ _ a _=>a|c=>c
def cdBo :Code->Code
 | .rangeFunc _ _ _ b=>b|c=>c
abbrev aC :Code:=R5 PR aF
abbrev aR0 :Code:=cdA aC
abbrev aR1 :Code:=cdA (cdA (cdB aC))
abbrev aR2 :Code:=cdA (cdB (cdB aC))
abbrev aLB :Code:=cdA (cdA (cdB (cdB (cdB aC))))
abbrev aR3 :Code:=cdA aLB
abbrev aL2 :Code:=cdB (cdB aLB)
abbrev aR4 :Code:=cdA (cdA (cdA aL2))
abbrev aR5 :Code:=cdA (cdB (cdA (cdA aL2)))
abbrev aRF :Code:=cdA (cdB (cdB (cdA (cdA aL2))))
abbrev aR6 :Code:=cdAs aRF
abbrev aBo :Code:=cdBo aRF
abbrev aR7 :Code:=cdA (cdA aBo)
abbrev aR8 :Code:=cdB aL2
abbrev aLp :Code:= .seq aR3 (.seq (.cond (.tmp 14) .skip (.exit 0)) (.seq (.block 1 (.seq aR4 (.seq aR5 (.block 2 (.rangeFunc (.tmp 18) #[19] aR6 aBo))))) aR8))
def a_bo :aBo= .block 3 (.seq aR7 (.cond (.tmp 23) .ret .skip)):=by kernel_rfl
def Pq :R5 PR aF= .seq aR0 (.seq (.seq aR1 (.cond (.tmp 9) .ret .skip)) (.seq aR2 (.block 0 (.loop aLp)))):=by kernel_rfl
section
variable {ov :Aa}{hp hp1:Hp}{tm:Ao}{ws:Af}{i b y:Nat}{Q:Ao->Hp->Prop}{cs cy:Ao}{ar:Ai}
def tD {vs:Af}{o:Nat}(a:vs.length=6):n9 (fill cs o vs) o 6=some vs:=by have:=C0 (c:=fill cs o vs) (vs:=vs) (o:=o) (fun q hq=>by rw[l8,Rh ⟨by omega,by omega⟩];congr 1;omega);rwa[a]at this
variable {v:Av}
def a_0 (h0:tm.get 0=some (.chan (some i)))(h1:tm.get 1=some v)(k:∀tm1,tm1.get 1=some v->tm1.get 2=some (.pointer (some ⟨hp.nx,0,none⟩))->Q tm1 ⟨hp.m.set hp.nx (some (.cells (fill .e 0 [.chan (some i)]) 1 tYl 1)),hp.nx+1⟩):YN PR ov ar 25 aR0 tm hp Q:=by unfold aR0 aC;rw[zM];simp only[Go.Proofs.Tryz.f108,RB,cdA,cdB];have e:(Value.chan (some i)).cells.toList=[.chan (some i)]:=rfl;refine .region (.op rfl rfl (Gy box_Y h0) (.nil ?_));rw[e];refine⟨⟨Ss _,fun r hr h=>by show(hp.m.set hp.nx _).get r=_;rw[TQ,Re (by omega)];exact h⟩,k _ ?_ ?_⟩;rw[gp,Re (by decide)];exact h1;rw[gp,Rh rfl]
def a_1 (h1:tm.get 1=some (.pointer (some ⟨b,0,none⟩)))(h2:tm.get 2=some (.pointer (some ⟨y,0,none⟩)))(hy:hp.m.get y=some (.cells (fill .e 0 [.chan (some i)]) 1 tYl 1))(hb:hp.m.get b=some (.cells cs 6 tN 6))(hl:n9 cs 0 6=some ws)(hx:JR PR ov i [.agg ws.toArray] hp (.bool true) hp1)(hk:I8 hp hp1)(k:∀tm1,(∀x,x<6->tm1.get x=tm.get x)->tm1.get 9=some (.bool false)->Q tm1 hp1):YN PR ov ar 25 aR1 tm hp Q:=by
 unfold aR1 aC;rw[zM];simp only[Go.Proofs.Tryz.f108,RB,cdA,cdB];refine .region (.op rfl rfl (O3 h2 ((KW OA hy rfl (by omega)).trans (by rw[z7 _ _ (by simp)];rfl))) (.op rfl rfl (O3 (by rw[gp,Re (by decide)];exact h1) (xL hb rfl (by omega) hl)) ?_));refine .cons rfl rfl (Em (i:=i) (vs:=[.agg ws.toArray]) (by rw[gp,Re (by decide),gp,Rh rfl]) ?_ hx) ?_;simp only[aH,c9,gp];rfl;refine .op rfl rfl (MP (by rw[gp,Rh rfl])) (.nil ⟨hk,k _ (fun x hx=>?_) ?_⟩)
 ·simp only[gp];iterate 4 rw[Re (by omega)]
 simp only[gp];rfl
variable {c:Nat}
def a_2 {q:Aq}{l:Nat}(h1:tm.get 1=some (.pointer (some ⟨b,0,none⟩)))(hb:hp.m.get b=some (.cells cs 6 tN 6))(a:cs.get 5=some (.slice q l c))(k:∀tm1,(∀x,x<6->tm1.get x=tm.get x)->tm1.get 11=some (.slice q l c)->tm1.get 12=some (.int .i64 l)->tm1.get 13=some (.int .i64 0)->Q tm1 hp):YN PR ov ar 25 aR2 tm hp Q:=by
 unfold aR2 aC;rw[zM];simp only[Go.Proofs.Tryz.f108,RB,cdA,cdB];refine .region (.op rfl rfl (QA h1) (.op rfl rfl (O3 (by simp only[gp];rfl) ((ld_S' hb rfl (by omega)).trans a)) (.op rfl rfl (QD (by simp only[gp];rfl) rfl) (.op rfl rfl QE (.nil ⟨.refl _,k _ (fun x hx=>?_) ?_ ?_ ?_⟩)))))
 ·simp only[gp];iterate 4 rw[Re (by omega)]
 simp only[gp];rfl;simp only[gp];rfl;simp only[gp];rfl
variable {j:Int}
def a_3 {n:Int}(h12:tm.get 12=some (.int .i64 n))(a:tm.get 13=some (.int .i64 j))(k:∀tm1,(∀x,x≠14->tm1.get x=tm.get x)->tm1.get 14=some (.bool (decide (j<n)))->Q tm1 hp):YN PR ov ar 25 aR3 tm hp Q:=by unfold aR3 aLB aC;rw[zM];simp only[Go.Proofs.Tryz.f108,RB,cdA,cdB];exact .region (.op rfl rfl (xo_lt a h12) (.nil ⟨.refl _,k _ (fun x hx=>by rw[gp,Re hx]) (by rw[gp,Rh rfl])⟩))
def a_4 {e f l cc n t:Nat}{g:Blk}{dc:Ao}(a:tm.get 11=some (.slice (some ⟨e,f,none⟩) l cc))(d:tm.get 13=some (.int .i64 j))(q:0<=j)(s:j<l)(hc:hp.m.get e=some g)(hr:rdC g=some (dc,n,t))(hn:f+j.toNat*6+6<=n)(hl:n9 dc (f+j.toNat*6) 6=some ws)(o:ws.length=6)(p:ws.all Value.oneCell'=true)(hlt:e<hp.nx)(k:∀tm1,(∀x,x<15->x≠4->tm1.get x=tm.get x)->tm1.get 4=some (.pointer (some ⟨hp.nx,0,none⟩))->Q tm1 ⟨(hp.m.set hp.nx (some (.cells zB 6 tN 6))).set hp.nx (some (.cells (fill zB 0 ws) 6 tN 6)),hp.nx+1⟩):YN PR ov ar 25 aR4 tm hp Q:=by unfold aR4 aL2 aLB aC;rw[zM];simp only[Go.Proofs.Tryz.f108,RB,cdA,cdB];refine .region (.op rfl rfl (QB a d (ix_N q s)) (.op rfl rfl (O3 (by simp only[gp];rfl) (xL hc hr hn hl)) (.op rfl rfl pK (.op rfl rfl (dC (by simp only[gp];rfl) (by simp only[gp];rfl) (st_N (by rw[TQ,Rh rfl]) (by omega) o p)) (.nil ⟨⟨Ss _,fun r hr h=>?_⟩,k _ (fun x hx h4=>?_) ?_⟩)))));show((hp.m.set hp.nx _).set hp.nx _).get r=_;rw[TQ,Re (by omega),TQ,Re (by omega)];exact h;simp only[gp,gn];rw[Re h4,Re (by omega),Re (by omega)];simp only[gp,gn];rfl
def a_5 (h4:tm.get 4=some (.pointer (some ⟨c,0,none⟩)))(hc:hp.m.get c=some (.cells cs 6 tN 6))(hl:n9 cs 0 6=some ws)(hx:W8 PR ov aG [.agg ws.toArray] hp v hp1)(hk:I8 hp hp1)(k:∀tm1,(∀x,x<17->tm1.get x=tm.get x)->tm1.get 18=some v->Q tm1 hp1):YN PR ov ar 25 aR5 tm hp Q:=by unfold aR5 aL2 aLB aC;rw[zM];simp only[Go.Proofs.Tryz.f108,RB,cdA,cdB];refine .region (.op rfl rfl (O3 h4 (xL hc rfl (by omega) hl)) (.cons rfl rfl (vW JU Oy (by simp only[gp];rfl) hx) (.nil ⟨hk,k _ (fun x hx=>?_) ?_⟩)));simp only[gp];rw[Re (by omega),Re (by omega)];simp only[gp];rfl
def a_6 (a:tm.get 19=some (.agg ws.toArray))(d:ws.length=6)(e:ws.all Value.oneCell'=true)(k:∀tm1,(∀x,x≠5->tm1.get x=tm.get x)->tm1.get 5=some (.pointer (some ⟨hp.nx,0,none⟩))->Q tm1 ⟨(hp.m.set hp.nx (some (.cells zB 6 tN 6))).set hp.nx (some (.cells (fill zB 0 ws) 6 tN 6)),hp.nx+1⟩):YN PR ov ar 25 aR6 tm hp Q:=by unfold aR6 aRF aL2 aLB aC;rw[zM];simp only[Go.Proofs.Tryz.f108,RB,cdA,cdB,cdAs];refine .region (.op rfl rfl pK (.op rfl rfl (dC (by simp only[gp];rfl) (by simp only[gp];exact a) (st_N (by rw[TQ,Rh rfl]) (by omega) d e)) (.nil ⟨⟨Ss _,fun r hr h=>?_⟩,k _ (fun x hx=>?_) ?_⟩)));show((hp.m.set hp.nx _).set hp.nx _).get r=_;rw[TQ,Re (by omega),TQ,Re (by omega)];exact h;simp only[gp,gn];rw[Re hx];simp only[gp,gn];rfl
def a_7 (h2:tm.get 2=some (.pointer (some ⟨y,0,none⟩)))(a:tm.get 5=some (.pointer (some ⟨c,0,none⟩)))(hy:hp.m.get y=some (.cells (fill .e 0 [.chan (some i)]) 1 tYl 1))(hc:hp.m.get c=some (.cells cs 6 tN 6))(hl:n9 cs 0 6=some ws)(hx:JR PR ov i [.agg ws.toArray] hp (.bool true) hp1)(hk:I8 hp hp1)(k:∀tm1,tm1.get 23=some (.bool false)->Q tm1 hp1):YN PR ov ar 25 aR7 tm hp Q:=by unfold aR7 aBo aRF aL2 aLB aC;rw[zM];simp only[Go.Proofs.Tryz.f108,RB,cdA,cdB,cdBo];refine .region (.op rfl rfl (O3 h2 ((KW OA hy rfl (by omega)).trans (by rw[z7 _ _ (by simp)];rfl))) (.op rfl rfl (O3 (by rw[gp,Re (by decide)];exact a) (xL hc rfl (by omega) hl)) ?_));refine .cons rfl rfl (Em (i:=i) (vs:=[.agg ws.toArray]) (by rw[gp,Re (by decide),gp,Rh rfl]) ?_ hx) ?_;simp only[aH,c9,gp];rfl;refine .op rfl rfl (MP (by rw[gp,Rh rfl])) (.nil ⟨hk,k _ ?_⟩);simp only[gp];rfl
def a_8 (a:tm.get 13=some (.int .i64 j))(h0:0<=j)(h1:j<1000000)(k:∀tm1,(∀x,x<13->tm1.get x=tm.get x)->tm1.get 13=some (.int .i64 (j+1))->Q tm1 hp):YN PR ov ar 25 aR8 tm hp Q:=by unfold aR8 aL2 aLB aC;rw[zM];simp only[Go.Proofs.Tryz.f108,RB,cdA,cdB];refine .region (.op rfl rfl (QC a h0 h1) (.op rfl rfl (El (by simp only[gp];rfl)) (.nil ⟨.refl _,k _ (fun x hx=>?_) ?_⟩)));simp only[gp];rw[Re (by omega),Re (by omega)];simp only[gp];rfl
def evt {x:Nat}(h:tm.get x=some v):c9 tm (.tmp x)=some v:=by simp only[c9,h,RB]
