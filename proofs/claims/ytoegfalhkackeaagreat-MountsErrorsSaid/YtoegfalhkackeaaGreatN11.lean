/- Mounts: the contracts stand.
  Conditions: none. -/
import Derived.Test.YtoegfalhkackeaaGreatN10
import Derived.Test.YtoegfalhkackeaaGreatW5
set_option maxRecDepth 100000
set_option linter.all false
noncomputable section
namespace Go.D
open Go Go.Xe Go.Sx Go.RowKit
open Go.Proofs
def iS {P:Aw}{ov:Aa}{g:Ay}(p:As->Bool){k1 k2:As->M SV}(h1:A5 P U0 ov k1 g)(h2:A5 P U0 ov k2 g):A5 P U0 ov (DP p k1 k2) g:=fun l args τ F s hp a b=>by unfold DP;cases p l;exact h2 l args τ F s hp a b;exact h1 l args τ F s hp a b
def iB (g:Ay)(h:Xe.isT (LV g)=false):A5 PR U0 LV (Fw g PR) g:=Gp (fun _=>[]) (rE (l:=[(LVn,cYes "lives")]) ⟨B9,trivial⟩ (xs:=[]) trivial) (fun g hg hn=>(show∀g,Xe.isT (LV g)=true->fU PR U0 [(LVn,cYes "lives")] g≠none from G2 rfl) g hg (hX (xs:=[]) (ov:=LV) (P:=PR) (U:=U0) trivial g hg hn)) 400 g h
def g_mn1 :p9 PR U0 LV cMn1 43:=O8 JZ (show P7 PR U0 LV (HQ 0)from⟨OT,g_edt,g_ins,OV,B9,trivial⟩) noX 400 CT vcMn1_eq vcMn1_ok (fun n=>G2 rfl)
def OW :p9 PR U0 LV cMnt 10:=t7 H3 (show P7 PR U0 LV (G7 1)from⟨sN,g_mn1,B9,trivial⟩) noX 400 vcMnt_eq vcMnt_ok (G2 rfl)
def g_nwd :p9 PR U0 LV cNwd 8:=t7 H3 fI noX 400 vcNwd_eq vcNwd_ok (G2 rfl)
def g_wgh :p9 PR U0 LV cWgh 21:=O8 H3 fI noX 400 yZ vcWgh_eq vcWgh_ok (fun n=>G2 rfl)
def g_eqb :p9 PR U0 LV cEqb 164:=t7 H3 fI noX 400 vcEqb_eq vcEqb_ok (G2 rfl)
def g_smn :p9 PR U0 LV cSmn 106:=O8 H3 (show P7 PR U0 LV (G7 2)from⟨g_eqb,B9,trivial⟩) noX 400 DI vcSmn_eq vcSmn_ok (fun n=>G2 rfl)
def g_stp :p9 PR U0 LV cStp 58:=t7 H3 (show P7 PR U0 LV (G7 3)from⟨sN,OS,B9,trivial⟩) noX 400 vcStp_eq vcStp_ok (G2 rfl)
def g_nsm :p9 PR U0 LV cNsm 57:=t7 H3 (show P7 PR U0 LV (G7 4)from⟨sN,g_smn,B9,trivial⟩) noX 400 vcNsm_eq vcNsm_ok (G2 rfl)
def r_is :RRO PR U0 LV cIs 19:=dU H3 (show P7 PR U0 LV (G7 5)from⟨sN,g_nsm,g_stp,B9,trivial⟩) (show fB PR U0 LV (L7 5 PR)from⟨⟨M4 Pg,rfl⟩,trivial⟩) 400 vcIs_eq vcIs_ok (G2 rfl)
def r_col :RRO PR U0 LV cCol 52:=fun _ _ h=>h.elim
def r_han :RRO PR U0 LV cHan 13:=dU H3 fI (show fB PR U0 LV (L7 6 PR)from⟨⟨M4 LJ,rfl⟩,⟨M4 r_col,rfl⟩,trivial⟩) 400 vcHan_eq vcHan_ok (G2 rfl)
def OU :p9 PR U0 LV cDrp 14:=t7 H3 (show P7 PR U0 LV (G7 7)from⟨g_rem,OV,B9,trivial⟩) (show fB PR U0 LV (L7 7 PR)from⟨⟨M4 LJ,rfl⟩,trivial⟩) 400 vcDrp_eq vcDrp_ok (G2 rfl)
def g_clr :p9 PR U0 LV cClr 24:=t7 nZ (show P7 PR U0 LV (iN 0)from⟨OU,B9,trivial⟩) (show fB PR U0 LV (iD 0 PR)from⟨⟨M4 LJ,rfl⟩,trivial⟩) 400 vcClr_eq vcClr_ok (G2 rfl)
def g_cln :p9 PR U0 LV cCln 11:=t7 nZ (show P7 PR U0 LV (iN 1)from⟨OW,B9,trivial⟩) (show fB PR U0 LV (iD 1 PR)from⟨⟨M4 Pg,rfl⟩,trivial⟩) 400 vcCln_eq vcCln_ok (G2 rfl)
def xME (hc:RRO PR U0 LV cCos 23):fB PR U0 LV (iD 2 PR):=⟨⟨M4 hc,rfl⟩,⟨iS isP (mI OW) (iB _ rfl),rfl⟩,⟨iS isP (M4 r_han) (iB _ rfl),rfl⟩,⟨iS isP (M4 r_is) (iB _ rfl),rfl⟩,⟨iS isP (mI g_cln) (iB _ rfl),rfl⟩,⟨iS isP (mI OU) (iB _ rfl),rfl⟩,⟨iS isP (mI g_clr) (iB _ rfl),rfl⟩,trivial⟩
def g_mer (hc:RRO PR U0 LV cCos 23):p9 PR U0 LV cMer 4:=t7 nZ (show P7 PR U0 LV (iN 2)from⟨g_wgh,Pz,g_nwd,OT,B9,trivial⟩) (xME hc) 400 vcMer_eq vcMer_ok (G2 rfl)
open Go Go.Xe Go.Sx
def Ks:=qN
def sE :Ar->Ar->Prop
 | [.int k,.str t,.str y,.lst a,.str x,.lst c],[.int n]=>∀s:a9,isT s k t y a x c->(z5 s->n=s.size)/\(¬z5 s->n=0)|_,_=>False
def cCnt:=mkC "cnt" [nV] Ks [iV] sE
def JY:=cD
def HP :Nat->List (Ay×Con)
 |_=>bS 3
def NK :Nat->Aw->I9:=fun _ _=>[]
open Go Go.Xe Go.Sx
def vcCnt :Prop:=
 ∀a b c d f g,Ks [.int a,.str b,.str c,.lst d,.str f,.lst g]->Nd (Y9 [.lst (pQ (d8 6 1 [.int a,.str b,.str c,.lst d,.str f,.lst g]) 0 1),.int 1,.int 0,.int 0]) (∀h i j,E6 [.lst (pQ (d8 6 1 [.int a,.str b,.str c,.lst d,.str f,.lst g]) 0 1),.int 1,.int 0,.int 0] [.bool h,.int i,.int j]->((h=true->Nd (sE [.int a,.str b,.str c,.lst d,.str f,.lst g] [.int i]) True)/\(¬h=true->Nd (sE [.int a,.str b,.str c,.lst d,.str f,.lst g] [.int 0]) True)))
def vcCnt_eq :kq Go.Proofs.Tryz.prog cCnt JY (HP 0) (NK 0) 18=vcCnt:=by kernel_rfl
def vcCnt_ok :vcCnt:=by
 rintro _ _ _ _ _ _ ⟨s,rfl,rfl,rfl,rfl,rfl,rfl⟩;have e:pQ (d8 6 1 [(.int s.k),(.str s.t),(.str s.y),(.lst (s.a.map Att.row)),(.str s.x),(.lst (rows s.c))]) 0 1=[s.row]:=by rw[O2];rfl
 simp only[Nd,e,Y9,E6,sE,y6,Sj,Sq,oV,forall_eq',forall_eq,exists_eq',Si,Sc];refine⟨by omega,fun _ b n d ⟨h1,h2,h3,h4,f,h⟩=>⟨fun e=>?_,fun e v=>absurd (f.2 ⟨v.1,by have:=v.2.2;omega,by have:=v.2.1;omega⟩) e⟩⟩;obtain⟨g,j,l⟩:=f.1 e;have:=(h e).1;exact⟨fun _=>by omega,fun i=>absurd ⟨g,by omega,by omega⟩ i⟩
abbrev tN :Ax:=30
abbrev tS :Ax:=28
noncomputable def niN :Ba:=(PR.info? tN).getD default
def Fv :PR.info? tN=some niN:=by kernel_rfl
def tU :niN.size=6:=by kernel_rfl
def ME :PR.underlying tS=some (.slice tN):=by kernel_rfl
def agg_N :(PR.underlying tN).map dF=some true:=by kernel_rfl
def kf_N :kf PR tN=[.int .u8,.str,.str,.sl 101,.str,.sl tN]:=by kernel_rfl
def fa_N (i o:Nat):I6 PR tN (.pointer (some ⟨i,o,none⟩)) 5=some (.pointer (some ⟨i,o+5,none⟩)):=by kernel_rfl
def fa_A (i o:Nat):I6 PR tN (.pointer (some ⟨i,o,none⟩)) 3=some (.pointer (some ⟨i,o+3,none⟩)):=by kernel_rfl
section
variable {hp hp':Hp}{tm:Ao}{i o n e z:Nat}{cs:Ao}{vs:Af}{v u a:Av}{x y t:Nat}
def st_N (h:hp.m.get i=some (.cells cs n e z))(hn:o+6<=n)(hl:vs.length=6)(b:vs.all Value.oneCell'=true):D3 PR hp tN (.pointer (some ⟨i,o,none⟩)) (.agg vs.toArray)=some {hp with m:=hp.m.set i (some (.cells (fill cs o vs) n e z))}:=by have:(Value.agg vs.toArray).cells.toList=vs:=rfl;simp only[D3,h,Fv,tU,this,hl,v9,QQ hn,b,Bool.and_self,Ra,G9]
variable {k:Int}
def ix_N {q c:Nat}(h0:0<=k)(h1:k<q):C4 PR tS (.slice (some ⟨i,o,none⟩) q c) (.int .i64 k)=some (.pointer (some ⟨i,o+k.toNat*6,none⟩)):=by simp only[C4,ME,Fv,tU,h0,h1,RT,Bool.and_self,Ra]
variable {m:T Blk}
def ld_S' {nx:Nat}{b:Blk}(h:m.get i=some b)(hr:rdC b=some (cs,n,z))(hn:o+1<=n):D5 PR ⟨m,nx⟩ tS (.pointer (some ⟨i,o,none⟩))=cs.get o:=by simp only[D5,h,hr,ME,dF,Rb,QQ hn,Ra]
theorem xL {nx:Nat}{b:Blk}(h:m.get i=some b)(hr:rdC b=some (cs,n,z))(hn:o+6<=n)(hl:n9 cs o 6=some vs):D5 PR ⟨m,nx⟩ tN (.pointer (some ⟨i,o,none⟩))=some (.agg vs.toArray):=by
 have h1:=agg_N;cases c:PR.underlying tN with
 |none=>grind|some d=>rw[c]at h1;simp at h1;simp only[D5,h,hr,c,h1,Ra,Fv,tU,QQ hn,hl]
def O3 (hx:tm.get x=some a)(h:D5 PR hp t a=some v)(call:i9):xop PR call tm hp (.load t (.tmp x))=some (v,hp):=by simp only[c8,l5,c9,hx,RB,h,i8]
def dC (hx:tm.get x=some a)(hy:tm.get y=some u)(h:D3 PR hp t a u=some hp')(call:i9):xop PR call tm hp (.store t (.tmp x) (.tmp y))=some (undef,hp'):=by simp only[c8,l5,c9,hx,hy,RB,h]
def QA (hx:tm.get x=some (.pointer (some ⟨i,o,none⟩)))(call:i9):xop PR call tm hp (.fieldAddr tN (.tmp x) 5)=some (.pointer (some ⟨i,o+5,none⟩),hp):=by simp only[c8,l5,c9,hx,RB,fa_N,i8]
def QB (hx:tm.get x=some a)(hy:tm.get y=some u)(h:C4 PR t a u=some v)(call:i9):xop PR call tm hp (.indexAddr t (.tmp x) (.tmp y))=some (v,hp):=by simp only[c8,l5,c9,hx,hy,RB,h,i8]
def Gy (ht:Nat.beq t rgT=false)(hx:tm.get x=some a)(call:i9):xop PR call tm hp (.box t (.tmp x))=some (.pointer (some ⟨hp.nx,0,none⟩),⟨hp.m.set hp.nx (some (.cells (fill .e 0 a.cells.toList) a.cells.toList.length t a.cells.toList.length)),hp.nx+1⟩):=by simp only[c8,l5,IG,ht,Rb,xnw,c9,hx,RB,M1,Hp.add,zE,Nw.val,I4]
def vW {ov:Aa}{f:Ay}{fn:Func}(hf:PR.funcs[f]? =some fn)(b:jB fn=true){ats:Array Ax}(hx:tm.get x=some a)(h:W8 PR ov f [a] hp v hp'):XOp PR ov (.call ⟨.value (.func f),#[.tmp x],ats⟩) tm hp v hp':=
 h.mono fun n k=>by simp only[c8,l5,aH,c9,hx,RB,nH,hf,b,Ra];exact k
def xo_lt {m:Int}{t':Ax}(hx:tm.get x=some (.int .i64 k))(hy:tm.get y=some (.int .i64 m))(call:i9):xop PR call tm hp (.binOp .lss t (.tmp x) (.tmp y) t')=some (.bool (decide (k<m)),hp):=by simp only[c8,l5,c9,hx,hy,RB,G5,Z0,RT,Ra,C3,gX,i8]
def QC {t':Ax}(hx:tm.get x=some (.int .i64 k))(h0:0<=k)(h1:k<1000000)(call:i9):xop PR call tm hp (.binOp .add t (.tmp x) (.const (.int .i64 1)) t')=some (.int .i64 (k+1),hp):=by have h:cst (.int .i64 1)=true:=rfl;have b:IntKind.i64.wrap (k+1)=k+1:=rP (by rw[show IntKind.i64.min= -9223372036854775808 from rfl];omega) (by rw[show IntKind.i64.max=9223372036854775807 from rfl];omega);simp only[c8,l5,c9,hx,h,RB,G5,Z0,RT,Ra,C3,i8,b]
def El (hx:tm.get x=some a)(call:i9):xop PR call tm hp (.move (.tmp x))=some (a,hp):=by simp only[c8,l5,c9,hx,RB,i8]
def Pn (hx:tm.get x=some a)(call:i9):xop PR call tm hp (.assign (.tmp x))=some (a,hp):=by simp only[c8,l5,c9,hx,RB,i8]
def QE (call:i9):xop PR call tm hp (.move (.const (.int .i64 0)))=some (.int .i64 0,hp):=by have h:cst (.int .i64 0)=true:=rfl;simp only[c8,l5,c9,h,Ra,i8]
def QD {q:Aq}{l c:Nat}{b:Array Ax}(hx:tm.get x=some (.slice q l c))(ht:b.toList=[tS])(call:i9):xop PR call tm hp (.call ⟨.builtin .len,#[.tmp x],b⟩)=some (.int .i64 l,hp):=by have h:W7 hp PR tS (.slice q l c)=some (.int .i64 l):=lF ME q l c;simp only[c8,l5,aH,c9,hx,RB,B4,ht,h,i8]
def gp {d:Nat}:(y9 tm (some d) v).get x=if x=d then some v else tm.get x:=by unfold y9;rw[TQ]
def gn :(y9 tm none v).get x=tm.get x:=rfl
