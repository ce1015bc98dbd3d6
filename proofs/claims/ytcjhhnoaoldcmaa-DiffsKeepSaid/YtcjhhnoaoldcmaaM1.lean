/- Trees that are changed in place: loads, stores and calls in the executor's memory.
  Conditions: none. -/
import Derived.Test.YtcjhhnoaoldcmaaA1
import Derived.Test.YtcjhhnoaoldcmaaP0
import Derived.Test.YtcjhhnoaoldcmaaSm4
import Derived.Test.YtcjhhnoaoldcmaaRows
import Derived.KernelRfl
set_option linter.unusedVariables false
noncomputable section
namespace Go.D
open Go Go.Xe Go.Sx
abbrev tN :TypeId:=28
abbrev tS :TypeId:=26
abbrev tI :TypeId:=30
noncomputable def niN :TypeInfo:=(PR.info? tN).getD default
theorem niN_eq :PR.info? tN=some niN:=by kernel_rfl
theorem niN_size :niN.size=6:=by kernel_rfl
theorem niN_bytes :Nat.ble niN.bytes 1048576=true:=by kernel_rfl
noncomputable def niS :TypeInfo:=(PR.info? tS).getD default
theorem niS_eq :PR.info? tS=some niS:=by kernel_rfl
theorem niS_size :niS.size=1:=by kernel_rfl
theorem und_S :PR.underlying tS=some (.slice tN):=by kernel_rfl
theorem und_I :PR.underlying tI=some (.slice 3):=by kernel_rfl
theorem agg_N :(PR.underlying tN).map ae1=some true:=by kernel_rfl
theorem kf_N :kf PR tN=[.int .u8,.str,.str,.sl 82,.str,.sl tN]:=by kernel_rfl
theorem kf_I :kf PR 3=[.int .i64]:=by kernel_rfl
theorem fa_N (i o:Nat):D2 PR tN (.pointer (some ⟨i,o,none⟩)) 5=some (.pointer (some ⟨i,o+5,none⟩)):=by kernel_rfl
section
variable {hp hp':Hp}{tm:T Value}{i o n e z:Nat}{cs:T Value}{vs:List Value}{v u a:Value}{x y t:Nat}
theorem st_N (h : hp.m.get i = some (.cells cs n e z)) (hn : o + 6 ≤ n) (hl : vs.length = 6) ( d : vs.all Value.oneCell' = true) :
  A9 PR hp tN (.pointer (some ⟨i,o,none⟩)) (.agg vs.toArray)=some {hp with m:=hp.m.set i (some (.cells (fill cs o vs) n e z))}:=by
 have:(Value.agg vs.toArray).cells.toList=vs:=by simp[Value.cells]
 simp only[A9,h,niN_eq,niN_size,this,hl,l8,bA8 hn,d,Bool.and_self,bB8,I8]
variable {q:Option Addr}{c:Nat}
theorem st_S (h : hp.m.get i = some (.cells cs n e z)) (hn : o + 1 ≤ n)  {l:Nat} :
  A9 PR hp tS (.pointer (some ⟨i,o,none⟩)) (.slice q l c)=some {hp with m:=hp.m.set i (some (.cells (fill cs o [.slice q l c]) n e z))}:=by
 have:(Value.slice q l c).cells.toList=[.slice q l c]:=rfl
 have h2: [Value.slice q l c].all Value.oneCell'=true:=rfl
 simp only[A9,h,niS_eq,niS_size,this,bE4,bJ8,bD3,l8,bA8 hn,h2,Bool.and_self,bB8,I8]
variable {k:Int}
theorem ix_N {q:Nat}(h0:0<=k)(h1:k<q):k8 PR tS (.slice (some ⟨i,o,none⟩) q c) (.int .i64 k)=some (.pointer (some ⟨i,o+k.toNat*6,none⟩)):=by
 simp only[k8,und_S,niN_eq,niN_size,h0,h1,bF7,Bool.and_self,bB8]
theorem ix_I {q:Nat}(h0:0<=k)(h1:k<q):k8 PR tI (.slice (some ⟨i,o,none⟩) q c) (.int .i64 k)=some (.pointer (some ⟨i,o+k.toNat*1,none⟩)):=by
 have h2:PR.info? 3=some ((PR.info? 3).getD default):=by kernel_rfl
 have h3:((PR.info? 3).getD default).size=1:=by kernel_rfl
 simp only[k8,und_I,h0,h1,bF7,Bool.and_self,bB8]
 rw[h2]
 simp only[h3]
variable {m:T Blk}{nx:Nat}{b:Blk}
theorem ld_S' (h:m.get i=some b)(hr:rdC b=some (cs,n,z))(hn:o+1<=n):A8 PR ⟨m,nx⟩ tS (.pointer (some ⟨i,o,none⟩))=cs.get o:=by
 simp only[A8,h,hr,und_S,ae1,bB9,bA8 hn,bB8]
theorem ld_N' (h:m.get i=some b)(hr:rdC b=some (cs,n,z))(hn:o+6<=n)(hl:f9 cs o 6=some vs):A8 PR ⟨m,nx⟩ tN (.pointer (some ⟨i,o,none⟩))=some (.agg vs.toArray):=by
 have h1:=agg_N
 cases g:PR.underlying tN with
 |none=>rw[g]at h1;cases h1
 |some d=>
  rw[g]at h1
  simp only[bE6,bA1]at h1
  simp only[A8,h,hr,g,h1,bB8,niN_eq,niN_size,bA8 hn,hl]
theorem ld_I' (h:m.get i=some b)(hr:rdC b=some (cs,n,z))(hn:o+1<=n):A8 PR ⟨m,nx⟩ 3 (.pointer (some ⟨i,o,none⟩))=cs.get o:=by
 have h2:(PR.underlying 3).map ae1=some false:=by kernel_rfl
 cases g:PR.underlying 3 with
 |none=>rw[g]at h2;cases h2
 |some d=>
  rw[g]at h2
  simp only[bE6,bA1]at h2
  simp only[A8,h,hr,g,h2,bB9,bA8 hn,bB8]
theorem xo_load (hx:tm.get x=some a)(h:A8 PR hp t a=some v)(call:c8):xop PR call tm hp (.load t (.tmp x))=some (v,hp):=by
 simp only[a9,d9,a8,hx,bE3,h,d8]
theorem xo_store (hx:tm.get x=some a)(hy:tm.get y=some u)(h:A9 PR hp t a u=some hp')(call:c8):xop PR call tm hp (.store t (.tmp x) (.tmp y))=some (undef,hp'):=by
 simp only[a9,d9,a8,hx,hy,bE3,h]
theorem xo_fld (hx:tm.get x=some (.pointer (some ⟨i,o,none⟩)))(call:c8):xop PR call tm hp (.fieldAddr tN (.tmp x) 5)=some (.pointer (some ⟨i,o+5,none⟩),hp):=by
 simp only[a9,d9,a8,hx,bE3,fa_N,d8]
theorem xo_idx (hx:tm.get x=some a)(hy:tm.get y=some u)(h:k8 PR t a u=some v)(call:c8):xop PR call tm hp (.indexAddr t (.tmp x) (.tmp y))=some (v,hp):=by
 simp only[a9,d9,a8,hx,hy,bE3,h,d8]
theorem xo_nil {p:Addr}(hx:tm.get x=some (.pointer (some p)))(call:c8):xop PR call tm hp (.nilCheck (.tmp x))=some (.pointer (some p),hp):=by
 simp only[a9,d9,a8,hx,bE3]
theorem xo_box (hx:tm.get x=some a)(call:c8):xop PR call tm hp (.box t (.tmp x))=some (.pointer (some ⟨hp.nx,0,none⟩),⟨hp.m.set hp.nx (some (.cells (fill .e 0 a.cells.toList) a.cells.toList.length t a.cells.toList.length)),hp.nx+1⟩):=by
 simp only[a9,d9,xnw,a8,hx,bE3,C7,Hp.add,aG9,Nw.val,A4]
variable {f:FuncId}
theorem xo_call1 {ov:FuncId->Option TypeId}{fn:Func}(hf:PR.funcs[f]? =some fn)(d:O7 fn=true){ats:Array TypeId}(hx:tm.get x=some a)(h:E4 PR ov f [a] hp v hp'):XOp PR ov (.call ⟨.value (.func f),#[.tmp x],ats⟩) tm hp v hp':=
 h.mono fun n k=>by simp only[a9,d9,U2,a8,hx,bE3,ar3,hf,d,bB8];exact k
theorem xo_lt {m:Int}{t':TypeId}(hx:tm.get x=some (.int .i64 k))(hy:tm.get y=some (.int .i64 m))(call:c8):xop PR call tm hp (.binOp .lss t (.tmp x) (.tmp y) t')=some (.bool (decide (k<m)),hp):=by
 simp only[a9,d9,a8,hx,hy,bE3,T8,ae4,bF7,bB8,t8,ah2,d8]
theorem xo_ge0 {t':TypeId}(hx:tm.get x=some (.int .i64 k))(call:c8):xop PR call tm hp (.binOp .geq t (.tmp x) (.const (.int .i64 0)) t')=some (.bool (decide (0<=k)),hp):=by
 have h:cst (.int .i64 0)=true:=rfl
 simp only[a9,d9,a8,hx,h,bE3,T8,ae4,bF7,bB8,t8,ah2,d8]
theorem xo_inc {t':TypeId}(hx:tm.get x=some (.int .i64 k))(h0:0<=k)(h1:k<1000000)(call:c8):xop PR call tm hp (.binOp .add t (.tmp x) (.const (.int .i64 1)) t')=some (.int .i64 (k+1),hp):=by
 have h:cst (.int .i64 1)=true:=rfl
 have d:IntKind.i64.wrap (k+1)=k+1:=be1 (by rw[show IntKind.i64.min= -9223372036854775808 from rfl];omega) (by rw[show IntKind.i64.max=9223372036854775807 from rfl];omega)
 simp only[a9,d9,a8,hx,h,bE3,T8,ae4,bF7,bB8,t8,d8,d]
theorem xo_mv (hx:tm.get x=some a)(call:c8):xop PR call tm hp (.move (.tmp x))=some (a,hp):=by
 simp only[a9,d9,a8,hx,bE3,d8]
theorem xo_as (hx:tm.get x=some a)(call:c8):xop PR call tm hp (.assign (.tmp x))=some (a,hp):=by
 simp only[a9,d9,a8,hx,bE3,d8]
theorem xo_mv0 (call:c8):xop PR call tm hp (.move (.const (.int .i64 0)))=some (.int .i64 0,hp):=by
 have h:cst (.int .i64 0)=true:=rfl
 simp only[a9,d9,a8,h,bB8,d8]
theorem xo_len {l:Nat}{d:Array TypeId}(hx:tm.get x=some (.slice q l c))(ht:d.toList=[tS])(call:c8):xop PR call tm hp (.call ⟨.builtin .len,#[.tmp x],d⟩)=some (.int .i64 l,hp):=by
 have h:Q3 hp PR tS (.slice q l c)=some (.int .i64 l):=aZ4 und_S q l c
 simp only[a9,d9,U2,a8,hx,bE3,A6,ht,h,d8]
theorem xo_call2 {ov:FuncId->Option TypeId}{fn:Func}(hf:PR.funcs[f]? =some fn)(d:O7 fn=true){ats:Array TypeId}{y:Nat}{b:Value}(hx:tm.get x=some a)(hy:tm.get y=some b)(h:E4 PR ov f [a,b] hp v hp'):XOp PR ov (.call ⟨.value (.func f),#[.tmp x,.tmp y],ats⟩) tm hp v hp':=
 h.mono fun n k=>by simp only[a9,d9,U2,a8,hx,hy,bE3,ar3,hf,d,bB8];exact k
theorem gp {d:Nat}:(j2 tm (some d) v).get x=if x=d then some v else tm.get x:=by
 unfold j2;rw[T.get_set]
theorem gn :(j2 tm none v).get x=tm.get x:=rfl
end
end Go.D
