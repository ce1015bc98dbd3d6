/- DiffsSelf: its contract.
  Conditions: none. -/
import Derived.Test.YtcjhhnoaoldcmaaGreatH3
set_option linter.unusedVariables false
noncomputable section
namespace Go.D
open Go.Xe Go.Sx
open Go.C36 (row j0 lis cLong cRlong longPre longRel rlongPre rlongRel)
def slfPre :List Dat->Prop
 | [.int t,.int y,.lst C,.int b]=>u8 t/\u8 y/\bytes C/\u8 b
 |_=>False
def slfRel :List Dat->List Dat->Prop
 |_,[.bool b]=>b=true
 |_,_=>False
def cSlf:=mkC "slf" [.agg [.g (.int .u8),.g (.int .u8),.g (.lst 5)],uV] slfPre [bV] slfRel
def saInv :List Dat->List Dat->Prop
 | [.int k0,.str t0,.str y0,.lst a0,.str x0,.lst c0],[.int i,.int k,.str t,.str y,.lst a,.str x,.lst c]=>0<=i/\i<=ln c0/\ln c0<=16/\k=k0/\t=t0/\y=y0/\a=a0/\x=x0/\ ∀l0:List Tree,c0=rows l0-> ∃l:List Tree,c=rows l/\l.length=l0.length/\ ∀z∈l.take i.toNat,z.y≠ []
 |_,_=>False
def saMu :List Dat->List Dat->Nat
 | [_,_,_,_,_,.lst c0],.int i::_=>(ln c0-i).toNat
 |_,_=>0
def sbInv :List Dat->List Dat->Prop
 | [.int k0,.str t0,.str y0,.lst a0,.str x0,.lst c0],[.int i,.int k,.str t,.str y,.lst a,.str x,.lst c]=>0<=i/\i<=ln c0/\ln c0<=16/\k=k0/\t=t0/\y=y0/\a=a0/\x=x0/\ ∀l0:List Tree,c0=rows l0-> ∃l:List Tree,c=rows l/\(l.length:Int)=i/\ ∀z∈l,z∈l0
 |_,_=>False
def sbMu:=saMu
def scInv :List Dat->List Dat->Prop
 | [.lst S],[.int i]=>0<=i/\i<=ln S
 |_,_=>False
def scMu:=slMu
def ghN (t:Nat):Fm->SS->List (So×E):=gh2 (ghCell t 0) (gh2 (ghCell t 1) (gh2 (ghCell t 2) (gh2 (ghCell t 3) (gh2 (ghCell t 4) (ghSl t 5)))))
def trG :List G:=[.int .u8,.str,.str,.lst 88,.str,.acc 28 6]
def annsK : FuncId → List (Nat × (Fm → SS → M1))
 | 4 => [(0, y5 U0 "sa" (y7 [(9, .int .i64)] (t9 5 trG)) (ghN 5) saInv saMu), (2, y5 U0 "sb" (y7 [(12, .int .i64)] (t9 6 trG)) (ghN 5) sbInv sbMu),
   (4,y5 U0 "sc" (y7 [(13,.int .i64)] nob) (ghL 7) scInv scMu)]
 |_=>[]
def stageK :Nat->List (FuncId×Con)
 |_=>[(7,cTro),(15,cRchk),(11,cApm),(13,cSam),(LVn,D1 "lives")]
def primsK (P:Program):P7:=[(8,br1 P U0 cDda)]
end Go.D
