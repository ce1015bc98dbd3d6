/- Chapter 19: the contracts stand.
  Conditions: none. -/
import Derived.Test.YtcjhhnoaoldcmaaF0
import Derived.Test.YtcjhhnoaoldcmaaC5
import Derived.Test.YtcjhhnoaoldcmaaA9
import Derived.Test.YtcjhhnoaoldcmaaB4
import Derived.Test.YtcjhhnoaoldcmaaD1
import Derived.Test.YtcjhhnoaoldcmaaSm4
set_option linter.unusedVariables false
set_option maxRecDepth 100000
noncomputable section
namespace Go.D
open Go Go.Xe Go.Sx Go.RowKit
open Go.C36 (row j8 lis cLong cRlong longPre longRel rlongPre rlongRel)
open Go.Proofs
theorem g_lives :d6 PR U0 LV (J4 "lives") LVn:=bj9 rfl "lives"
theorem st_l :P2 PR U0 LV [(LVn,J4 "lives")]:=⟨g_lives,trivial⟩
theorem noX :aT8 PR U0 LV []:=trivial
theorem g_named :d6 PR U0 LV cNamed 102:=j0 annsA st_l noX 400 vcNamed_eq vcNamed_ok (H2 rfl)
theorem g_text :d6 PR U0 LV cText 101:=j0 annsA st_l noX 400 vcText_eq vcText_ok (H2 rfl)
theorem stA1 :P2 PR U0 LV (stageA 1):=⟨g_named,g_text,g_lives,trivial⟩
theorem g_alone :d6 PR U0 LV cAlone 94:=j0 annsA stA1 noX 400 vcAlone_eq vcAlone_ok (H2 rfl)
theorem stA2 :P2 PR U0 LV (stageA 2):=⟨g_alone,g_lives,trivial⟩
theorem g_walk :d6 PR U0 LV cWalk 93:=J9 annsA stA2 noX 400 walkMu vcWalk_eq vcWalk_ok (fun n=>H2 rfl)
theorem stA3 :P2 PR U0 LV (stageA 3):=⟨g_walk,g_lives,trivial⟩
theorem g_chk :d6 PR U0 LV cChk 34:=j0 annsA stA3 noX 400 vcChk_eq vcChk_ok (H2 rfl)
theorem g_cpd :d6 PR U0 LV cCpd 43:=J9 annsA st_l noX 400 cpdMu vcCpd_eq vcCpd_ok (fun n=>H2 rfl)
theorem g_tag :d6 PR U0 LV cTag 21:=j0 annsB st_l noX 400 vcTag_eq vcTag_ok (H2 rfl)
theorem g_ats :d6 PR U0 LV cAts 22:=j0 annsB st_l noX 400 vcAts_eq vcAts_ok (H2 rfl)
theorem stB1 :P2 PR U0 LV (stageB 1):=⟨g_tag,g_ats,g_lives,trivial⟩
theorem g_bld :d6 PR U0 LV cBld 23:=J9 annsB stB1 noX 400 bldMu vcBld_eq vcBld_ok (fun n=>H2 rfl)
theorem stB2 :P2 PR U0 LV (stageB 2):=⟨g_bld,g_tag,g_ats,g_lives,trivial⟩
theorem g_tree :d6 PR U0 LV cTree 6:=j0 annsB stB2 noX 400 vcTree_eq vcTree_ok (H2 rfl)
end Go.D
noncomputable section
namespace Go.D
open Go.Xe Go.Sx
open Go.C36 (row j8 lis cLong cRlong longPre longRel rlongPre rlongRel)
def rnamePre:=sPre
def rnameRel:=namedRel
def cRname:=mkC "rname" [sV] rnamePre [bV] rnameRel
def rstrPre:=sPre
def rstrRel:=textRel
def cRstr:=mkC "rstr" [sV] rstrPre [bV] rstrRel
def onePre:=trPre
def oneRel :List Dat->List Dat->Prop
 | [.int k,.str t,.str y,.lst a,.str x,.lst c],[.bool b]=>∀s:Tree,isT s k t y a x c->(b=true↔Alone s)
 |_,_=>False
def cOne:=mkC "one" [nV] onePre [bV] oneRel
def Fits (s:Tree)(lv:Int):Prop:=AllA s/\(s.depth:Int)<=lv/\s.size<=64
def rcntPre :List Dat->Prop
 | [.int k,.str t,.str y,.lst a,.str x,.lst c,.int lv]=>0<=lv/\lv<=6/\ ∃s:Tree,isT s k t y a x c
 |_=>False
def rcntRel :List Dat->List Dat->Prop
 | [.int k,.str t,.str y,.lst a,.str x,.lst c,.int lv],[.int n]=>1<=n/\n<=1000+64*lv/\ ∀s:Tree,isT s k t y a x c->(n<=64↔Fits s lv)/\(n<=64->n=s.size)
 |_,_=>False
def rcntMu :List Dat->Nat
 | [_,_,_,_,_,_,.int lv]=>lv.toNat
 |_=>0
def cRcnt:=mkC "rcnt" [nV,iV] rcntPre [iV] rcntRel
def rchkPre:=trPre
def rchkRel:=chkRel
def cRchk:=mkC "rchk" [nV] rchkPre [iV] rchkRel
def toG :List Lf:=[.g (.int .u8),.g .str,.g .str,.g (.lst 82),.g .str,.g (.acc 28 6)]
def mat2Pre:=twoPre
def mat2Rel:=matRel
def cMat2:=mkC "mat2" [cV,cV] mat2Pre [.one (.g (.acc 3 1))] mat2Rel
def rnInv:=nmInv
def rnMu:=slMu
def rsInv:=stInv
def rsMu:=slMu
def oaInv :List Dat->List Dat->Prop
 | [.lst L],[.int i]=>0<=i/\i<=ln L/\ ∀a:List Att,L=a.map Att.row->(∀z∈a.take i.toNat,vName z.n=true/\vStr z.v=true)/\Asc ((a.take i.toNat).map Att.n)
 |_,_=>False
def oaMu:=slMu
def obInv :List Dat->List Dat->Prop
 | [.lst L,.int i],[.int k]=>0<=k/\k<=i/\i<ln L/\ ∀a:List Att,L=a.map Att.row-> ∀z∈a.take k.toNat,lt z.n (a.getD i.toNat ⟨[],[]⟩).n=true
 |_,_=>False
def obMu :List Dat->List Dat->Nat
 | [_,.int i],[.int k]=>(i-k).toNat
 |_,_=>0
def ocInv :List Dat->List Dat->Prop
 | [.lst L],[.int i]=>0<=i/\i<=ln L/\Keys ((keysR L).take i.toNat)
 |_,_=>False
def ocMu:=slMu
def odInv :List Dat->List Dat->Prop
 | [.lst L,.int i],[.int k]=>0<=k/\k<=i/\i<ln L/\((keysR L).getD i.toNat []=[]\/ ∀z∈(keysR L).take k.toNat,z≠(keysR L).getD i.toNat [])
 |_,_=>False
def odMu:=obMu
def ctInv :List Dat->List Dat->Prop
 | [.lst C,.int lv],[.int i,.int n]=>0<=i/\i<=ln C/\1<=lv/\1<=n/\n<=1000+64*lv/\ ∀c:List Tree,C=rows c->(n<=64↔AllAs (c.take i.toNat)/\(Tree.depths (c.take i.toNat):Int)+1<=lv/\Tree.sizes (c.take i.toNat)+1<=64)/\(n<=64->n=Tree.sizes (c.take i.toNat)+1)
 |_,_=>False
def ctMu:=slMu
def annsN : FuncId → List (Nat × (Fm → SS → L3))
 |106=>[(0,E5 U0 "rn" (E7 [(3,.int .i64)] nob) (ghostT 0) rnInv rnMu)]
 |105=>[(0,E5 U0 "rs" (E7 [(3,.int .i64)] nob) (ghostT 0) rsInv rsMu)]
 | 95 => [(0, E5 U0 "oa" (E7 [(3, .int .i64), (4, .any)] nob) (ghCell 1 3) oaInv oaMu), (2, E5 U0 "ob" (E7 [(4, .int .i64)] nob) (gh2 (ghCell 1 3) (ghostT 3)) obInv obMu),
   (4,E5 U0 "oc" (E7 [(5,.int .i64),(6,.any)] nob) (ghCell 1 5) ocInv ocMu),(6,E5 U0 "od" (E7 [(6,.int .i64)] nob) (gh2 (ghCell 1 5) (ghostT 5)) odInv odMu)]
 |76=>[(0,E5 U0 "ct" (E7 [(6,.int .i64),(5,.int .i64)] nob) (gh2 (ghCell 2 5) (ghostT 1)) ctInv ctMu)]
 |g=>annsC g
def stageN :Nat->List (FuncId×Con)
 |0=>[(LVn,J4 "lives")]
 |1=>[(106,cRname),(105,cRstr),(LVn,J4 "lives")]
 |2=>[(95,cOne),(LVn,J4 "lives")]
 |_=>[(76,cRcnt),(LVn,J4 "lives")]
def primsN (P:Program):R9:=[]
end Go.D
