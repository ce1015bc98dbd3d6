/- The writer of a diff: the condition of Diff holds.
  Conditions: none. -/
import Derived.Test.YtcjhhnoaoldcmaaGreatD7
import Derived.Test.YtcjhhnoaoldcmaaGreatD1
import Derived.Test.YtcjhhnoaoldcmaaGreatSm4
set_option linter.unusedVariables false
set_option linter.unusedSimpArgs false
namespace Go.D
open Go Go.Xe Go.Sx
open Go.C36 (row j0 lis cLong cRlong longPre longRel rlongPre rlongRel)
end Go.D
noncomputable section
namespace Go.D
open Go.Xe Go.Sx
open Go.C36 (row j0 lis cLong cRlong longPre longRel rlongPre rlongRel)
def rnamePre:=sPre
def rnameRel:=namedRel
def cRname:=mkC "rname" [sV] rnamePre [bV] rnameRel
def rstrPre:=sPre
def rstrRel:=textRel
def cRstr:=mkC "rstr" [sV] rstrPre [bV] rstrRel
def onePre:=trPre
def oneRel :List Dat->List Dat->Prop
 | [.int k,.str t,.str y,.lst a,.str x,.lst c],[.bool b]=>∀s:Tree,isT s k t y a x c->(b=true↔Alone s)
 |_,_=>False
def cOne:=mkC "one" [nV] onePre [bV] oneRel
def Fits (s:Tree)(lv:Int):Prop:=AllA s/\(s.depth:Int)<=lv/\s.size<=64
def rcntPre :List Dat->Prop
 | [.int k,.str t,.str y,.lst a,.str x,.lst c,.int lv]=>0<=lv/\lv<=6/\ ∃s:Tree,isT s k t y a x c
 |_=>False
def rcntRel :List Dat->List Dat->Prop
 | [.int k,.str t,.str y,.lst a,.str x,.lst c,.int lv],[.int n]=>1<=n/\n<=1000+64*lv/\ ∀s:Tree,isT s k t y a x c->(n<=64↔Fits s lv)/\(n<=64->n=s.size)
 |_,_=>False
def rcntMu :List Dat->Nat
 | [_,_,_,_,_,_,.int lv]=>lv.toNat
 |_=>0
def cRcnt:=mkC "rcnt" [nV,iV] rcntPre [iV] rcntRel
def rchkPre:=trPre
def rchkRel:=chkRel
def cRchk:=mkC "rchk" [nV] rchkPre [iV] rchkRel
def cpoPre:=cpdPre
def cpoRel:=cpdRel
def toG :List Lf:=[.g (.int .u8),.g .str,.g .str,.g (.lst 88),.g .str,.g (.acc 28 6)]
def cCpo:=mkC "cpo" [nV,bV] cpoPre [.agg toG] cpoRel
def kpB :List af8:=[(28,6,[.g (.int .u8),.g .str,.g .str,.g (.lst 88),.g .str,.g (.acc 28 6)])]
def kpF :List SV->SS->Option (List Nat):=fun args s=>match args with
 | [_,.ptr a _ _ _]=>some [a]
 |_=>none
def kpPre :List Dat->Prop
 | [.int k,.str t,.str y,.lst a,.str x,.lst c,.int k',.str t',.str y',.lst a',.str x',.lst c']=>(c=[]\/c'= [])/\(∃s:Tree,isT s k t y a x c/\AllA s)/\ ∃s':Tree,isT s' k' t' y' a' x' c'/\AllA s'
 |_=>False
def kpRel :List Dat->List Dat->Prop
 | [.int k,.str t,.str y,.lst a,.str x,.lst c,.int k',.str t',.str y',.lst a',.str x',.lst c'],[.int k2,.str t2,.str y2,.lst a2,.str x2,.lst c2]=>∃s:Tree,isT s k2 t2 y2 a2 x2 c2
 |_,_=>False
def cKp :Con:=⟨ "kp",[nV,.one (.ptr 0 6)],kpB,kpF,kpPre,[],kpB,noB,kpRel⟩
def rnInv:=nmInv
def rnMu:=slMu
def rsInv:=stInv
def rsMu:=slMu
def oaInv :List Dat->List Dat->Prop
 | [.lst L],[.int i]=>0<=i/\i<=ln L/\ ∀a:List Att,L=a.map Att.row->(∀z∈a.take i.toNat,vName z.n=true/\vStr z.v=true)/\Asc ((a.take i.toNat).map Att.n)
 |_,_=>False
def oaMu:=slMu
def obInv :List Dat->List Dat->Prop
 | [.lst L,.int i],[.int k]=>0<=k/\k<=i/\i<ln L/\ ∀a:List Att,L=a.map Att.row-> ∀z∈a.take k.toNat,lt z.n (a.getD i.toNat ⟨[],[]⟩).n=true
 |_,_=>False
def obMu :List Dat->List Dat->Nat
 | [_,.int i],[.int k]=>(i-k).toNat
 |_,_=>0
def ocInv :List Dat->List Dat->Prop
 | [.lst L],[.int i]=>0<=i/\i<=ln L/\Keys ((keysR L).take i.toNat)
 |_,_=>False
def ocMu:=slMu
def odInv :List Dat->List Dat->Prop
 | [.lst L,.int i],[.int k]=>0<=k/\k<=i/\i<ln L/\((keysR L).getD i.toNat []=[]\/ ∀z∈(keysR L).take k.toNat,z≠(keysR L).getD i.toNat [])
 |_,_=>False
def odMu:=obMu
def ctInv :List Dat->List Dat->Prop
 | [.lst C,.int lv],[.int i,.int n]=>0<=i/\i<=ln C/\1<=lv/\1<=n/\n<=1000+64*lv/\ ∀c:List Tree,C=rows c->(n<=64↔AllAs (c.take i.toNat)/\(Tree.depths (c.take i.toNat):Int)+1<=lv/\Tree.sizes (c.take i.toNat)+1<=64)/\(n<=64->n=Tree.sizes (c.take i.toNat)+1)
 |_,_=>False
def ctMu:=slMu
def wgInv :List Dat->List Dat->Prop
 | [.lst C,.int lv],[.int i,.int n]=>0<=i/\i<=ln C/\1<=lv/\1<=n/\n<=151+151*lv
 |_,_=>False
def wgMu:=slMu
def kaInv :List Dat->List Dat->Prop
 | [.lst M],[.int i]=>0<=i/\i<=ln M
 |_,_=>False
def kaMu:=slMu
def kbInv :List Dat->List Dat->Prop
 | [.lst C],[.int i,.int k,.str t,.str y,.lst a,.str x,.lst D]=>0<=i/\i<=ln C/\ln D<=16+i/\ ∃s:Tree,isT s k t y a x D
 |_,_=>False
def kbMu:=slMu
def ccInv :List Dat->List Dat->Prop
 | [.lst M,.int v],[.int k]=>0<=k
 |_,_=>False
def ccMu:=slMu
def annsG : FuncId → List (Nat × (Fm → SS → M1))
 |71=>[(0,y5 U0 "rn" (y7 [(3,.int .i64)] nob) (ghostT 0) rnInv rnMu)]
 |72=>[(0,y5 U0 "rs" (y7 [(3,.int .i64)] nob) (ghostT 0) rsInv rsMu)]
 | 94 => [(0, y5 U0 "oa" (y7 [(3, .int .i64), (4, .any)] nob) (ghCell 1 3) oaInv oaMu), (2, y5 U0 "ob" (y7 [(4, .int .i64)] nob) (gh2 (ghCell 1 3) (ghostT 3)) obInv obMu),
   (4,y5 U0 "oc" (y7 [(5,.int .i64),(6,.any)] nob) (ghCell 1 5) ocInv ocMu),(6,y5 U0 "od" (y7 [(6,.int .i64)] nob) (gh2 (ghCell 1 5) (ghostT 5)) odInv odMu)]
 |68=>[(0,y5 U0 "ct" (y7 [(6,.int .i64),(5,.int .i64)] nob) (gh2 (ghCell 2 5) (ghostT 1)) ctInv ctMu)]
 |16=>[(0,y5 U0 "wg" (y7 [(6,.int .i64),(5,.int .i64)] nob) (gh2 (ghCell 2 5) (ghostT 1)) wgInv wgMu)]
 |45=>annsA 45
 |42=>[(0,y5 U0 "ka" (y7 [(20,.int .i64),(5,.any)] nob) (ghostT 4) kaInv kaMu),(2,y5 U0 "kb" (y7 [(47,.int .i64),(6,.any),(7,.any)] (t9 1 [.int .u8,.str,.str,.lst 88,.str,.acc 28 6])) (ghostT 45) kbInv kbMu)]
 |50=>[(0,y5 U0 "cc" (y7 [(8,.int .i64)] nob) (gh2 (ghL 0) (ghostT 1)) ccInv ccMu)]
 |g=>annsC g
def stageG :Nat->List (FuncId×Con)
 |0=>[(LVn,D1 "lives")]
 |1=>[(71,cRname),(72,cRstr),(LVn,D1 "lives")]
 |2=>[(94,cOne),(LVn,D1 "lives")]
 |3=>[(68,cRcnt),(LVn,D1 "lives")]
 |4=>[(34,cChk),(45,cCpd),(31,cNode),(LVn,D1 "lives")]
 |5=>[(45,cCpd),(LVn,D1 "lives")]
 |6=>[(34,cChk),(45,cCpd),(LVn,D1 "lives")]
 |_=>[(34,cChk),(45,cCpo),(42,cKp),(LVn,D1 "lives")]
def primsG (P:Program):P7:=[]
end Go.D
