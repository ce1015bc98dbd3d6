/- The trees of the laws: contracts of Tag, attrs, build and Of.
  Conditions: none. -/
import Derived.Test.YtcjhhnoaoldcmaaGreatA1
set_option linter.unusedVariables false
noncomputable section
namespace Go.D
open Go.Xe Go.Sx
def u8 (n:Int):Prop:=0<=n/\n<256
def bytes (L:Sx.Rows):Prop:=∃l:List Int,L=l.map (fun n=>[Dat.int n])/\ ∀n∈l,u8 n
def tabT :Sx.Rows:=Sx.chunk 1 4 [(.str ([97]:List UInt8)),(.str ([98]:List UInt8)),(.str ([112,49]:List UInt8)),(.str ([115,105,120,116,101,101,110,98,121,116,101,115,116,97,103,48]:List UInt8))]
def tabA :Sx.Rows:=Sx.chunk 1 4 [(.str []),(.str ([120]:List UInt8)),(.str ([97,34,98,92,99]:List UInt8)),(.str ([32,126]:List UInt8))]
def tabB :Sx.Rows:=Sx.chunk 1 4 [(.str []),(.str ([120]:List UInt8)),(.str ([104,105,32,34,121,111,117,92]:List UInt8)),(.str ([48]:List UInt8))]
def tabK :Sx.Rows:=Sx.chunk 1 4 [(.str ([107,48]:List UInt8)),(.str ([107,49]:List UInt8)),(.str ([107,50]:List UInt8)),(.str ([107,51]:List UInt8))]
def tagF (n:Int):Str:=cS tabT (n.tmod 4) 0
def atB (b:Int)(n:Str)(w:Int):List Att:=if b.tmod 2=1 then [⟨n,cS tabA ((IntKind.wrap .u8 w).tmod 4) 0⟩]else []
def atsF (n:Int):List Att:=atB (Sx.shrI .u8 n 0) [99,108,97,115,115] (Sx.shrI .u8 n 3)++(atB (Sx.shrI .u8 n 1) [105,100] (Sx.shrI .u8 n 3+1)++atB (Sx.shrI .u8 n 2) [122,57] (Sx.shrI .u8 n 3+2))
def aj8 (l:List Tree)(y:Str):Str:=if y∈l.map Tree.y then []else y
def bldF : Nat → Sx.Rows → Int → Int → List Tree → List Tree × Int
 |0,_,i,_,l=>(l,i)
 | f + 1, C, i, lv, l => if i < ln C ∧ i < 19 then
   (if(cI C i 0).tmod 8=0 then(l,i+1)
    else if l.length=16 then bldF f C (i+1) lv l
    else if(cI C i 0).tmod 8<3 then bldF f C (i+1) lv (l++ [.mk 2 [] [] [] (cS tabB ((IntKind.wrap .u8 ((cI C i 0).tdiv 8)).tmod 4) 0) []])
    else if lv<5 then bldF f C (bldF f C (i+1) (lv+1) []).2 lv (l++ [.mk 1 (tagF (IntKind.wrap .u8 ((cI C i 0).tdiv 8))) (if(cI C i 0).tmod 8=3 then aj8 l (cS tabK ((IntKind.wrap .u8 ((cI C i 0).tdiv 8)).tmod 4) 0)else []) (atsF (IntKind.wrap .u8 ((cI C i 0).tdiv 2))) [] (bldF f C (i+1) (lv+1) []).1])
    else bldF f C (i+1) lv (l++ [.mk 1 (tagF (IntKind.wrap .u8 ((cI C i 0).tdiv 8))) (if(cI C i 0).tmod 8=3 then aj8 l (cS tabK ((IntKind.wrap .u8 ((cI C i 0).tdiv 8)).tmod 4) 0)else []) (atsF (IntKind.wrap .u8 ((cI C i 0).tdiv 2))) [] []]))
  else(l,i)
def ofN (t y:Int)(C:Sx.Rows):Tree:= .mk 1 (tagF t) (if y.tmod 3=1 then [114,111,111,116]else []) (atsF y) [] (bldF 20 C 0 2 []).1
def tagPre :List Dat->Prop
 | [.int n]=>u8 n
 |_=>False
def tagRel :List Dat->List Dat->Prop
 | [.int n],[.str s]=>s=tagF n/\vName s=true
 |_,_=>False
def cTag:=mkC "tag" [uV] tagPre [sV] tagRel
def OkAts (a:List Att):Prop:=a.length<=3/\(∀x∈a,vName x.n=true/\vStr x.v=true)/\Asc (a.map Att.n)
def atsPre:=tagPre
def atsRel :List Dat->List Dat->Prop
 | [.int n],[.lst L]=>L=(atsF n).map Att.row/\OkAts (atsF n)
 |_,_=>False
def cAts:=mkC "ats" [uV] atsPre [.one (.g (.lst 88))] atsRel
def Kids (l:List Tree)(lv n:Int):Prop:=l.length<=16/\AllAs l/\Keys (l.map Tree.y)/\lv+Tree.depths l<=6/\Tree.sizes l<=n
def bldPre :List Dat->Prop
 | [.lst C,.int i,.int lv]=>bytes C/\0<=i/\i<=19/\2<=lv/\lv<=5
 |_=>False
def bldMu :List Dat->Nat
 | [_,_,.int lv]=>(6-lv).toNat
 |_=>0
def bldRel :List Dat->List Dat->Prop
 | [.lst C,.int i,.int lv],[.lst L,.int i']=>i<=i'/\i'<=19/\ ∃l,L=rows l/\Kids l lv (i'-i)/\ ∀f:Nat,20-i<=f->bldF f C i lv []=(l,i')
 |_,_=>False
def cBld:=mkC "bld" [.one (.g (.lst 5)),iV,iV] bldPre [.one (.g (.acc 28 6)),iV] bldRel
def treePre :List Dat->Prop
 | [.int t,.int y,.lst C]=>u8 t/\u8 y/\bytes C
 |_=>False
def treeRel :List Dat->List Dat->Prop
 | [.int n,.int m,.lst C],[.int k,.str t,.str y,.lst a,.str x,.lst c]=>isT (ofN n m C) k t y a x c/\Valid (ofN n m C)
 |_,_=>False
def trO :List Lf:=[.g (.int .u8),.g .str,.g .str,.g (.lst 88),.g .str,.g (.acc 28 6)]
def troPre:=treePre
def troRel:=treeRel
def cTro:=mkC "tro" [.agg [.g (.int .u8),.g (.int .u8),.g (.lst 5)]] troPre [.agg trO] troRel
def blInv :List Dat->List Dat->Prop
 | [.lst C,.int i0,.int lv],[.int i,.lst L]=>bytes C/\0<=i0/\i0<=i/\i<=19/\2<=lv/\lv<=5/\ ∃l,L=rows l/\Kids l lv (i-i0)/\ ∀f:Nat,20-i0<=f-> ∃g:Nat,20-i<=g/\bldF f C i0 lv []=bldF g C i lv l
 |_,_=>False
def blMu :List Dat->List Dat->Nat
 |_,.int i::_=>(19-i).toNat
 |_,_=>0
def keyInv :List Dat->List Dat->Prop
 | [.lst L,.str t0,.str y0,.lst a0],[.int i,.int k,.str t,.str y,.lst a,.str x,.lst c]=>0<=i/\i<=L.length/\k=1/\t=t0/\a=a0/\x=[]/\c=[]/\y=if y0∈(keysR L).take i.toNat then []else y0
 |_,_=>False
def keyMu:=slMu
def annsB : FuncId → List (Nat × (Fm → SS → M1))
 | 27 => [(0, y5 U0 "bl" (y7 [(1, .int .i64), (8, .acc 28 6)] nob) (gh2 (ghostT 0) (gh2 (ghostT 1) (ghostT 2))) blInv blMu),
   (2,y5 U0 "key" (y7 [(11,.int .i64)] (t9 10 [.int .u8,.str,.str,.lst 88,.str,.lst 28])) (gh2 (ghostT 8) (gh2 (ghCell 10 1) (gh2 (ghCell 10 2) (ghCell 10 3)))) keyInv slMu)]
 |_=>[]
def stageB :Nat->List (FuncId×Con)
 |0=>[(LVn,D1 "lives")]
 |1=>[(25,cTag),(26,cAts),(LVn,D1 "lives")]
 |_=>[(27,cBld),(25,cTag),(26,cAts),(LVn,D1 "lives")]
def primsB (P:Program):P7:=[]
end Go.D
