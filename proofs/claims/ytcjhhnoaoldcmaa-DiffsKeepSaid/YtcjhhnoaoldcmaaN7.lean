/- Trees that are the same: contracts.
  Conditions: none. -/
import Derived.Test.YtcjhhnoaoldcmaaF1
import Derived.Test.YtcjhhnoaoldcmaaRows
import Derived.KernelRfl
set_option linter.unusedVariables false
noncomputable section
namespace Go.D
open Go.Xe Go.Sx
open Go.C36 (row j8 lis cLong cRlong longPre longRel rlongPre rlongRel)
def equPre :List Dat->Prop
 | [.int k,.str t,.str y,.lst a,.str x,.lst c,.int k',.str t',.str y',.lst a',.str x',.lst c']=>(∃s:Tree,isT s k t y a x c/\AllA s)/\ ∃s':Tree,isT s' k' t' y' a' x' c'/\AllA s'
 |_=>False
def equRel :List Dat->List Dat->Prop
 | [.int k,.str t,.str y,.lst a,.str x,.lst c,.int k',.str t',.str y',.lst a',.str x',.lst c'],[.int n]=>∀s s':Tree,isT s k t y a x c->isT s' k' t' y' a' x' c'->(s=s'->n=1)/\(s≠s'->n=0)
 |_,_=>False
def equMu :List Dat->Nat
 | [_,_,_,_,_,.lst c,_,_,_,_,_,_]=>szRs c
 |_=>0
def cEqu:=mkC "equ" [nV,nV] equPre [iV] equRel
def samPre:=t2Pre
def samRel :List Dat->List Dat->Prop
 | [.int k,.str t,.str y,.lst a,.str x,.lst c,.int k',.str t',.str y',.lst a',.str x',.lst c'],[.int n]=>∀s s':Tree,isT s k t y a x c->isT s' k' t' y' a' x' c'->(Valid s/\s=s'->n=1)/\(¬(Valid s/\s=s')->n=0)
 |_,_=>False
def cSam:=mkC "sam" [nV,nV] samPre [iV] samRel
def eaInv :List Dat->List Dat->Prop
 | [.lst L,.lst M],[.int i]=>0<=i/\i<=ln L/\ln L=ln M/\L.take i.toNat=M.take i.toNat
 |_,_=>False
def eaMu:=slMu
def ecInv:=eaInv
def ecMu:=slMu
def annsH :FuncId->List (Nat×(Fm->SS->L3))
 |36=>[(0,E5 U0 "ea" (E7 [(5,.int .i64)] nob) (gh2 (ghCell 2 3) (ghCell 3 3)) eaInv eaMu),(2,E5 U0 "ec" (E7 [(6,.int .i64)] nob) (gh2 (ghCell 2 5) (ghCell 3 5)) ecInv ecMu)]
 |_=>[]
def stageH :Nat->List (FuncId×Con)
 |0=>[(LVn,J4 "lives")]
 |_=>[(35,cRchk),(36,cEqu),(LVn,J4 "lives")]
def primsH (P:Program):R9:=[]
set_option maxRecDepth 100000
open Go Go.Xe Go.Sx
open Go.C36 (row j8 lis cLong cRlong longPre longRel rlongPre rlongRel)
def vcEqu (n:Nat):Prop:=
 ∀x0 x1 x2 x3 x4 x5 x6 x7 x8 x9 x10 x11,(equPre [.int x0,.str x1,.str x2,.lst x3,.str x4,.lst x5,.int x6,.str x7,.str x8,.lst x9,.str x10,.lst x11]/\equMu [.int x0,.str x1,.str x2,.lst x3,.str x4,.lst x5,.int x6,.str x7,.str x8,.lst x9,.str x10,.lst x11]<n+1)->((x0=x6->((x1=x7->((x2=x8->((x4=x10->((ln x3=ln x9->((ln x5=ln x11->Nd (eaInv [.lst x3,.lst x9] [.int 0]) (∀x12,eaInv [.lst x3,.lst x9] [.int x12]->((x12<ln x3->Nd (¬x12<0) (Nd (x12<ln x3)<|Nd (¬x12<0)<|Nd (x12<ln x9)<|(cS x3 x12 0=cS x9 x12 0->((cS x3 x12 1=cS x9 x12 1->Nd (I64 (x12+1)) (Nd (eaInv [.lst x3,.lst x9] [.int (x12+1)])<|Nd (eaMu [.lst x3,.lst x9] [.int (x12+1)]<eaMu [.lst x3,.lst x9] [.int x12]) True))/\(¬cS x3 x12 1=cS x9 x12 1->Nd (equRel [.int x0,.str x1,.str x2,.lst x3,.str x4,.lst x5,.int x6,.str x7,.str x8,.lst x9,.str x10,.lst x11] [.int 0]) True)))/\(¬cS x3 x12 0=cS x9 x12 0->Nd (equRel [.int x0,.str x1,.str x2,.lst x3,.str x4,.lst x5,.int x6,.str x7,.str x8,.lst x9,.str x10,.lst x11] [.int 0]) True)))/\(¬x12<ln x3->Nd (ecInv [.lst x5,.lst x11] [.int 0]) (∀x13,ecInv [.lst x5,.lst x11] [.int x13]->((x13<ln x5->Nd (¬x13<0) (Nd (x13<ln x5)<|Nd (¬x13<0)<|Nd (x13<ln x11)<|Nd (equPre [.int (cI x5 x13 0),.str (cS x5 x13 1),.str (cS x5 x13 2),.lst (cL x5 x13 3),.str (cS x5 x13 4),.lst (cL x5 x13 5),.int (cI x11 x13 0),.str (cS x11 x13 1),.str (cS x11 x13 2),.lst (cL x11 x13 3),.str (cS x11 x13 4),.lst (cL x11 x13 5)]/\equMu [.int (cI x5 x13 0),.str (cS x5 x13 1),.str (cS x5 x13 2),.lst (cL x5 x13 3),.str (cS x5 x13 4),.lst (cL x5 x13 5),.int (cI x11 x13 0),.str (cS x11 x13 1),.str (cS x11 x13 2),.lst (cL x11 x13 3),.str (cS x11 x13 4),.lst (cL x11 x13 5)]<n)<|
 ∀x14,equRel [.int (cI x5 x13 0),.str (cS x5 x13 1),.str (cS x5 x13 2),.lst (cL x5 x13 3),.str (cS x5 x13 4),.lst (cL x5 x13 5),.int (cI x11 x13 0),.str (cS x11 x13 1),.str (cS x11 x13 2),.lst (cL x11 x13 3),.str (cS x11 x13 4),.lst (cL x11 x13 5)] [.int x14]->((x14=0->Nd (equRel [.int x0,.str x1,.str x2,.lst x3,.str x4,.lst x5,.int x6,.str x7,.str x8,.lst x9,.str x10,.lst x11] [.int 0]) True)/\(¬x14=0->Nd (I64 (x13+1)) (Nd (ecInv [.lst x5,.lst x11] [.int (x13+1)])<|Nd (ecMu [.lst x5,.lst x11] [.int (x13+1)]<ecMu [.lst x5,.lst x11] [.int x13]) True)))))/\(¬x13<ln x5->Nd (equRel [.int x0,.str x1,.str x2,.lst x3,.str x4,.lst x5,.int x6,.str x7,.str x8,.lst x9,.str x10,.lst x11] [.int 1]) True)))))))/\(¬ln x5=ln x11->Nd (equRel [.int x0,.str x1,.str x2,.lst x3,.str x4,.lst x5,.int x6,.str x7,.str x8,.lst x9,.str x10,.lst x11] [.int 0]) True)))/\(¬ln x3=ln x9->Nd (equRel [.int x0,.str x1,.str x2,.lst x3,.str x4,.lst x5,.int x6,.str x7,.str x8,.lst x9,.str x10,.lst x11] [.int 0]) True)))/\(¬x4=x10->Nd (equRel [.int x0,.str x1,.str x2,.lst x3,.str x4,.lst x5,.int x6,.str x7,.str x8,.lst x9,.str x10,.lst x11] [.int 0]) True)))/\(¬x2=x8->Nd (equRel [.int x0,.str x1,.str x2,.lst x3,.str x4,.lst x5,.int x6,.str x7,.str x8,.lst x9,.str x10,.lst x11] [.int 0]) True)))/\(¬x1=x7->Nd (equRel [.int x0,.str x1,.str x2,.lst x3,.str x4,.lst x5,.int x6,.str x7,.str x8,.lst x9,.str x10,.lst x11] [.int 0]) True)))/\(¬x0=x6->Nd (equRel [.int x0,.str x1,.str x2,.lst x3,.str x4,.lst x5,.int x6,.str x7,.str x8,.lst x9,.str x10,.lst x11] [.int 0]) True))
theorem vcEqu_eq (n:Nat):(cvc Go.Proofs.Try.prog U0 (cEqu.below equMu (n+1)) (sxF Go.Proofs.Try.prog U0 annsH (B0 Go.Proofs.Try.prog U0 ((36,cEqu.below equMu n)::stageH 0) (primsH Go.Proofs.Try.prog)) 400 36)).vc U0 (fun _=>True)=vcEqu n:=by kernel_rfl
def vcSam :Prop:=
 ∀x0 x1 x2 x3 x4 x5 x6 x7 x8 x9 x10 x11,samPre [.int x0,.str x1,.str x2,.lst x3,.str x4,.lst x5,.int x6,.str x7,.str x8,.lst x9,.str x10,.lst x11]->Nd (rchkPre [.int x0,.str x1,.str x2,.lst x3,.str x4,.lst x5]) (∀x12,rchkRel [.int x0,.str x1,.str x2,.lst x3,.str x4,.lst x5] [.int x12]->((x12=0->Nd (rchkPre [.int x6,.str x7,.str x8,.lst x9,.str x10,.lst x11]) (∀x13,rchkRel [.int x6,.str x7,.str x8,.lst x9,.str x10,.lst x11] [.int x13]->((x13=0->Nd (equPre [.int x0,.str x1,.str x2,.lst x3,.str x4,.lst x5,.int x6,.str x7,.str x8,.lst x9,.str x10,.lst x11]) (∀x14,equRel [.int x0,.str x1,.str x2,.lst x3,.str x4,.lst x5,.int x6,.str x7,.str x8,.lst x9,.str x10,.lst x11] [.int x14]->Nd (samRel [.int x0,.str x1,.str x2,.lst x3,.str x4,.lst x5,.int x6,.str x7,.str x8,.lst x9,.str x10,.lst x11] [.int x14]) True))/\(¬x13=0->Nd (samRel [.int x0,.str x1,.str x2,.lst x3,.str x4,.lst x5,.int x6,.str x7,.str x8,.lst x9,.str x10,.lst x11] [.int 0]) True))))/\(¬x12=0->Nd (samRel [.int x0,.str x1,.str x2,.lst x3,.str x4,.lst x5,.int x6,.str x7,.str x8,.lst x9,.str x10,.lst x11] [.int 0]) True)))
theorem vcSam_eq :(cvc Go.Proofs.Try.prog U0 cSam (sxF Go.Proofs.Try.prog U0 annsH (B0 Go.Proofs.Try.prog U0 (stageH 1) (primsH Go.Proofs.Try.prog)) 400 15)).vc U0 (fun _=>True)=vcSam:=by kernel_rfl
end Go.D
