/- Which children stay: the conditions hold.
  Conditions: none. -/
import Derived.Test.YtcjhhnoaoldcmaaC3
import Derived.Test.YtcjhhnoaoldcmaaA5
import Derived.Test.YtcjhhnoaoldcmaaD1
import Derived.Test.YtcjhhnoaoldcmaaA1
set_option linter.unusedVariables false
set_option linter.unusedSimpArgs false
namespace Go.D
open Go Go.Xe Go.Sx
open Go.C36 (row j8 lis cLong cRlong longPre longRel rlongPre rlongRel)
theorem row0 (n:Int):(row n).getD 0 (.int 0)= .int n:=rfl
open Go Go.Xe Go.Sx
open Go.C36 (row j8 lis cLong cRlong longPre longRel rlongPre rlongRel)
theorem all2 {α c:Type}{a:α}{b:c}{p:α->c->Prop}:(∀x y,x=a->y=b->p x y)=p a b:=propext ⟨fun h=>h a b rfl rfl,fun h x y e f=>by subst e f;exact h⟩
open Go Go.Xe Go.Sx
open Go.C36 (row j8 lis cLong cRlong longPre longRel rlongPre rlongRel)
mutual
theorem strip_true :∀s:Tree,strip true s=s
 | .mk k t y a x c=>by simp only[strip,bI6,strips_true c]
theorem strips_true :∀l:List Tree,strips true l=l
 | []=>rfl
 |s::l=>by simp only[strips,strip_true s,strips_true l]
end
theorem lastIx_ge (f:Nat->List KV)(s:List KV):∀n, -1<=lastIx f n s
 |0=>by unfold lastIx;omega
 |n+1=>by have:=lastIx_ge f s n;unfold lastIx;split<;>omega
theorem lastIx_lt (f:Nat->List KV)(s:List KV):∀n:Nat,lastIx f n s<n
 |0=>by unfold lastIx;omega
 |n+1=>by have:=lastIx_lt f s n;unfold lastIx;split<;>omega
theorem lastIx_eq (f:Nat->List KV)(s:List KV):∀n,0<=lastIx f n s->f (lastIx f n s).toNat=s
 |0,h=>by unfold lastIx at h;omega
 |n+1,h=>by
  have a:=lastIx_eq f s n
  unfold lastIx at h⊢
  by_cases c:f n=s
  ·rw[bC3 c];exact c
  ·rw[bC1 c]at h⊢;exact a h
theorem bef_le_take {l:List Tree}{i j:Nat}(h:i<=j)(k:Int)(t:Str):bef (l.take i) k t<=bef (l.take j) k t:=
 List.Sublist.length_le (List.Sublist.filter _ (List.take_sublist_take_left h))
theorem spot_ne {l:List Tree}(hk:Keys (l.map Tree.y)){i j:Nat}(a:i<j)(hj:j<l.length):spotAt l i≠spotAt l j:=fun e=>by
 have b:=bB3 (Nat.lt_trans a hj)
 have g:=bB3 hj
 rw[spot_at b,spot_at g,spk_eq]at e
 obtain⟨c,d,f,m⟩:=e
 by_cases hy:l[j].y=[]
 ·have h:=bef_le_take (l:=l) (Nat.succ_le_of_lt a) l[j].k l[j].t
  rw[W2 b,bef_snoc,bC3 ⟨c.trans hy,d,f⟩]at h
  have:=m hy
  rw[d,f]at this
  omega
 ·exact keys_bad (map_get b) (map_get g) a hy c hk
theorem spot_inj {l:List Tree}(hk:Keys (l.map Tree.y)){i j:Nat}(hi:i<l.length)(hj:j<l.length)(e:spotAt l i=spotAt l j):i=j:=by
 rcases Nat.lt_trichotomy i j with h|h|h
 ·exact absurd e (spot_ne hk h hj)
 ·exact h
 ·exact absurd e.symm (spot_ne hk h hi)
theorem mtch_len (o n:List Tree):(mtch o n).length=n.length:=by unfold mtch;simp
theorem mtch_mem {o n:List Tree}{x:Int}(h:x∈mtch o n): -1<=x/\x<o.length:=by
 unfold mtch at h
 obtain⟨i,_,rfl⟩:=bI1.mp h
 exact⟨lastIx_ge _ _ _,lastIx_lt _ _ _⟩
open Go Go.Xe Go.Sx
open Go.C36 (row j8 lis cLong cRlong longPre longRel rlongPre rlongRel)
section
variable {a b:List Att}{i k:Int}{O:Sx.Rows}{x y:Att}
end
open Go Go.Xe Go.Sx
open Go.C36 (row j8 lis cLong cRlong longPre longRel rlongPre rlongRel)
theorem cI_row (l:List Int)(i:Int):cI (l.map row) i 0=l.getD i.toNat 0:=by
 unfold cI u5
 simp only[bD2,bF1]
 cases l[i.toNat]? <;>rfl
theorem getD_at {α:Type}{l:List α}{i:Int}{d:α}(h0:0<=i)(h:i<(l.length:Int)):l[i.toNat]? =some (l.getD i.toNat d):=by
 rw[bD2,bB3 (by omega)];rfl
section
variable {o n:List Tree}{m t t0:List Int}{q:List Bool}{P L0 L:Sx.Rows}{i v:Int}{c co:Tree}
end
open Go Go.Xe Go.Sx
open Go.C36 (row j8 lis cLong cRlong longPre longRel rlongPre rlongRel)
section
variable {o n:List Tree}{m t t0:List Int}{q:List Bool}{P L0 L:Sx.Rows}{i v:Int}{c co:Tree}
end
open Go Go.Xe Go.Sx
open Go.C36 (row j8 lis cLong cRlong longPre longRel rlongPre rlongRel)
open Go Go.Xe Go.Sx
open Go.C36 (row j8 lis cLong cRlong longPre longRel rlongPre rlongRel)
end Go.D
noncomputable section
namespace Go.D
open Go.Xe Go.Sx
def u8 (n:Int):Prop:=0<=n/\n<256
def bytes (L:Sx.Rows):Prop:=∃l:List Int,L=l.map (fun n=>[Dat.int n])/\ ∀n∈l,u8 n
def tabT :Sx.Rows:=Sx.chunk 1 4 [(.str ([97]:List UInt8)),(.str ([98]:List UInt8)),(.str ([112,49]:List UInt8)),(.str ([115,105,120,116,101,101,110,98,121,116,101,115,116,97,103,48]:List UInt8))]
def tabA :Sx.Rows:=Sx.chunk 1 4 [(.str []),(.str ([120]:List UInt8)),(.str ([97,34,98,92,99]:List UInt8)),(.str ([32,126]:List UInt8))]
def tabB :Sx.Rows:=Sx.chunk 1 4 [(.str []),(.str ([120]:List UInt8)),(.str ([104,105,32,34,121,111,117,92]:List UInt8)),(.str ([48]:List UInt8))]
def tabK :Sx.Rows:=Sx.chunk 1 4 [(.str ([107,48]:List UInt8)),(.str ([107,49]:List UInt8)),(.str ([107,50]:List UInt8)),(.str ([107,51]:List UInt8))]
def tagF (n:Int):Str:=cS tabT (n.tmod 4) 0
def atB (b:Int)(n:Str)(w:Int):List Att:=if b.tmod 2=1 then [⟨n,cS tabA ((IntKind.wrap .u8 w).tmod 4) 0⟩]else []
def atsF (n:Int):List Att:=atB (Sx.shrI .u8 n 0) [99,108,97,115,115] (Sx.shrI .u8 n 3)++(atB (Sx.shrI .u8 n 1) [105,100] (Sx.shrI .u8 n 3+1)++atB (Sx.shrI .u8 n 2) [122,57] (Sx.shrI .u8 n 3+2))
def aj3 (l:List Tree)(y:Str):Str:=if y∈l.map Tree.y then []else y
def bldF : Nat → Sx.Rows → Int → Int → List Tree → List Tree × Int
 |0,_,i,_,l=>(l,i)
 | f + 1, C, i, lv, l => if i < ln C ∧ i < 19 then
   (if(cI C i 0).tmod 8=0 then(l,i+1)
    else if l.length=16 then bldF f C (i+1) lv l
    else if(cI C i 0).tmod 8<3 then bldF f C (i+1) lv (l++ [.mk 2 [] [] [] (cS tabB ((IntKind.wrap .u8 ((cI C i 0).tdiv 8)).tmod 4) 0) []])
    else if lv<5 then bldF f C (bldF f C (i+1) (lv+1) []).2 lv (l++ [.mk 1 (tagF (IntKind.wrap .u8 ((cI C i 0).tdiv 8))) (if(cI C i 0).tmod 8=3 then aj3 l (cS tabK ((IntKind.wrap .u8 ((cI C i 0).tdiv 8)).tmod 4) 0)else []) (atsF (IntKind.wrap .u8 ((cI C i 0).tdiv 2))) [] (bldF f C (i+1) (lv+1) []).1])
    else bldF f C (i+1) lv (l++ [.mk 1 (tagF (IntKind.wrap .u8 ((cI C i 0).tdiv 8))) (if(cI C i 0).tmod 8=3 then aj3 l (cS tabK ((IntKind.wrap .u8 ((cI C i 0).tdiv 8)).tmod 4) 0)else []) (atsF (IntKind.wrap .u8 ((cI C i 0).tdiv 2))) [] []]))
  else(l,i)
def ofN (t y:Int)(C:Sx.Rows):Tree:= .mk 1 (tagF t) (if y.tmod 3=1 then [114,111,111,116]else []) (atsF y) [] (bldF 20 C 0 2 []).1
def tagPre :List Dat->Prop
 | [.int n]=>u8 n
 |_=>False
def tagRel :List Dat->List Dat->Prop
 | [.int n],[.str s]=>s=tagF n/\vName s=true
 |_,_=>False
def cTag:=mkC "tag" [uV] tagPre [sV] tagRel
def OkAts (a:List Att):Prop:=a.length<=3/\(∀x∈a,vName x.n=true/\vStr x.v=true)/\Asc (a.map Att.n)
def atsPre:=tagPre
def atsRel :List Dat->List Dat->Prop
 | [.int n],[.lst L]=>L=(atsF n).map Att.row/\OkAts (atsF n)
 |_,_=>False
def cAts:=mkC "ats" [uV] atsPre [.one (.g (.lst 82))] atsRel
def Kids (l:List Tree)(lv n:Int):Prop:=l.length<=16/\AllAs l/\Keys (l.map Tree.y)/\lv+Tree.depths l<=6/\Tree.sizes l<=n
def bldPre :List Dat->Prop
 | [.lst C,.int i,.int lv]=>bytes C/\0<=i/\i<=19/\2<=lv/\lv<=5
 |_=>False
def bldMu :List Dat->Nat
 | [_,_,.int lv]=>(6-lv).toNat
 |_=>0
def bldRel :List Dat->List Dat->Prop
 | [.lst C,.int i,.int lv],[.lst L,.int i']=>i<=i'/\i'<=19/\ ∃l,L=rows l/\Kids l lv (i'-i)/\ ∀f:Nat,20-i<=f->bldF f C i lv []=(l,i')
 |_,_=>False
def cBld:=mkC "bld" [.one (.g (.lst 5)),iV,iV] bldPre [.one (.g (.acc 28 6)),iV] bldRel
def treePre :List Dat->Prop
 | [.int t,.int y,.lst C]=>u8 t/\u8 y/\bytes C
 |_=>False
def treeRel :List Dat->List Dat->Prop
 | [.int n,.int m,.lst C],[.int k,.str t,.str y,.lst a,.str x,.lst c]=>isT (ofN n m C) k t y a x c/\Valid (ofN n m C)
 |_,_=>False
def cTree:=mkC "tree" [.agg [.g (.int .u8),.g (.int .u8),.g (.lst 5)]] treePre [nV] treeRel
def blInv :List Dat->List Dat->Prop
 | [.lst C,.int i0,.int lv],[.int i,.lst L]=>bytes C/\0<=i0/\i0<=i/\i<=19/\2<=lv/\lv<=5/\ ∃l,L=rows l/\Kids l lv (i-i0)/\ ∀f:Nat,20-i0<=f-> ∃g:Nat,20-i<=g/\bldF f C i0 lv []=bldF g C i lv l
 |_,_=>False
def blMu :List Dat->List Dat->Nat
 |_,.int i::_=>(19-i).toNat
 |_,_=>0
def keyInv :List Dat->List Dat->Prop
 | [.lst L,.str t0,.str y0,.lst a0],[.int i,.int k,.str t,.str y,.lst a,.str x,.lst c]=>0<=i/\i<=L.length/\k=1/\t=t0/\a=a0/\x=[]/\c=[]/\y=if y0∈(keysR L).take i.toNat then []else y0
 |_,_=>False
def keyMu:=slMu
def annsB : FuncId → List (Nat × (Fm → SS → L3))
 | 23 => [(0, E5 U0 "bl" (E7 [(1, .int .i64), (8, .acc 28 6)] nob) (gh2 (ghostT 0) (gh2 (ghostT 1) (ghostT 2))) blInv blMu),
   (2,E5 U0 "key" (E7 [(11,.int .i64)] (B7 10 [.int .u8,.str,.str,.lst 82,.str,.lst 28])) (gh2 (ghostT 8) (gh2 (ghCell 10 1) (gh2 (ghCell 10 2) (ghCell 10 3)))) keyInv slMu)]
 |_=>[]
def stageB :Nat->List (FuncId×Con)
 |0=>[(LVn,J4 "lives")]
 |1=>[(21,cTag),(22,cAts),(LVn,J4 "lives")]
 |_=>[(23,cBld),(21,cTag),(22,cAts),(LVn,J4 "lives")]
def primsB (P:Program):R9:=[]
end Go.D
