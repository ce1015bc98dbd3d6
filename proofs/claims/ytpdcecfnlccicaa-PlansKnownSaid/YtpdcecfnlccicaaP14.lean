/- Chapter 36, plans: what a plan is; the contract of plans.Of, its loops.
  Conditions: none. -/
import Derived.Test.YtpdcecfnlccicaaP10
set_option linter.unusedVariables false
noncomputable section
namespace Go.C36
open Go.Xe Go.Sx
structure Lv where
 a : Int
 d : Bool
 deriving DecidableEq
def Lv.row (s : Lv) : List Dat:=[.int s.a, .bool s.d]
def lvOf (r : List Dat) : Lv:=⟨(r.getD 0 (.int 0)).toInt,(r.getD 1 (.int 0)).toBool⟩
def lvs (L : Sx.Rows) : List Lv:=L.map lvOf
def putN (l : List Int) (k : Nat) (x : Int) : List Int:=l.set k x
structure LS where
 th : List Int
 lv : List Lv
 bf : List Int
def lvStep (N : List Rw) (B : List Int) (s : LS) (i : Int) (x : Rw) : LS :=
 if x ∈ N then { s with bf:=s.bf ++ [i] }
 else if s.th.getD x.t.toNat 0 < B.getD x.t.toNat 0 then ⟨putN s.th x.t.toNat (s.th.getD x.t.toNat 0+1),s.lv ++ [⟨i,false⟩],s.bf⟩
 else { s with lv:=s.lv ++ [⟨i,true⟩] }
def lvAll (N : List Rw) (B : List Int) : Int→List Rw→LS→LS
 | _,[],s=>s
 | i,x :: l,s=>lvAll N B (i+1) l (lvStep N B s i x)
def atR : List Rw→Rw→Int
 | [],_ => -1
 | y :: l,x=>if y=x then 0 else (let k:=atR l x; if k < 0 then -1 else k+1)
structure TS where
 th : List Int
 bh : List Int
 st : List Stp
def stStep (O : List Rw) (s : TS) (x : Rw) : TS :=
 if x ∈ O then ⟨s.th,s.bh ++ [atR O x],s.st ++ [⟨1,atR O x,true⟩]⟩
 else if 0 < s.th.getD x.t.toNat 0 then ⟨putN s.th x.t.toNat (s.th.getD x.t.toNat 0 - 1),s.bh,s.st ++ [⟨2, -1,false⟩]⟩
 else { s with st:=s.st ++ [⟨3, -1,false⟩] }
def stAll (O : List Rw) : List Rw→TS→TS
 | [],s=>s
 | x :: l,s=>stAll O l (stStep O s x)
def keepS (K : List Int) (s : Stp) : Stp:=if s.w=1∧s.o ∈ K then { s with m:=false } else s
def lvOut (O N : List Rw) (P B : List Int) : LS:=lvAll N B 0 O ⟨P,[],[]⟩
def stOut (O N : List Rw) (P B : List Int) : TS:=stAll O N ⟨(lvOut O N P B).th,[],[]⟩
def kOut (O N : List Rw) (P B : List Int) : List Int:=keptL (lvOut O N P B).bf (stOut O N P B).bh
def ofSteps (O N : List Rw) (P B : List Int) : List Stp:=(stOut O N P B).st.map (keepS (kOut O N P B))
def ofLeaves (O N : List Rw) (P B : List Int) : List Lv:=(lvOut O N P B).lv
def idxPre : List Dat→Prop
 | [.lst L, .int _]=>isN L
 | _=>False
def idxRel : List Dat→List Dat→Prop
 | [.lst L, .int x],[.int n]=>n=atI (nums L) x
 | _,_=>False
def cIdx:=mkC "idx" [nV,iV] idxPre [iV] idxRel
def idInv : List Dat→List Dat→Prop
 | [.lst L, .int x],[.int k]=>0≤k∧k≤L.length∧x ∉ (nums L).take k.toNat
 | _,_=>False
def idMu : List Dat→List Dat→Nat
 | .lst L :: _, .int k :: _=>(L.length - k).toNat
 | _,_=>0
def inB (T B : List Int) : Prop:=T.length=B.length ∧ ∀ (i : Nat) (x y : Int),T[i]? = some x→B[i]? = some y→0≤x∧x≤y
def o2Inv : List Dat→List Dat→Prop
 | [.lst N],[.int k, .lst M]=>0≤k∧k≤N.length ∧ ∀ x : Rw,(mgetR M [x.k,x.t] (.bool false)).toBool=decide (x ∈ (rws N).take k.toNat)
 | _,_=>False
def o2Mu : List Dat→List Dat→Nat
 | [.lst N], .int k :: _=>(N.length - k).toNat
 | _,_=>0
def o4Inv : List Dat → List Dat → Prop
 | [.lst O, .lst N, .lst P, .lst B, .lst M], [.int k, .lst F, .lst T, .lst A, .lst L] => 0 ≤ k ∧ k ≤ O.length ∧ (∀ x : Rw, x ∈ rws N → (mhasR A [x.k, x.t] = decide (x ∈ (rws O).take k.toNat)) ∧ (x ∈ (rws O).take k.toNat → mgetR A [x.k, x.t] (.int 0) = .int (atR (rws O) x))) ∧
   ∃ (t f : List Int) (l : List Lv),T=t.map row∧F=f.map row∧L=l.map Lv.row∧inB t (nums B)∧(f.length : Int)≤k∧(l.length : Int)≤k∧lvAll (rws N) (nums B) k ((rws O).drop k.toNat) ⟨t,l,f⟩=lvOut (rws O) (rws N) (nums P) (nums B)
 | _,_=>False
def o4Mu : List Dat→List Dat→Nat
 | .lst O :: _, .int k :: _=>(O.length - k).toNat
 | _,_=>0
def o6Inv : List Dat → List Dat → Prop
 | [.lst O, .lst N, .lst B, .lst A, .lst L0, .lst T0], [.int k, .lst T, .lst H, .lst L, .lst S] => 0 ≤ k ∧ k ≤ N.length ∧ L = L0 ∧
   ∃ (t0 t h : List Int) (s : List Stp),T0=t0.map row∧T=t.map row∧H=h.map row∧S=s.map Stp.row∧inB t (nums B)∧(h.length : Int)≤k∧(s.length : Int)=k∧stAll (rws O) ((rws N).drop k.toNat) ⟨t,h,s⟩=stAll (rws O) (rws N) ⟨t0,[],[]⟩
 | _,_=>False
def o6Mu : List Dat→List Dat→Nat
 | _ :: .lst N :: _, .int k :: _=>(N.length - k).toNat
 | _,_=>0
def o8Inv : List Dat→List Dat→Prop
 | [.lst S0, .lst K],[.lst S, .int k]=>0≤k∧k≤S0.length∧S.length=S0.length∧S=(((stps S0).take k.toNat).map (keepS (nums K)) ++ (stps S0).drop k.toNat).map Stp.row
 | _,_=>False
def o8Mu : List Dat→List Dat→Nat
 | .lst S0 :: _,[_, .int k]=>(S0.length - k).toNat
 | _,_=>0
def cap2 (a b : Fm→SS→Option (List (Nat × List G))) : Fm→SS→Option (List (Nat × List G)):=fun f s=>match a f s,b f s with
 | some x,some y=>some (x ++ y)
 | _,_=>none
def ghMap (t : Nat) : Fm→SS→List (So × E):=fun f s=>match lk f t with
 | some (.map b)=>match s.get b with
  | some (.map L _ _)=>[(.l,L)]
  | _=>[]
 | _=>[]
def ghCell (t j : Nat) : Fm→SS→List (So × E):=fun f s=>match lk f t with
 | some (.ptr b _ _ _)=>match s.get b with
  | some (.cells l _ _)=>match l[j]? with
   | some (.map c)=>match s.get c with
    | some (.map L _ _)=>[(.l,L)]
    | _=>[]
   | some (.sl c _ _ _ _)=>match s.get c with
    | some (.rows L _ _ _)=>[(.l,L)]
    | _=>[]
   | some .nils=>[(.l, .op .nil [])]
   | some (.lst _ e _)=>[(.l,e)]
   | some (.int _ e)=>[(.i,e)]
   | _=>[]
  | _=>[]
 | _=>[]
def annsZ : FuncId → List (Nat × (Fm → SS → LAnn))
 | 9 => [(2, gAnn U0 "o2" (mkPl [(56, .int .i64), (13, .mac 47 4)] nob) (ghostT 1) o2Inv o2Mu),
   (4,gAnn U0 "o4" (mkPl [(68, .int .i64),(19, .acc 3 1)] (cap2 (cellsT 16 [.acc 3 1]) (cap2 (cellsT 17 [.mac 47 3]) (cellsT 18 [.acc 49 2, .keep])))) (gh2 (ghostT 0) (gh2 (ghostT 1) (gh2 (ghostT 2) (gh2 (ghostT 3) (ghMap 13))))) o4Inv o4Mu),
   (6,gAnn U0 "o6" (mkPl [(115, .int .i64)] (cap2 (cellsT 16 [.acc 3 1]) (cap2 (cellsT 23 [.acc 3 1]) (cellsT 18 [.acc 49 2, .acc 40 3])))) (gh2 (ghostT 0) (gh2 (ghostT 1) (gh2 (ghostT 3) (gh2 (ghCell 17 0) (gh2 (ghCell 18 0) (ghCell 16 0)))))) o6Inv o6Mu),
   (8,gAnn U0 "o8" (mkPr (rowsT 139) [(141, .int .i64)] nob) (gh2 (ghostT 139) (ghostT 27)) o8Inv o8Mu)]
 | 43=>[(0,gAnn U0 "id" (mkPl [(8, .int .i64)] nob) (gh2 (ghostT 0) (ghostT 1)) idInv idMu)]
 | _=>[]
def stageZ : Nat→List (FuncId × Con)
 | 0=>[(12,cYes "lives")]
 | _=>[(24,cPcheck),(27,cRight),(30,cKept),(43,cIdx),(12,cYes "lives")]
end Go.C36
