/- Trees: what the functions of nodes compute, as contracts.
  Conditions: none. -/
import Derived.Test.YtcjhhnoaoldcmaaSm4
set_option linter.unusedVariables false
noncomputable section
namespace Go.D
open Go.Xe Go.Sx
abbrev Str:=List UInt8
def nameB (b:UInt8):Bool:=decide (97<=b.toNat)&&decide (b.toNat<=122)||decide (48<=b.toNat)&&decide (b.toNat<=57)
def strB (b:UInt8):Bool:=decide (32<=b.toNat)&&decide (b.toNat<=126)
def vName (s:Str):Bool:=decide (1<=s.length)&&decide (s.length<=16)&&s.all nameB
def vStr (s:Str):Bool:=decide (s.length<=64)&&s.all strB
def lt (a b:Str):Bool:=Op.bytesLess a b
structure Att where
 n:Str
 v:Str
def Att.row (a:Att):List Dat:=[.str a.n,.str a.v]
def atOf (r:List Dat):Att:=⟨(r.getD 0 (.int 0)).toStr,(r.getD 1 (.int 0)).toStr⟩
def ats (L:Sx.Rows):List Att:=L.map atOf
inductive Tree where
 |mk (k:Int) (t y:Str) (a:List Att) (x:Str) (c:List Tree)
namespace Tree
def k :Tree->Int|mk k _ _ _ _ _=>k
def t :Tree->Str|mk _ t _ _ _ _=>t
def y :Tree->Str|mk _ _ y _ _ _=>y
def a :Tree->List Att|mk _ _ _ a _ _=>a
def x :Tree->Str|mk _ _ _ _ x _=>x
def c :Tree->List Tree|mk _ _ _ _ _ c=>c
mutual
def row :Tree->List Dat
 |mk k t y a x c=>[.int k,.str t,.str y,.lst (a.map Att.row),.str x,.lst (rows c)]
def rows :List Tree->Sx.Rows
 | []=>[]
 |s::l=>s.row::rows l
end
mutual
def size :Tree->Nat
 |mk _ _ _ _ _ c=>sizes c+1
def sizes :List Tree->Nat
 | []=>0
 |s::l=>s.size+sizes l
end
mutual
def depth :Tree->Nat
 |mk _ _ _ _ _ c=>depths c+1
def depths :List Tree->Nat
 | []=>0
 |s::l=>max s.depth (depths l)
end
end Tree
abbrev rows (l:List Tree):Sx.Rows:=l.map Tree.row
def Keys (l:List Str):Prop:=l.Pairwise fun a b=>b≠ []->a≠b
def Asc (l:List Str):Prop:=l.Pairwise fun a b=>lt a b=true
def Alone (s:Tree):Prop:=(s.k=2/\vStr s.x=true/\s.t=[]/\s.y=[]/\s.a=[]/\s.c=[])\/
 (s.k=1/\vName s.t=true/\(s.y=[]\/vName s.y=true)/\s.x=[]/\s.a.length<=8/\s.c.length<=16/\(∀a∈s.a,vName a.n=true/\vStr a.v=true)/\Asc (s.a.map Att.n)/\Keys (s.c.map Tree.y))
mutual
def AllA :Tree->Prop
 | .mk k t y a x c=>Alone (.mk k t y a x c)/\AllAs c
def AllAs :List Tree->Prop
 | []=>True
 |s::l=>AllA s/\AllAs l
end
def Valid (s:Tree):Prop:=AllA s/\s.size<=64/\s.depth<=6
mutual
def strip (b:Bool):Tree->Tree
 | .mk k t y a x c=>.mk k t (if b then y else []) a x (strips b c)
def strips (b:Bool):List Tree->List Tree
 | []=>[]
 |s::l=>strip b s::strips b l
end
def isT (s:Tree)(k:Int)(t y:Str)(a:Sx.Rows)(x:Str)(c:Sx.Rows):Prop:=k=s.k/\t=s.t/\y=s.y/\a=s.a.map Att.row/\x=s.x/\c=rows s.c
def U0 :Nat->List Dat->Dat:=fun _ _=>.int 0
def iV :Vs:= .one (.g (.int .i64))
def uV :Vs:= .one (.g (.int .u8))
def bV :Vs:= .one (.g .bool)
def sV :Vs:= .one (.g .str)
def tG :List Lf:=[.g (.int .u8),.g .str,.g .str,.g (.lst 82),.g .str,.g (.lst 28)]
def nV :Vs:= .agg tG
def cV :Vs:= .one (.g (.lst 28))
def noB :SV->SS->Option (List Nat):=fun _ _=>some []
def noF :List SV->SS->Option (List Nat):=fun _ _=>some []
def mkC (n:String)(args:List Vs)(pre:List Dat->Prop)(res:List Vs)(rel:List Dat->List Dat->Prop):Con:=⟨n,args,[],noF,pre,res,[],noB,rel⟩
def sPre :List Dat->Prop
 | [.str _]=>True
 |_=>False
def namedPre:=sPre
def textPre:=sPre
def namedRel :List Dat->List Dat->Prop
 | [.str s],[.bool b]=>b=vName s
 |_,_=>False
def textRel :List Dat->List Dat->Prop
 | [.str s],[.bool b]=>b=vStr s
 |_,_=>False
def cNamed:=mkC "named" [sV] namedPre [bV] namedRel
def cText:=mkC "text" [sV] textPre [bV] textRel
def alonePre :List Dat->Prop
 | [.lst L]=>∃s:Tree,L=[s.row]
 |_=>False
def aloneRel :List Dat->List Dat->Prop
 | [.lst L],[.bool b]=>∀s:Tree,L=[s.row]->(b=true↔Alone s)
 |_,_=>False
def cAlone:=mkC "alone" [.one (.g (.pp 28))] alonePre [bV] aloneRel
def Good (s:Tree)(lv n:Int):Prop:=AllA s/\lv+s.depth<=7/\n+s.size<=64
def walkPre :List Dat->Prop
 | [.lst L,.int lv,.int n,.int d]=>(∃s:Tree,L=[s.row])/\1<=lv/\lv<=7/\0<=n/\n<=64/\0<=d/\d<=7
 |_=>False
def walkMu :List Dat->Nat
 | [_,.int lv,_,_]=>(8-lv).toNat
 |_=>0
def walkRel :List Dat->List Dat->Prop
 | [.lst L,.int lv,.int n,.int d],[.bool b,.int n',.int d']=>0<=n'/\n'<=65/\0<=d'/\d'<=7/\ ∀s:Tree,L=[s.row]->(b=true↔Good s lv n)/\(b=true->n'=n+s.size/\d'=max d (lv+s.depth-1))
 |_,_=>False
def walkB :List ai1:=[(3,1,[.g (.int .i64)]),(3,1,[.g (.int .i64)]),(140,1,[.clo 93 [(0,1),(1,1),(2,1)]])]
def walkF :List SV->SS->Option (List Nat):=fun args s=>match args with
 | [_,_,.ptr a _ _ _,.ptr b _ _ _,.ptr c _ _ _]=>some [a,b,c]
 |_=>none
def cWalk :Con:=⟨ "walk",[.one (.g (.pp 28)),iV,.one (.ptr 0 1),.one (.ptr 1 1),.one (.ptr 2 1)],walkB,walkF,walkPre,[bV],walkB,noB,walkRel⟩
def trPre :List Dat->Prop
 | [.int k,.str t,.str y,.lst a,.str x,.lst c]=>∃s:Tree,isT s k t y a x c
 |_=>False
def chkPre:=trPre
def chkRel :List Dat->List Dat->Prop
 | [.int k,.str t,.str y,.lst a,.str x,.lst c],[.int n]=>∀s:Tree,isT s k t y a x c->(n=0↔Valid s)/\(n=0\/n=14)
 |_,_=>False
def cChk:=mkC "chk" [nV] chkPre [iV] chkRel
def cpdPre :List Dat->Prop
 | [.int k,.str t,.str y,.lst a,.str x,.lst c,.bool _]=>∃s:Tree,isT s k t y a x c/\AllA s
 |_=>False
mutual
def szD :Dat->Nat
 | .lst r=>szRs r
 |_=>0
def szR :List Dat->Nat
 | []=>0
 |d::l=>szD d+szR l
def szRs :List (List Dat)->Nat
 | []=>0
 |r::l=>szR r+1+szRs l
end
def cpdMu :List Dat->Nat
 | [_,_,_,_,_,.lst c,_]=>szRs c
 |_=>0
def cpdRel :List Dat->List Dat->Prop
 | [.int k,.str t,.str y,.lst a,.str x,.lst c,.bool b],[.int k',.str t',.str y',.lst a',.str x',.lst c']=>∀s:Tree,isT s k t y a x c->isT (strip b s) k' t' y' a' x' c'
 |_,_=>False
def cCpd:=mkC "cpd" [nV,bV] cpdPre [nV] cpdRel
def ghostT (t:Nat):Fm->SS->List (So×E):=fun f s=>match lk f t with
 |some (.lst _ e _)=>[(.l,e)]
 |some (.str e)=>[(.s,e)]
 |some (.bool e)=>[(.b,e)]
 |some (.int _ e)=>[(.i,e)]
 |some (.pptr _ L _ _)=>[(.l,L)]
 |some (.sl b _ _ _ _)=>match s.get b with
  |some (.rows e _ _ _)=>[(.l,e)]
  |none=>match lk s.fz b with
   |some r=>[(.l,r.1)]
   |none=>[]
  |_=>[]
 |_=>[]
def gh2 (a b:Fm->SS->List (So×E)):Fm->SS->List (So×E):=fun f s=>a f s++b f s
def svG :SV->List (So×E)
 | .lst _ e _=>[(.l,e)]
 | .str e=>[(.s,e)]
 | .int _ e=>[(.i,e)]
 | .bool e=>[(.b,e)]
 |_=>[]
def cellG (b j:Nat)(s:SS):List (So×E):=match s.get b with
 |some (.cells l _ _)=>svG (l.getD j .any)
 |_=>[]
def ghCell (t j:Nat):Fm->SS->List (So×E):=fun f s=>match lk f t with
 |some (.ptr b _ _ _)=>cellG b j s
 |_=>[]
def ghCap (t k j:Nat):Fm->SS->List (So×E):=fun f s=>match lk f t with
 |some (.fn _ _ cs)=>match cs[k]? with
  |some (.ptr b _ _ _)=>cellG b j s
  |_=>[]
 |_=>[]
def nob :Fm->SS->Option (List (Nat×List G)):=fun _ _=>some []
def B7 (t:Nat)(gs:List G):Fm->SS->Option (List (Nat×List G)):=fun f _=>match lk f t with
 |some (.ptr b _ _ _)=>some [(b,gs)]
 |_=>none
def bl2 (a b:Fm->SS->Option (List (Nat×List G))):Fm->SS->Option (List (Nat×List G)):=fun f s=>match a f s,b f s with
 |some x,some y=>some (x++y)
 |_,_=>none
def itrPl (t:Nat):Code->Fm->SS->Option (List (At×G)×List Nat):=fun c f s=>match lk f t with
 |some (.ptr b _ _ _)=>match s.get b with
  |some (.iter e _)=>E7 [(t,.itr e)] nob c f s
  |_=>none
 |_=>none
def slMu :List Dat->List Dat->Nat
 | [.str s],.int k::_=>(s.length-k).toNat
 | .lst L::_,.int k::_=>(L.length-k).toNat
 |_,_=>0
def nmInv :List Dat->List Dat->Prop
 | [.str s],[.int k]=>0<=k/\k<=s.length/\(s.take k.toNat).all nameB=true
 |_,_=>False
def nmMu:=slMu
def stInv :List Dat->List Dat->Prop
 | [.str s],[.int k]=>0<=k/\k<=s.length/\(s.take k.toNat).all strB=true
 |_,_=>False
def stMu:=slMu
def attInv :List Dat->List Dat->Prop
 | [.lst L],[.int k]=>0<=k/\k<=L.length/\(∀a∈(ats L).take k.toNat,vName a.n=true/\vStr a.v=true)/\Asc (((ats L).take k.toNat).map Att.n)
 |_,_=>False
def attMu:=slMu
def keysR (L:Sx.Rows):List Str:=L.map fun r=>(r.getD 2 (.int 0)).toStr
def kidInv :List Dat->List Dat->Prop
 | [.lst L],[.int k]=>0<=k/\k<=L.length/\Keys ((keysR L).take k.toNat)
 |_,_=>False
def kidMu:=slMu
def idxInv :List Dat->List Dat->Prop
 | [.lst L,.str y],[.int k]=>0<=k/\k<=L.length/\ ∀z∈(keysR L).take k.toNat,z≠y
 |_,_=>False
def idxMu:=slMu
def wlkInv :List Dat->List Dat->Prop
 | [.lst L,.int lv,.int n,.int d],[.int k,.int n',.int d']=>0<=k/\1<=lv/\lv<=6/\ ∀s:Tree,L=[s.row]->k<=s.c.length/\AllAs (s.c.take k.toNat)/\n'=n+Tree.sizes (s.c.take k.toNat)/\n'<=64/\d'=max d (lv+Tree.depths (s.c.take k.toNat))/\d'<=7/\lv+Tree.depths (s.c.take k.toNat)<=6/\lv<=d
 |_,_=>False
def wlkMu :List Dat->List Dat->Nat
 | [.lst L,_,_,_],[.int k,_,_]=>((u5 L 0 5).rows.length-k).toNat
 |_,_=>0
def cpiInv :List Dat->List Dat->Prop
 | [.lst C,.bool b],[.int k,.lst D]=>0<=k/\k<=C.length/\D.length=C.length/\ ∀c:List Tree,C=rows c->D.take k.toNat=rows (strips b (c.take k.toNat))/\ ∀r∈D,r.length=6
 |_,_=>False
def cpiMu:=slMu
def annsA :FuncId->List (Nat×(Fm->SS->L3))
 |102=>[(0,E5 U0 "nm" (E7 [(14,.int .i64)] nob) (ghostT 0) nmInv slMu)]
 |115=>[(0,E5 U0 "st" (itrPl 10) (ghostT 0) stInv slMu)]
 |94=>[(0,E5 U0 "att" (E7 [(103,.int .i64)] nob) (ghostT 101) attInv slMu),(2,E5 U0 "kid" (E7 [(142,.int .i64)] nob) (ghostT 140) kidInv slMu)]
 |113=>[(0,E5 U0 "idx" (E7 [(8,.int .i64)] nob) (gh2 (ghostT 0) (ghCap 1 0 2)) idxInv slMu)]
 |93=>[(0,E5 U0 "wlk" (E7 [(30,.int .i64)] (bl2 (bl2 (B7 2 [.int .i64]) (B7 3 [.int .i64])) (B7 4 [.keep]))) (gh2 (gh2 (ghostT 0) (ghostT 1)) (gh2 (ghostT 10) (ghostT 13))) wlkInv wlkMu)]
 |43=>[(0,E5 U0 "cpi" (E7 [(23,.int .i64),(5,.acc 28 6)] nob) (gh2 (ghostT 21) (ghostT 1)) cpiInv slMu)]
 |_=>[]
def LVn :FuncId:=13
def livesPre (d:List Dat):Prop:=d=[]
def livesRel:=ba2
def stageA :Nat->List (FuncId×Con)
 |0=>[(LVn,J4 "lives")]
 |1=>[(102,cNamed),(101,cText),(LVn,J4 "lives")]
 |2=>[(94,cAlone),(LVn,J4 "lives")]
 |3=>[(93,cWalk),(LVn,J4 "lives")]
 |_=>[(LVn,J4 "lives")]
def primsA (P:Program):R9:=[]
end Go.D
