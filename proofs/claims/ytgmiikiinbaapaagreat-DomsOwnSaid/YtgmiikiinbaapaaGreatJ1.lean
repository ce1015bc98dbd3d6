/- The DOM: a root is freed: model and contract (Free).
  Conditions: none. -/
import Derived.Test.YtgmiikiinbaapaaGreatI3
set_option linter.all false
noncomputable section
namespace Go.D
open Go Go.Xe Go.Sx
def eK (D:DM)(i g:Int):DM×Int:=match D.at i g with
 |none=>(D,11)
 |some c=>if(D.nod c).par≠ -1 then(D,10)else({(bel D 1001 c).foldl z8 D with C:=(D.C.modify 0 (· -(bel D 1001 c).length)).modify 2 (· +(bel D 1001 c).length)},0)
def sC :Ar->Ar->Prop
 | [.int i,.int g,.lst S,.int fr,.int lv,.int a,.int b,.int c,.int d,.int e,.int f,.int h,.int m,.lst _,.lst N],[.int r,.lst S',.int fr',.int lv',.int a',.int b',.int c',.int d',.int e',.int f',.int h',.int m',.lst _,.lst N']=>
  X0 S N fr lv [a,b,c,d,e,f,h,m] S' N' fr' lv' [a',b',c',d',e',f',h',m'] fun D=>((eK D i g).1,r=(eK D i g).2)
 |_,_=>False
def EI:=AS
def cFre:=mkD "fre" [hV] EI [iV] sC
def Ny :Ay->List (Nat×(Fm->SS->G5)):=T9
def LG :Nat->List (Ay×Con)
 |_=>[(53,cFrc),(LVn,cYes "lives")]
def OQ :Nat->Aw->E7:=T5
open Go.Xe Go.Sx
def M4:=Dr
def D3:=D1
def cRname:=mkC "rname" [sV] M4 [bV] D3
def P9:=Dr
def I4:=J4
def cRstr:=mkC "rstr" [sV] P9 [bV] I4
def Fq:=LS
def G2 :Ar->Ar->Prop
 | [.int k,.str t,.str y,.lst a,.str x,.lst c],[.bool b]=>∀s:c9,isT s k t y a x c->(b=true↔V8 s)
 |_,_=>False
def cOne:=mkC "one" [nV] Fq [bV] G2
def Fits (s:c9)(lv:Int):Prop:=kG s/\(s.depth:Int)<=lv/\s.size<=64
def gI :Ar->Prop
 | [.int k,.str t,.str y,.lst a,.str x,.lst c,.int lv]=>0<=lv/\lv<=6/\ ∃s:c9,isT s k t y a x c|_=>False
def S6 :Ar->Ar->Prop
 | [.int k,.str t,.str y,.lst a,.str x,.lst c,.int lv],[.int n]=>1<=n/\n<=1000+64*lv/\ ∀s:c9,isT s k t y a x c->(n<=64↔Fits s lv)/\(n<=64->n=s.size)|_,_=>False
def nX :Ar->Nat
 | [_,_,_,_,_,_,.int lv]=>lv.toNat|_=>0
def cRcnt:=mkC "rcnt" [nV,iV] gI [iV] S6
def cJ:=LS
def S5:=R4
def cRchk:=mkC "rchk" [nV] cJ [iV] S5
def yH:=pH
def IA:=A7
def Dq:=uP
def rsMu:=A7
def xW :Ar->Ar->Prop
 | [.lst L],[.int i]=>0<=i/\i<=ln L/\ ∀a:List Att,L=a.map Att.row->(∀z∈a.take i.toNat,B1 z.n=true/\I0 z.v=true)/\Asc ((a.take i.toNat).map Att.n)|_,_=>False
def oaMu:=A7
def xZ :Ar->Ar->Prop
 | [.lst L,.int i],[.int k]=>0<=k/\k<=i/\i<ln L/\ ∀a:List Att,L=a.map Att.row-> ∀z∈a.take k.toNat,lt z.n (a.getD i.toNat ⟨[],[]⟩).n=true|_,_=>False
def KD :Ar->Ar->Nat
 | [_,.int i],[.int k]=>(i-k).toNat|_,_=>0
def CV :Ar->Ar->Prop
 | [.lst L],[.int i]=>0<=i/\i<=ln L/\iP ((pD L).take i.toNat)|_,_=>False
def ocMu:=A7
def yA :Ar->Ar->Prop
 | [.lst L,.int i],[.int k]=>0<=k/\k<=i/\i<ln L/\((pD L).getD i.toNat []=[]\/ ∀z∈(pD L).take k.toNat,z≠(pD L).getD i.toNat [])|_,_=>False
def In:=KD
def oZ :Ar->Ar->Prop
 | [.lst C,.int lv],[.int i,.int n]=>0<=i/\i<=ln C/\1<=lv/\1<=n/\n<=1000+64*lv/\ ∀c:List c9,C=rows c->(n<=64↔AllAs (c.take i.toNat)/\(c9.depths (c.take i.toNat):Int)+1<=lv/\c9.sizes (c.take i.toNat)+1<=64)/\(n<=64->n=c9.sizes (c.take i.toNat)+1)|_,_=>False
def ctMu:=A7
def iC :Ay->List (Nat×(Fm->SS->G5))
 |126=>[(0,D8 U0 "rn" (E6 [(3,.int .i64)] nob) (m9 0) yH IA)]
 |127=>[(0,D8 U0 "rs" (E6 [(3,.int .i64)] nob) (m9 0) Dq rsMu)]
 | 157 => [(0, D8 U0 "oa" (E6 [(3, .int .i64), (4, .any)] nob) (A2 1 3) xW oaMu), (2, D8 U0 "ob" (E6 [(4, .int .i64)] nob) (gh2 (A2 1 3) (m9 3)) xZ KD),
   (4,D8 U0 "oc" (E6 [(5,.int .i64),(6,.any)] nob) (A2 1 5) CV ocMu),(6,D8 U0 "od" (E6 [(6,.int .i64)] nob) (gh2 (A2 1 5) (m9 5)) yA In)]
 |152=>[(0,D8 U0 "ct" (E6 [(6,.int .i64),(5,.int .i64)] nob) (gh2 (A2 2 5) (m9 1)) oZ ctMu)]
 |_=>[]
def fQ :Nat->List (Ay×Con)
 |0=>[(LVn,cYes "lives")]
 |1=>[(126,cRname),(127,cRstr),(LVn,cYes "lives")]
 |2=>[(157,cOne),(LVn,cYes "lives")]
 |_=>[(152,cRcnt),(LVn,cYes "lives")]
def tP (_:Nat)(P:Aw):E7:=[]
def t2Pre :Ar->Prop
 | [.int k,.str t,.str y,.lst a,.str x,.lst c,.int k',.str t',.str y',.lst a',.str x',.lst c']=>(∃s:c9,isT s k t y a x c)/\ ∃s':c9,isT s' k' t' y' a' x' c'|_=>False
def zN :Ar->Prop
 | [.int k,.str t,.str y,.lst a,.str x,.lst c,.int k',.str t',.str y',.lst a',.str x',.lst c']=>(∃s:c9,isT s k t y a x c/\kG s)/\ ∃s':c9,isT s' k' t' y' a' x' c'/\kG s'|_=>False
def P4 :Ar->Ar->Prop
 | [.int k,.str t,.str y,.lst a,.str x,.lst c,.int k',.str t',.str y',.lst a',.str x',.lst c'],[.int n]=>∀s s':c9,isT s k t y a x c->isT s' k' t' y' a' x' c'->(s=s'->n=1)/\(s≠s'->n=0)|_,_=>False
def CA :Ar->Nat
 | [_,_,_,_,_,.lst c,_,_,_,_,_,_]=>szRs c|_=>0
def cEqu:=mkC "equ" [nV,nV] zN [iV] P4
def uC:=t2Pre
def fJ :Ar->Ar->Prop
 | [.int k,.str t,.str y,.lst a,.str x,.lst c,.int k',.str t',.str y',.lst a',.str x',.lst c'],[.int n]=>∀s s':c9,isT s k t y a x c->isT s' k' t' y' a' x' c'->(W0 s/\s=s'->n=1)/\(¬(W0 s/\s=s')->n=0)|_,_=>False
def cSam:=mkC "sam" [nV,nV] uC [iV] fJ
def Cz :Ar->Ar->Prop
 | [.lst L,.lst M],[.int i]=>0<=i/\i<=ln L/\ln L=ln M/\L.take i.toNat=M.take i.toNat|_,_=>False
def eaMu:=A7
def GR:=Cz
def ecMu:=A7
def GH :Ay->List (Nat×(Fm->SS->G5))
 |138=>[(0,D8 U0 "ea" (E6 [(5,.int .i64)] nob) (gh2 (A2 2 3) (A2 3 3)) Cz eaMu),(2,D8 U0 "ec" (E6 [(6,.int .i64)] nob) (gh2 (A2 2 5) (A2 3 5)) GR ecMu)]
 |_=>[]
def Gh :Nat->List (Ay×Con)
 |0=>[(LVn,cYes "lives")]
 |_=>[(80,cRchk),(138,cEqu),(LVn,cYes "lives")]
def KN (_:Nat)(P:Aw):E7:=[]
abbrev tRS :Ax:=134
abbrev uZ :Ax:=3
def A5 (j:Nat):Ar:=[.int j]
def Sl.row (s:Sl):Ar:=if s.used then [.int s.g,.bool true,.int s.n.kind,.str s.n.tag,.lst (s.n.atts.map Att.row),.str s.n.text,.int s.n.top,.int s.n.size,.bool s.n.pin,.int s.n.par,.lst (s.n.ch.map A5)]else [.int s.g,.bool false,.int 0,.str [],.lst [],.str [],.int 0,.int 0,.bool false,.int 0,.lst []]
def Rf (D:DM)(L F:Sx.Rows)(cs:Ak):Prop:=L=D.L.map Sl.row/\F=D.free.map A5/\cs=D.C
def fF (L F:Sx.Rows)(cs:Ak):Prop:=∃D K,Rf D L F cs/\WF D K
def bB (L F:Sx.Rows)(cs:Ak)(L' F':Sx.Rows)(cs':Ak)(f:DM->DM×Prop):Prop:=∀D K,Rf D L F cs->WF D K->Rf (f D).1 L' F' cs'/\(f D).2
def i8 :List Lf:=[.g (.int .i64),.g (.int .i64),.g (.int .i64),.g (.int .i64),.g (.int .i64),.g (.int .i64),.g (.int .i64),.g (.int .i64)]
def rfV :Vs:= .agg (.g (.lst tRS):: .g (.lst uZ)::i8)
def rfO :Vs:= .agg (.g (.acc tRS 11):: .g (.lst uZ)::i8)
def ilV :Vs:= .one (.g (.lst uZ))
def alV :Vs:= .one (.g (.lst uY))
def aV :Vs:= .agg [.g .str,.g .str]
def P8 :Ar->Prop
 | [.lst L,.lst F,.int a,.int b,.int c,.int d,.int e,.int f,.int h,.int m,.int i,.int g]=>U32 i/\U32 g/\L.length<=1000|_=>False
def N6 :Ar->Ar->Prop
 | [.lst L,.lst F,.int a,.int b,.int c,.int d,.int e,.int f,.int h,.int m,.int i,.int g],[.int r]=>r=if v9 L i g=true then i else-1
 |_,_=>False
def cRat:=mkC "rat" [rfV,hV] P8 [iV] N6
def L9 :Ar->Prop
 | [.lst L,.lst F,.int a,.int b,.int c,.int d,.int e,.int f,.int h,.int m]=>fF L F [a,b,c,d,e,f,h,m]|_=>False
def T6 :Ar->Ar->Prop
 | [.lst L,.lst F,.int a,.int b,.int c,.int d,.int e,.int f,.int h,.int m],[.lst L',.lst F',.int a',.int b',.int c',.int d',.int e',.int f',.int h',.int m']=>L'=L/\F'=F/\a'=a/\b'=b/\c'=c/\d'=d/\e'=e/\f'=f/\h'=h/\m'=m|_,_=>False
def cRcp:=mkC "rcp" [rfV] L9 [rfO] T6
def NO (L:Sx.Rows)(i:Int):Prop:=∃(l:Ah) (c:Nat),L=l.map A5/\i=c/\l.length<=1000
def tX :Ar->Prop
 | [.lst L,.int i]=>NO L i|_=>False
def AZ :Ar->Ar->Prop
 | [.lst L,.int i],[.int r]=>∀(l:Ah) (c:Nat),L=l.map A5->i=c->(r<0↔c∉l)
 |_,_=>False
def cRpl:=mkC "rpl" [ilV,iV] tX [iV] AZ
def qX :Ar->Prop
 | [.lst L,.int i,.int a]=>NO L i|_=>False
def lN :Ar->Ar->Prop
 | [.lst L,.int i,.int a],[.lst O]=>∀(l:Ah) (c:Nat),L=l.map A5->i=c->O=(Q7 l c a).map A5|_,_=>False
def cRput:=mkC "rput" [ilV,iV,iV] qX [ilV] lN
def gM:=tX
def qZ :Ar->Ar->Prop
 | [.lst L,.int i],[.lst O]=>∀(l:Ah) (c:Nat),L=l.map A5->i=c->O=(J0 l c).map A5|_,_=>False
def cRwit:=mkC "rwit" [ilV,iV] gM [ilV] qZ
def zQ :Ar->Prop
 | [.lst L,.str _]=>∃l:List Att,L=l.map Att.row/\l.length<=8|_=>False
def rX :Ar->Ar->Prop
 | [.lst L,.str n],[.int r]=> -1<=r/\r<L.length/\ ∀l:List Att,L=l.map Att.row->(r<0/\ ∀a∈l,a.n≠n)\/(0<=r/\ ∃a,l[r.toNat]? =some a/\a.n=n)|_,_=>False
def cFnd:=mkC "fnd" [alV,sV] zQ [iV] rX
def aT :List Att->Att->List Att
 | [],a=>[a]
 |b::l,a=>if lt a.n b.n then a::b::l else b::aT l a
def qV :Ar->Prop
 | [.lst L,.str _,.str _]=>∃l:List Att,L=l.map Att.row/\l.length<=8|_=>False
def lJ :Ar->Ar->Prop
 | [.lst L,.str n,.str v],[.lst O]=>∀l:List Att,L=l.map Att.row->O=(aT l ⟨n,v⟩).map Att.row|_,_=>False
def cRins:=mkC "rins" [alV,aV] qV [alV] lJ
def jI :Ar->Ar->Prop
 | [.lst L,.int i,.int g],[.int k]=>0<=k/\k<=L.length/\(v9 L i g=true->k<=i)|_,_=>False
def lG:=A7
def AR :Ar->Ar->Prop
 | .lst L::d,.int k:: .lst O::d'=>0<=k/\k<=L.length/\O=L.take k.toNat/\d'=d|_,_=>False
def KU:=A7
def oD :Ar->Ar->Prop
 | [.lst L,.int i],[.int k]=>0<=k/\k<=L.length/\ ∀(l:Ah) (c:Nat),L=l.map A5->i=c->c∉l.take k.toNat|_,_=>False
def Lc:=A7
def qG (l:Ah)(c:Nat)(a:Int):Ah:=l.flatMap fun(x:Nat)=>if(x:Int)=a then [c,x]else [x]
def cN :Ar->Ar->Prop
 | [.lst L,.int i,.int a],[.int k,.lst O]=>0<=k/\k<=L.length/\(O.length:Int)<=2*k/\ ∀(l:Ah) (c:Nat),L=l.map A5->i=c->O=(qG (l.take k.toNat) c a).map A5|_,_=>False
def oE:=A7
def cP :Ar->Ar->Prop
 | [.lst L,.int i],[.int k,.lst O]=>0<=k/\k<=L.length/\(O.length:Int)<=k/\ ∀(l:Ah) (c:Nat),L=l.map A5->i=c->O=(J0 (l.take k.toNat) c).map A5|_,_=>False
def oF:=A7
def nG :Ar->Ar->Prop
 | [.lst L,.str n],[.int k]=>0<=k/\k<=L.length/\ ∀l:List Att,L=l.map Att.row-> ∀a∈l.take k.toNat,a.n≠n|_,_=>False
def JQ:=A7
def cK :Ar->Ar->Prop
 | [.lst L,.str n,.str v],[.int k,.lst O,.bool p]=>0<=k/\k<=L.length/\(O.length:Int)<=k+(if p=true then 1 else 0)/\ ∀l:List Att,L=l.map Att.row-> ∃o:List Att,O=o.map Att.row/\(if p=true then o++l.drop k.toNat else o++aT (l.drop k.toNat) ⟨n,v⟩)=aT l ⟨n,v⟩|_,_=>False
def nZ:=A7
def g8 :List G:=[.int .i64,.int .i64,.int .i64,.int .i64,.int .i64,.int .i64,.int .i64,.int .i64]
def ghDC (t:Nat):Fm->SS->List (So×E):=gh2 (A2 t 1) (gh2 (A2 t 2) (gh2 (A2 t 3) (gh2 (A2 t 4) (gh2 (A2 t 5) (gh2 (A2 t 6) (gh2 (A2 t 7) (gh2 (A2 t 8) (A2 t 9))))))))
def U2 :Ay->List (Nat×(Fm->SS->G5))
 |128=>[(0,D8 U0 "rat" (E6 [(5,.int .i64)] nob) (gh2 (A2 2 0) (gh2 (A2 3 0) (A2 3 1))) jI A7)]
 |29=>[(0,D8 U0 "rcp" (E6 [(4,.int .i64)] (G9 3 (.acc tRS 11:: .lst uZ::g8))) (gh2 (A2 1 0) (ghDC 1)) AR A7)]
 |133=>[(0,D8 U0 "rpl" (E6 [(5,.int .i64)] nob) (gh2 (m9 0) (m9 1)) oD A7)]
 |134=>[(0,D8 U0 "rput" (E6 [(8,.int .i64),(7,.acc uZ 1)] nob) (gh2 (m9 0) (gh2 (m9 1) (m9 2))) cN A7)]
 |135=>[(0,D8 U0 "rwit" (E6 [(6,.int .i64),(5,.acc uZ 1)] nob) (gh2 (m9 0) (m9 1)) cP A7)]
 |129=>[(0,D8 U0 "fnd" (E6 [(5,.int .i64)] nob) (gh2 (m9 0) (m9 1)) nG A7)]
 |151=>[(0,D8 U0 "rins" (E6 [(7,.int .i64),(5,.acc uY 2),(6,.bool)] nob) (gh2 (m9 0) (gh2 (A2 3 0) (A2 3 1))) cK A7)]
 |_=>[]
def jR :Nat->List (Ay×Con)
 |_=>[(LVn,cYes "lives")]
def aE :Nat->Aw->E7
 |_,_=>[]
