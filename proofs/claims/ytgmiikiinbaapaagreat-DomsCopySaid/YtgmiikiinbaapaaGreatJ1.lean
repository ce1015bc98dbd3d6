/- The DOM: a root is freed: model and contract (Free).
  Conditions: none. -/
import Derived.Test.YtgmiikiinbaapaaGreatI3
set_option linter.all false
noncomputable section
namespace Go.D
open Go Go.Xe Go.Sx
def fU (D:DM)(i g:Int):DM×Int:=match D.at i g with
 |none=>(D,11)
 |some c=>if(D.nod c).par≠ -1 then(D,10)else({(bel D 1001 c).foldl B1 D with C:=(D.C.modify 0 (· -(bel D 1001 c).length)).modify 2 (· +(bel D 1001 c).length)},0)
def tQ :Ar->Ar->Prop
 | [.int i,.int g,.lst S,.int fr,.int lv,.int a,.int b,.int c,.int d,.int e,.int f,.int h,.int m,.lst _,.lst N],[.int r,.lst S',.int fr',.int lv',.int a',.int b',.int c',.int d',.int e',.int f',.int h',.int m',.lst _,.lst N']=>
  Z5 S N fr lv [a,b,c,d,e,f,h,m] S' N' fr' lv' [a',b',c',d',e',f',h',m'] fun D=>((fU D i g).1,r=(fU D i g).2)
 |_,_=>False
def FB:=BE
def cFre:=mkD "fre" [hV] FB [iV] tQ
def Oz :Ay->List (Nat×(Fm->SS->H6)):=W6
def MI :Nat->List (Ay×Con)
 |_=>[(53,cFrc),(LVn,cYes "lives")]
def Qe :Nat->Aw->F8:=W3
open Go.Xe Go.Sx
def P2:=Ec
def E6:=E4
def cRname:=mkC "rname" [sV] P2 [bV] E6
def S8:=Ec
def K0:=L5
def cRstr:=mkC "rstr" [sV] S8 [bV] K0
def Gf:=MQ
def I0 :Ar->Ar->Prop
 | [.int k,.str t,.str y,.lst a,.str x,.lst c],[.bool b]=>∀s:d8,isT s k t y a x c->(b=true↔Y3 s)
 |_,_=>False
def cOne:=mkC "one" [nV] Gf [bV] I0
def Fits (s:d8)(lv:Int):Prop:=lP s/\(s.depth:Int)<=lv/\s.size<=64
def iF :Ar->Prop
 | [.int k,.str t,.str y,.lst a,.str x,.lst c,.int lv]=>0<=lv/\lv<=6/\ ∃s:d8,isT s k t y a x c|_=>False
def V3 :Ar->Ar->Prop
 | [.int k,.str t,.str y,.lst a,.str x,.lst c,.int lv],[.int n]=>1<=n/\n<=1000+64*lv/\ ∀s:d8,isT s k t y a x c->(n<=64↔Fits s lv)/\(n<=64->n=s.size)|_,_=>False
def pE :Ar->Nat
 | [_,_,_,_,_,_,.int lv]=>lv.toNat|_=>0
def cRcnt:=mkC "rcnt" [nV,iV] iF [iV] V3
def dM:=MQ
def V2:=U5
def cRchk:=mkC "rchk" [nV] dM [iV] V2
def zS:=qR
def Js:=B6
def Eb:=wF
def rsMu:=B6
def zJ :Ar->Ar->Prop
 | [.lst L],[.int i]=>0<=i/\i<=ln L/\ ∀a:List Att,L=a.map Att.row->(∀z∈a.take i.toNat,C2 z.n=true/\J5 z.v=true)/\Asc ((a.take i.toNat).map Att.n)|_,_=>False
def oaMu:=B6
def zK :Ar->Ar->Prop
 | [.lst L,.int i],[.int k]=>0<=k/\k<=i/\i<ln L/\ ∀a:List Att,L=a.map Att.row-> ∀z∈a.take k.toNat,lt z.n (a.getD i.toNat ⟨[],[]⟩).n=true|_,_=>False
def LG :Ar->Ar->Nat
 | [_,.int i],[.int k]=>(i-k).toNat|_,_=>0
def DG :Ar->Ar->Prop
 | [.lst L],[.int i]=>0<=i/\i<=ln L/\jV ((qN L).take i.toNat)|_,_=>False
def ocMu:=B6
def zL :Ar->Ar->Prop
 | [.lst L,.int i],[.int k]=>0<=k/\k<=i/\i<ln L/\((qN L).getD i.toNat []=[]\/ ∀z∈(qN L).take k.toNat,z≠(qN L).getD i.toNat [])|_,_=>False
def Jf:=LG
def qK :Ar->Ar->Prop
 | [.lst C,.int lv],[.int i,.int n]=>0<=i/\i<=ln C/\1<=lv/\1<=n/\n<=1000+64*lv/\ ∀c:List d8,C=rows c->(n<=64↔AllAs (c.take i.toNat)/\(d8.depths (c.take i.toNat):Int)+1<=lv/\d8.sizes (c.take i.toNat)+1<=64)/\(n<=64->n=d8.sizes (c.take i.toNat)+1)|_,_=>False
def ctMu:=B6
def jJ :Ay->List (Nat×(Fm->SS->H6))
 |126=>[(0,D5 U0 "rn" (D9 [(3,.int .i64)] nob) (l8 0) zS Js)]
 |127=>[(0,D5 U0 "rs" (D9 [(3,.int .i64)] nob) (l8 0) Eb rsMu)]
 | 157 => [(0, D5 U0 "oa" (D9 [(3, .int .i64), (4, .any)] nob) (z5 1 3) zJ oaMu), (2, D5 U0 "ob" (D9 [(4, .int .i64)] nob) (gh2 (z5 1 3) (l8 3)) zK LG),
   (4,D5 U0 "oc" (D9 [(5,.int .i64),(6,.any)] nob) (z5 1 5) DG ocMu),(6,D5 U0 "od" (D9 [(6,.int .i64)] nob) (gh2 (z5 1 5) (l8 5)) zL Jf)]
 |152=>[(0,D5 U0 "ct" (D9 [(6,.int .i64),(5,.int .i64)] nob) (gh2 (z5 2 5) (l8 1)) qK ctMu)]
 |_=>[]
def gU :Nat->List (Ay×Con)
 |0=>[(LVn,cYes "lives")]
 |1=>[(126,cRname),(127,cRstr),(LVn,cYes "lives")]
 |2=>[(157,cOne),(LVn,cYes "lives")]
 |_=>[(152,cRcnt),(LVn,cYes "lives")]
def vC (_:Nat)(P:Aw):F8:=[]
def t2Pre :Ar->Prop
 | [.int k,.str t,.str y,.lst a,.str x,.lst c,.int k',.str t',.str y',.lst a',.str x',.lst c']=>(∃s:d8,isT s k t y a x c)/\ ∃s':d8,isT s' k' t' y' a' x' c'|_=>False
def AY :Ar->Prop
 | [.int k,.str t,.str y,.lst a,.str x,.lst c,.int k',.str t',.str y',.lst a',.str x',.lst c']=>(∃s:d8,isT s k t y a x c/\lP s)/\ ∃s':d8,isT s' k' t' y' a' x' c'/\lP s'|_=>False
def R9 :Ar->Ar->Prop
 | [.int k,.str t,.str y,.lst a,.str x,.lst c,.int k',.str t',.str y',.lst a',.str x',.lst c'],[.int n]=>∀s s':d8,isT s k t y a x c->isT s' k' t' y' a' x' c'->(s=s'->n=1)/\(s≠s'->n=0)|_,_=>False
def Di :Ar->Nat
 | [_,_,_,_,_,.lst c,_,_,_,_,_,_]=>szRs c|_=>0
def cEqu:=mkC "equ" [nV,nV] AY [iV] R9
def vR:=t2Pre
def gN :Ar->Ar->Prop
 | [.int k,.str t,.str y,.lst a,.str x,.lst c,.int k',.str t',.str y',.lst a',.str x',.lst c'],[.int n]=>∀s s':d8,isT s k t y a x c->isT s' k' t' y' a' x' c'->(Y5 s/\s=s'->n=1)/\(¬(Y5 s/\s=s')->n=0)|_,_=>False
def cSam:=mkC "sam" [nV,nV] vR [iV] gN
def Dh :Ar->Ar->Prop
 | [.lst L,.lst M],[.int i]=>0<=i/\i<=ln L/\ln L=ln M/\L.take i.toNat=M.take i.toNat|_,_=>False
def eaMu:=B6
def HC:=Dh
def ecMu:=B6
def Hs :Ay->List (Nat×(Fm->SS->H6))
 |138=>[(0,D5 U0 "ea" (D9 [(5,.int .i64)] nob) (gh2 (z5 2 3) (z5 3 3)) Dh eaMu),(2,D5 U0 "ec" (D9 [(6,.int .i64)] nob) (gh2 (z5 2 5) (z5 3 5)) HC ecMu)]
 |_=>[]
def GT :Nat->List (Ay×Con)
 |0=>[(LVn,cYes "lives")]
 |_=>[(80,cRchk),(138,cEqu),(LVn,cYes "lives")]
def LQ (_:Nat)(P:Aw):F8:=[]
abbrev tRS :Ax:=134
abbrev wM :Ax:=3
def l9 (j:Nat):Ar:=[.int j]
def Sl.row (s:Sl):Ar:=if s.used then [.int s.g,.bool true,.int s.n.kind,.str s.n.tag,.lst (s.n.atts.map Att.row),.str s.n.text,.int s.n.top,.int s.n.size,.bool s.n.pin,.int s.n.par,.lst (s.n.ch.map l9)]else [.int s.g,.bool false,.int 0,.str [],.lst [],.str [],.int 0,.int 0,.bool false,.int 0,.lst []]
def Rf (D:DM)(L F:Sx.Rows)(cs:Ak):Prop:=L=D.L.map Sl.row/\F=D.free.map l9/\cs=D.C
def gK (L F:Sx.Rows)(cs:Ak):Prop:=∃D K,Rf D L F cs/\WF D K
def cG (L F:Sx.Rows)(cs:Ak)(L' F':Sx.Rows)(cs':Ak)(f:DM->DM×Prop):Prop:=∀D K,Rf D L F cs->WF D K->Rf (f D).1 L' F' cs'/\(f D).2
def i8 :List Lf:=[.g (.int .i64),.g (.int .i64),.g (.int .i64),.g (.int .i64),.g (.int .i64),.g (.int .i64),.g (.int .i64),.g (.int .i64)]
def rfV :Vs:= .agg (.g (.lst tRS):: .g (.lst wM)::i8)
def rfO :Vs:= .agg (.g (.acc tRS 11):: .g (.lst wM)::i8)
def ilV :Vs:= .one (.g (.lst wM))
def alV :Vs:= .one (.g (.lst rQ))
def aV :Vs:= .agg [.g .str,.g .str]
def S7 :Ar->Prop
 | [.lst L,.lst F,.int a,.int b,.int c,.int d,.int e,.int f,.int h,.int m,.int i,.int g]=>U32 i/\U32 g/\L.length<=1000|_=>False
def Q0 :Ar->Ar->Prop
 | [.lst L,.lst F,.int a,.int b,.int c,.int d,.int e,.int f,.int h,.int m,.int i,.int g],[.int r]=>r=if z9 L i g=true then i else-1
 |_,_=>False
def cRat:=mkC "rat" [rfV,hV] S7 [iV] Q0
def M4 :Ar->Prop
 | [.lst L,.lst F,.int a,.int b,.int c,.int d,.int e,.int f,.int h,.int m]=>gK L F [a,b,c,d,e,f,h,m]|_=>False
def U8 :Ar->Ar->Prop
 | [.lst L,.lst F,.int a,.int b,.int c,.int d,.int e,.int f,.int h,.int m],[.lst L',.lst F',.int a',.int b',.int c',.int d',.int e',.int f',.int h',.int m']=>L'=L/\F'=F/\a'=a/\b'=b/\c'=c/\d'=d/\e'=e/\f'=f/\h'=h/\m'=m|_,_=>False
def cRcp:=mkC "rcp" [rfV] M4 [rfO] U8
def ON (L:Sx.Rows)(i:Int):Prop:=∃(l:Ah) (c:Nat),L=l.map l9/\i=c/\l.length<=1000
def vM :Ar->Prop
 | [.lst L,.int i]=>ON L i|_=>False
def BM :Ar->Ar->Prop
 | [.lst L,.int i],[.int r]=>∀(l:Ah) (c:Nat),L=l.map l9->i=c->(r<0↔c∉l)
 |_,_=>False
def cRpl:=mkC "rpl" [ilV,iV] vM [iV] BM
def sH :Ar->Prop
 | [.lst L,.int i,.int a]=>ON L i|_=>False
def mY :Ar->Ar->Prop
 | [.lst L,.int i,.int a],[.lst O]=>∀(l:Ah) (c:Nat),L=l.map l9->i=c->O=(T8 l c a).map l9|_,_=>False
def cRput:=mkC "rput" [ilV,iV,iV] sH [ilV] mY
def iJ:=vM
def sJ :Ar->Ar->Prop
 | [.lst L,.int i],[.lst O]=>∀(l:Ah) (c:Nat),L=l.map l9->i=c->O=(K6 l c).map l9|_,_=>False
def cRwit:=mkC "rwit" [ilV,iV] iJ [ilV] sJ
def Be :Ar->Prop
 | [.lst L,.str _]=>∃l:List Att,L=l.map Att.row/\l.length<=8|_=>False
def tM :Ar->Ar->Prop
 | [.lst L,.str n],[.int r]=> -1<=r/\r<L.length/\ ∀l:List Att,L=l.map Att.row->(r<0/\ ∀a∈l,a.n≠n)\/(0<=r/\ ∃a,l[r.toNat]? =some a/\a.n=n)|_,_=>False
def cFnd:=mkC "fnd" [alV,sV] Be [iV] tM
def bX :List Att->Att->List Att
 | [],a=>[a]
 |b::l,a=>if lt a.n b.n then a::b::l else b::bX l a
def sG :Ar->Prop
 | [.lst L,.str _,.str _]=>∃l:List Att,L=l.map Att.row/\l.length<=8|_=>False
def mV :Ar->Ar->Prop
 | [.lst L,.str n,.str v],[.lst O]=>∀l:List Att,L=l.map Att.row->O=(bX l ⟨n,v⟩).map Att.row|_,_=>False
def cRins:=mkC "rins" [alV,aV] sG [alV] mV
def kQ :Ar->Ar->Prop
 | [.lst L,.int i,.int g],[.int k]=>0<=k/\k<=L.length/\(z9 L i g=true->k<=i)|_,_=>False
def mT:=B6
def BC :Ar->Ar->Prop
 | .lst L::d,.int k:: .lst O::d'=>0<=k/\k<=L.length/\O=L.take k.toNat/\d'=d|_,_=>False
def Mb:=B6
def pJ :Ar->Ar->Prop
 | [.lst L,.int i],[.int k]=>0<=k/\k<=L.length/\ ∀(l:Ah) (c:Nat),L=l.map l9->i=c->c∉l.take k.toNat|_,_=>False
def Mj:=B6
def rO (l:Ah)(c:Nat)(a:Int):Ah:=l.flatMap fun(x:Nat)=>if(x:Int)=a then [c,x]else [x]
def dP :Ar->Ar->Prop
 | [.lst L,.int i,.int a],[.int k,.lst O]=>0<=k/\k<=L.length/\(O.length:Int)<=2*k/\ ∀(l:Ah) (c:Nat),L=l.map l9->i=c->O=(rO (l.take k.toNat) c a).map l9|_,_=>False
def pK:=B6
def dR :Ar->Ar->Prop
 | [.lst L,.int i],[.int k,.lst O]=>0<=k/\k<=L.length/\(O.length:Int)<=k/\ ∀(l:Ah) (c:Nat),L=l.map l9->i=c->O=(K6 (l.take k.toNat) c).map l9|_,_=>False
def pL:=B6
def oO :Ar->Ar->Prop
 | [.lst L,.str n],[.int k]=>0<=k/\k<=L.length/\ ∀l:List Att,L=l.map Att.row-> ∀a∈l.take k.toNat,a.n≠n|_,_=>False
def KN:=B6
def dN :Ar->Ar->Prop
 | [.lst L,.str n,.str v],[.int k,.lst O,.bool p]=>0<=k/\k<=L.length/\(O.length:Int)<=k+(if p=true then 1 else 0)/\ ∀l:List Att,L=l.map Att.row-> ∃o:List Att,O=o.map Att.row/\(if p=true then o++l.drop k.toNat else o++bX (l.drop k.toNat) ⟨n,v⟩)=bX l ⟨n,v⟩|_,_=>False
def pG:=B6
def g8 :List G:=[.int .i64,.int .i64,.int .i64,.int .i64,.int .i64,.int .i64,.int .i64,.int .i64]
def ghDC (t:Nat):Fm->SS->List (So×E):=gh2 (z5 t 1) (gh2 (z5 t 2) (gh2 (z5 t 3) (gh2 (z5 t 4) (gh2 (z5 t 5) (gh2 (z5 t 6) (gh2 (z5 t 7) (gh2 (z5 t 8) (z5 t 9))))))))
def W8 :Ay->List (Nat×(Fm->SS->H6))
 |128=>[(0,D5 U0 "rat" (D9 [(5,.int .i64)] nob) (gh2 (z5 2 0) (gh2 (z5 3 0) (z5 3 1))) kQ B6)]
 |29=>[(0,D5 U0 "rcp" (D9 [(4,.int .i64)] (H7 3 (.acc tRS 11:: .lst wM::g8))) (gh2 (z5 1 0) (ghDC 1)) BC B6)]
 |133=>[(0,D5 U0 "rpl" (D9 [(5,.int .i64)] nob) (gh2 (l8 0) (l8 1)) pJ B6)]
 |134=>[(0,D5 U0 "rput" (D9 [(8,.int .i64),(7,.acc wM 1)] nob) (gh2 (l8 0) (gh2 (l8 1) (l8 2))) dP B6)]
 |135=>[(0,D5 U0 "rwit" (D9 [(6,.int .i64),(5,.acc wM 1)] nob) (gh2 (l8 0) (l8 1)) dR B6)]
 |129=>[(0,D5 U0 "fnd" (D9 [(5,.int .i64)] nob) (gh2 (l8 0) (l8 1)) oO B6)]
 |151=>[(0,D5 U0 "rins" (D9 [(7,.int .i64),(5,.acc rQ 2),(6,.bool)] nob) (gh2 (l8 0) (gh2 (z5 3 0) (z5 3 1))) dN B6)]
 |_=>[]
def kZ :Nat->List (Ay×Con)
 |_=>[(LVn,cYes "lives")]
def bE :Nat->Aw->F8
 |_,_=>[]
