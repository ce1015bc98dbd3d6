/- The DOM: a root is freed: model and contract (Free).
  Conditions: none. -/
import Derived.Test.YtgmiikiinbaapaaGreatI4
import Derived.Test.YtgmiikiinbaapaaGreatA5
import Derived.Test.YtgmiikiinbaapaaGreatSm4
set_option linter.all false
noncomputable section
namespace Go.D
open Go Go.Xe Go.Sx
def eE (D:DM)(i g:Int):DM×Int:=match D.at i g with
 |none=>(D,11)
 |some c=>if(D.nod c).par≠ -1 then(D,10)else({(bel D 1001 c).foldl z7 D with C:=(D.C.modify 0 (· -(bel D 1001 c).length)).modify 2 (· +(bel D 1001 c).length)},0)
def rM :Ar->Ar->Prop
 | [.int i,.int g,.lst S,.int fr,.int lv,.int a,.int b,.int c,.int d,.int e,.int f,.int h,.int m,.lst _,.lst N],[.int r,.lst S',.int fr',.int lv',.int a',.int b',.int c',.int d',.int e',.int f',.int h',.int m',.lst _,.lst N']=>
  W5 S N fr lv [a,b,c,d,e,f,h,m] S' N' fr' lv' [a',b',c',d',e',f',h',m'] fun D=>((eE D i g).1,r=(eE D i g).2)
 |_,_=>False
def Ei:=Aj
def cFre:=mkD "fre" [hV] Ei [iV] rM
def MO :Ay->List (Nat×(Fm->SS->G5)):=T5
def La :Nat->List (Ay×Con)
 |_=>[(53,cFrc),(LVn,cYes "lives")]
def Oj :Nat->Aw->E8:=S8
end Go.D
noncomputable section
namespace Go.D
open Go.Xe Go.Sx
def M2:=CU
def C9:=C7
def cRname:=mkC "rname" [sV] M2 [bV] C9
def P4:=CU
def I0:=J1
def cRstr:=mkC "rstr" [sV] P4 [bV] I0
def EN:=Lm
def F9 :Ar->Ar->Prop
 | [.int k,.str t,.str y,.lst a,.str x,.lst c],[.bool b]=>∀s:c9,isT s k t y a x c->(b=true↔V3 s)
 |_,_=>False
def cOne:=mkC "one" [nV] EN [bV] F9
def Fits (s:c9)(lv:Int):Prop:=jT s/\(s.depth:Int)<=lv/\s.size<=64
def fY :Ar->Prop
 | [.int k,.str t,.str y,.lst a,.str x,.lst c,.int lv]=>0<=lv/\lv<=6/\ ∃s:c9,isT s k t y a x c|_=>False
def R8 :Ar->Ar->Prop
 | [.int k,.str t,.str y,.lst a,.str x,.lst c,.int lv],[.int n]=>1<=n/\n<=1000+64*lv/\ ∀s:c9,isT s k t y a x c->(n<=64↔Fits s lv)/\(n<=64->n=s.size)|_,_=>False
def nH :Ar->Nat
 | [_,_,_,_,_,_,.int lv]=>lv.toNat|_=>0
def cRcnt:=mkC "rcnt" [nV,iV] fY [iV] R8
def cD:=Lm
def R7:=Q9
def cRchk:=mkC "rchk" [nV] cD [iV] R7
def xP:=oU
def Ib:=A5
def CT:=uC
def rsMu:=A5
def xD :Ar->Ar->Prop
 | [.lst L],[.int i]=>0<=i/\i<=ln L/\ ∀a:List Att,L=a.map Att.row->(∀z∈a.take i.toNat,B0 z.n=true/\H7 z.v=true)/\Asc ((a.take i.toNat).map Att.n)|_,_=>False
def oaMu:=A5
def xE :Ar->Ar->Prop
 | [.lst L,.int i],[.int k]=>0<=k/\k<=i/\i<ln L/\ ∀a:List Att,L=a.map Att.row-> ∀z∈a.take k.toNat,lt z.n (a.getD i.toNat ⟨[],[]⟩).n=true|_,_=>False
def Ke :Ar->Ar->Nat
 | [_,.int i],[.int k]=>(i-k).toNat|_,_=>0
def CA :Ar->Ar->Prop
 | [.lst L],[.int i]=>0<=i/\i<=ln L/\iG ((oQ L).take i.toNat)|_,_=>False
def ocMu:=A5
def xF :Ar->Ar->Prop
 | [.lst L,.int i],[.int k]=>0<=k/\k<=i/\i<ln L/\((oQ L).getD i.toNat []=[]\/ ∀z∈(oQ L).take k.toNat,z≠(oQ L).getD i.toNat [])|_,_=>False
def HO:=Ke
def oM :Ar->Ar->Prop
 | [.lst C,.int lv],[.int i,.int n]=>0<=i/\i<=ln C/\1<=lv/\1<=n/\n<=1000+64*lv/\ ∀c:List c9,C=rows c->(n<=64↔AllAs (c.take i.toNat)/\(c9.depths (c.take i.toNat):Int)+1<=lv/\c9.sizes (c.take i.toNat)+1<=64)/\(n<=64->n=c9.sizes (c.take i.toNat)+1)|_,_=>False
def ctMu:=A5
def hE :Ay->List (Nat×(Fm->SS->G5))
 |126=>[(0,G1 U0 "rn" (G9 [(3,.int .i64)] nob) (m8 0) xP Ib)]
 |127=>[(0,G1 U0 "rs" (G9 [(3,.int .i64)] nob) (m8 0) CT rsMu)]
 | 157 => [(0, G1 U0 "oa" (G9 [(3, .int .i64), (4, .any)] nob) (A0 1 3) xD oaMu), (2, G1 U0 "ob" (G9 [(4, .int .i64)] nob) (gh2 (A0 1 3) (m8 3)) xE Ke),
   (4,G1 U0 "oc" (G9 [(5,.int .i64),(6,.any)] nob) (A0 1 5) CA ocMu),(6,G1 U0 "od" (G9 [(6,.int .i64)] nob) (gh2 (A0 1 5) (m8 5)) xF HO)]
 |152=>[(0,G1 U0 "ct" (G9 [(6,.int .i64),(5,.int .i64)] nob) (gh2 (A0 2 5) (m8 1)) oM ctMu)]
 |_=>[]
def fH :Nat->List (Ay×Con)
 |0=>[(LVn,cYes "lives")]
 |1=>[(126,cRname),(127,cRstr),(LVn,cYes "lives")]
 |2=>[(157,cOne),(LVn,cYes "lives")]
 |_=>[(152,cRcnt),(LVn,cYes "lives")]
def sY (_:Nat)(P:Aw):E8:=[]
def t2Pre :Ar->Prop
 | [.int k,.str t,.str y,.lst a,.str x,.lst c,.int k',.str t',.str y',.lst a',.str x',.lst c']=>(∃s:c9,isT s k t y a x c)/\ ∃s':c9,isT s' k' t' y' a' x' c'|_=>False
def yW :Ar->Prop
 | [.int k,.str t,.str y,.lst a,.str x,.lst c,.int k',.str t',.str y',.lst a',.str x',.lst c']=>(∃s:c9,isT s k t y a x c/\jT s)/\ ∃s':c9,isT s' k' t' y' a' x' c'/\jT s'|_=>False
def O8 :Ar->Ar->Prop
 | [.int k,.str t,.str y,.lst a,.str x,.lst c,.int k',.str t',.str y',.lst a',.str x',.lst c'],[.int n]=>∀s s':c9,isT s k t y a x c->isT s' k' t' y' a' x' c'->(s=s'->n=1)/\(s≠s'->n=0)|_,_=>False
def Cc :Ar->Nat
 | [_,_,_,_,_,.lst c,_,_,_,_,_,_]=>szRs c|_=>0
def cEqu:=mkC "equ" [nV,nV] yW [iV] O8
def tO:=t2Pre
def fA :Ar->Ar->Prop
 | [.int k,.str t,.str y,.lst a,.str x,.lst c,.int k',.str t',.str y',.lst a',.str x',.lst c'],[.int n]=>∀s s':c9,isT s k t y a x c->isT s' k' t' y' a' x' c'->(V5 s/\s=s'->n=1)/\(¬(V5 s/\s=s')->n=0)|_,_=>False
def cSam:=mkC "sam" [nV,nV] tO [iV] fA
def Cb :Ar->Ar->Prop
 | [.lst L,.lst M],[.int i]=>0<=i/\i<=ln L/\ln L=ln M/\L.take i.toNat=M.take i.toNat|_,_=>False
def eaMu:=A5
def Gu:=Cb
def ecMu:=A5
def Gi :Ay->List (Nat×(Fm->SS->G5))
 |138=>[(0,G1 U0 "ea" (G9 [(5,.int .i64)] nob) (gh2 (A0 2 3) (A0 3 3)) Cb eaMu),(2,G1 U0 "ec" (G9 [(6,.int .i64)] nob) (gh2 (A0 2 5) (A0 3 5)) Gu ecMu)]
 |_=>[]
def FF :Nat->List (Ay×Con)
 |0=>[(LVn,cYes "lives")]
 |_=>[(80,cRchk),(138,cEqu),(LVn,cYes "lives")]
def Kn (_:Nat)(P:Aw):E8:=[]
end Go.D
noncomputable section
namespace Go.D
open Go Go.Xe Go.Sx
abbrev tRS :Ax:=134
abbrev uJ :Ax:=3
def A3 (j:Nat):Ar:=[.int j]
def Sl.row (s:Sl):Ar:=if s.used then [.int s.g,.bool true,.int s.n.kind,.str s.n.tag,.lst (s.n.atts.map Att.row),.str s.n.text,.int s.n.top,.int s.n.size,.bool s.n.pin,.int s.n.par,.lst (s.n.ch.map A3)]else [.int s.g,.bool false,.int 0,.str [],.lst [],.str [],.int 0,.int 0,.bool false,.int 0,.lst []]
def Rf (D:DM)(L F:Sx.Rows)(cs:Ak):Prop:=L=D.L.map Sl.row/\F=D.free.map A3/\cs=D.C
def eU (L F:Sx.Rows)(cs:Ak):Prop:=∃D K,Rf D L F cs/\WF D K
def aX (L F:Sx.Rows)(cs:Ak)(L' F':Sx.Rows)(cs':Ak)(f:DM->DM×Prop):Prop:=∀D K,Rf D L F cs->WF D K->Rf (f D).1 L' F' cs'/\(f D).2
def i8 :List Lf:=[.g (.int .i64),.g (.int .i64),.g (.int .i64),.g (.int .i64),.g (.int .i64),.g (.int .i64),.g (.int .i64),.g (.int .i64)]
def rfV :Vs:= .agg (.g (.lst tRS):: .g (.lst uJ)::i8)
def rfO :Vs:= .agg (.g (.acc tRS 11):: .g (.lst uJ)::i8)
def ilV :Vs:= .one (.g (.lst uJ))
def alV :Vs:= .one (.g (.lst Bf))
def aV :Vs:= .agg [.g .str,.g .str]
def P3 :Ar->Prop
 | [.lst L,.lst F,.int a,.int b,.int c,.int d,.int e,.int f,.int h,.int m,.int i,.int g]=>U32 i/\U32 g/\L.length<=1000|_=>False
def M9 :Ar->Ar->Prop
 | [.lst L,.lst F,.int a,.int b,.int c,.int d,.int e,.int f,.int h,.int m,.int i,.int g],[.int r]=>r=if y4 L i g=true then i else-1
 |_,_=>False
def cRat:=mkC "rat" [rfV,hV] P3 [iV] M9
def L8 :Ar->Prop
 | [.lst L,.lst F,.int a,.int b,.int c,.int d,.int e,.int f,.int h,.int m]=>eU L F [a,b,c,d,e,f,h,m]|_=>False
def S9 :Ar->Ar->Prop
 | [.lst L,.lst F,.int a,.int b,.int c,.int d,.int e,.int f,.int h,.int m],[.lst L',.lst F',.int a',.int b',.int c',.int d',.int e',.int f',.int h',.int m']=>L'=L/\F'=F/\a'=a/\b'=b/\c'=c/\d'=d/\e'=e/\f'=f/\h'=h/\m'=m|_,_=>False
def cRcp:=mkC "rcp" [rfV] L8 [rfO] S9
def Ng (L:Sx.Rows)(i:Int):Prop:=∃(l:Ah) (c:Nat),L=l.map A3/\i=c/\l.length<=1000
def tJ :Ar->Prop
 | [.lst L,.int i]=>Ng L i|_=>False
def AE :Ar->Ar->Prop
 | [.lst L,.int i],[.int r]=>∀(l:Ah) (c:Nat),L=l.map A3->i=c->(r<0↔c∉l)
 |_,_=>False
def cRpl:=mkC "rpl" [ilV,iV] tJ [iV] AE
def qK :Ar->Prop
 | [.lst L,.int i,.int a]=>Ng L i|_=>False
def kZ :Ar->Ar->Prop
 | [.lst L,.int i,.int a],[.lst O]=>∀(l:Ah) (c:Nat),L=l.map A3->i=c->O=(Q3 l c a).map A3|_,_=>False
def cRput:=mkC "rput" [ilV,iV,iV] qK [ilV] kZ
def gC:=tJ
def qM :Ar->Ar->Prop
 | [.lst L,.int i],[.lst O]=>∀(l:Ah) (c:Nat),L=l.map A3->i=c->O=(I6 l c).map A3|_,_=>False
def cRwit:=mkC "rwit" [ilV,iV] gC [ilV] qM
def yZ :Ar->Prop
 | [.lst L,.str _]=>∃l:List Att,L=l.map Att.row/\l.length<=8|_=>False
def rI :Ar->Ar->Prop
 | [.lst L,.str n],[.int r]=> -1<=r/\r<L.length/\ ∀l:List Att,L=l.map Att.row->(r<0/\ ∀a∈l,a.n≠n)\/(0<=r/\ ∃a,l[r.toNat]? =some a/\a.n=n)|_,_=>False
def cFnd:=mkC "fnd" [alV,sV] yZ [iV] rI
def aP :List Att->Att->List Att
 | [],a=>[a]
 |b::l,a=>if lt a.n b.n then a::b::l else b::aP l a
def qI :Ar->Prop
 | [.lst L,.str _,.str _]=>∃l:List Att,L=l.map Att.row/\l.length<=8|_=>False
def kW :Ar->Ar->Prop
 | [.lst L,.str n,.str v],[.lst O]=>∀l:List Att,L=l.map Att.row->O=(aP l ⟨n,v⟩).map Att.row|_,_=>False
def cRins:=mkC "rins" [alV,aV] qI [alV] kW
def iY :Ar->Ar->Prop
 | [.lst L,.int i,.int g],[.int k]=>0<=k/\k<=L.length/\(y4 L i g=true->k<=i)|_,_=>False
def kU:=A5
def Ad :Ar->Ar->Prop
 | .lst L::d,.int k:: .lst O::d'=>0<=k/\k<=L.length/\O=L.take k.toNat/\d'=d|_,_=>False
def Kt:=A5
def nM :Ar->Ar->Prop
 | [.lst L,.int i],[.int k]=>0<=k/\k<=L.length/\ ∀(l:Ah) (c:Nat),L=l.map A3->i=c->c∉l.take k.toNat|_,_=>False
def KA:=A5
def pT (l:Ah)(c:Nat)(a:Int):Ah:=l.flatMap fun(x:Nat)=>if(x:Int)=a then [c,x]else [x]
def cF :Ar->Ar->Prop
 | [.lst L,.int i,.int a],[.int k,.lst O]=>0<=k/\k<=L.length/\(O.length:Int)<=2*k/\ ∀(l:Ah) (c:Nat),L=l.map A3->i=c->O=(pT (l.take k.toNat) c a).map A3|_,_=>False
def nN:=A5
def cH :Ar->Ar->Prop
 | [.lst L,.int i],[.int k,.lst O]=>0<=k/\k<=L.length/\(O.length:Int)<=k/\ ∀(l:Ah) (c:Nat),L=l.map A3->i=c->O=(I6 (l.take k.toNat) c).map A3|_,_=>False
def nP:=A5
def mT :Ar->Ar->Prop
 | [.lst L,.str n],[.int k]=>0<=k/\k<=L.length/\ ∀l:List Att,L=l.map Att.row-> ∀a∈l.take k.toNat,a.n≠n|_,_=>False
def Jo:=A5
def cE :Ar->Ar->Prop
 | [.lst L,.str n,.str v],[.int k,.lst O,.bool p]=>0<=k/\k<=L.length/\(O.length:Int)<=k+(if p=true then 1 else 0)/\ ∀l:List Att,L=l.map Att.row-> ∃o:List Att,O=o.map Att.row/\(if p=true then o++l.drop k.toNat else o++aP (l.drop k.toNat) ⟨n,v⟩)=aP l ⟨n,v⟩|_,_=>False
def nJ:=A5
def g8 :List G:=[.int .i64,.int .i64,.int .i64,.int .i64,.int .i64,.int .i64,.int .i64,.int .i64]
def ghDC (t:Nat):Fm->SS->List (So×E):=gh2 (A0 t 1) (gh2 (A0 t 2) (gh2 (A0 t 3) (gh2 (A0 t 4) (gh2 (A0 t 5) (gh2 (A0 t 6) (gh2 (A0 t 7) (gh2 (A0 t 8) (A0 t 9))))))))
def T7 :Ay->List (Nat×(Fm->SS->G5))
 |128=>[(0,G1 U0 "rat" (G9 [(5,.int .i64)] nob) (gh2 (A0 2 0) (gh2 (A0 3 0) (A0 3 1))) iY A5)]
 |29=>[(0,G1 U0 "rcp" (G9 [(4,.int .i64)] (I9 3 (.acc tRS 11:: .lst uJ::g8))) (gh2 (A0 1 0) (ghDC 1)) Ad A5)]
 |133=>[(0,G1 U0 "rpl" (G9 [(5,.int .i64)] nob) (gh2 (m8 0) (m8 1)) nM A5)]
 |134=>[(0,G1 U0 "rput" (G9 [(8,.int .i64),(7,.acc uJ 1)] nob) (gh2 (m8 0) (gh2 (m8 1) (m8 2))) cF A5)]
 |135=>[(0,G1 U0 "rwit" (G9 [(6,.int .i64),(5,.acc uJ 1)] nob) (gh2 (m8 0) (m8 1)) cH A5)]
 |129=>[(0,G1 U0 "fnd" (G9 [(5,.int .i64)] nob) (gh2 (m8 0) (m8 1)) mT A5)]
 |151=>[(0,G1 U0 "rins" (G9 [(7,.int .i64),(5,.acc Bf 2),(6,.bool)] nob) (gh2 (m8 0) (gh2 (A0 3 0) (A0 3 1))) cE A5)]
 |_=>[]
def jH :Nat->List (Ay×Con)
 |_=>[(LVn,cYes "lives")]
def Z8 :Nat->Aw->E8
 |_,_=>[]
end Go.D
