/- Mounts: contracts (Clear, Clone; what Cost answers; the law MountsErrors).
  Conditions: none. -/
import Derived.Test.YtoegfalhkackeaaGreatN7
set_option linter.all false
noncomputable section
namespace Go.D
open Go Go.Xe Go.Sx
def drpL (D:DM)(l:List (Int×Int)):DM:=l.foldl (fun D h=>(fY D h.1 h.2).1) D
def clrF (D:DM)(i g:Int):DM×Int:=match D.at i g with
 |none=>(D,11)
 |some c=>if(D.nod c).kind≠1 then(D,1)else(drpL D ((D.nod c).ch.map fun(j:Nat)=>((j:Int),(D.gen j:Int))),0)
def Rq :Ar->Prop
 | [.int i,.int g,.lst S,.int fr,.int lv,.int a,.int b,.int c,.int d,.int e,.int f,.int h,.int m,.lst _,.lst N]=>U32 i/\U32 g/\ ∃D K,RlC D S N fr lv [a,b,c,d,e,f,h,m]/\WF D K/\ ∀q,D.at i g=some q->K+2*(D.nod q).ch.length<=1000|_=>False
def Rr :Ar->Ar->Prop
 | [.int i,.int g,.lst S,.int fr,.int lv,.int a,.int b,.int c,.int d,.int e,.int f,.int h,.int m,.lst _,.lst N],[.int r,.lst S',.int fr',.int lv',.int a',.int b',.int c',.int d',.int e',.int f',.int h',.int m',.lst _,.lst N']=>
  Fr S N S' N'/\ ∀D K,RlC D S N fr lv [a,b,c,d,e,f,h,m]->WF D K->(∀q,D.at i g=some q->K+2*(D.nod q).ch.length<=1000)->RlC (clrF D i g).1 S' N' fr' lv' [a',b',c',d',e',f',h',m']/\r=(clrF D i g).2
 |_,_=>False
def cClr:=mkD "clr" [hV] Rq [iV] Rr
def rowH (h:Int×Int):Ar:=[.int h.1,.int h.2]
def Rp :Ar->Ar->Prop
 | [.lst N,.lst S,.int fr,.int lv,.int c0,.int c1,.int c2,.int c3,.int c4,.int c5,.int c6,.int c7,.lst C],[.lst N',.int j,.lst S',.int fr',.int lv',.int c0',.int c1',.int c2',.int c3',.int c4',.int c5',.int c6',.int c7',.bool z,.lst _]=>
  z=false/\0<=j/\j<=C.length/\Fr S N S' N'/\ ∀(l:List (Int×Int)) D K,C=l.map rowH->RlC D S N fr lv [c0,c1,c2,c3,c4,c5,c6,c7]->WF D K->K+2*l.length<=1000->RlC (drpL D (l.take j.toNat)) S' N' fr' lv' [c0',c1',c2',c3',c4',c5',c6',c7']
 |_,_=>False
def clrMu :Ar->Ar->Nat
 | [_,_,_,_,_,_,_,_,_,_,_,_,.lst C],_:: .int j::_=>(C.length-j).toNat|_,_=>0
def domR (t:Nat):Fm->SS->Bb (List (Nat×List G)):=fun f s=>match lk f t with
 |some (.ptr e _ _ _)=>some [(e,QB)]|_=>none
def domH (t:Nat):Fm->SS->List (So×E):=fun f s=>match lk f t with
 |some (.ptr e _ _ _)=>match s.get e with
  |some (.cells (c::l) _ _)=>slG c s++(l.take 10).flatMap svG|_=>[]
 |_=>[]
def Fz :Ar->Prop
 | [.int i,.int g,.lst S,.int fr,.int lv,.int a,.int b,.int c,.int d,.int e,.int f,.int h,.int m,.lst _,.lst N]=>U32 i/\U32 g/\ ∃D K,RlC D S N fr lv [a,b,c,d,e,f,h,m]/\WF D K/\ ∀q,D.at i g=some q->w9 (J1 D 6 q)->K+G7 (J1 D 6 q)<=1000|_=>False
def AI :Ar->Ar->Prop
 | [.int i,.int g,.lst S,.int fr,.int lv,.int a,.int b,.int c,.int d,.int e,.int f,.int h,.int m,.lst _,.lst N],[.int i',.int g',.int r,.lst S',.int fr',.int lv',.int a',.int b',.int c',.int d',.int e',.int f',.int h',.int m',.lst _,.lst N']=>
  U32 i'/\U32 g'/\Fr S N S' N'/\ ∀D K,RlC D S N fr lv [a,b,c,d,e,f,h,m]->WF D K->(∀q,D.at i g=some q->w9 (J1 D 6 q)->K+G7 (J1 D 6 q)<=1000)->match D.at i g with
  |none=>RlC D S' N' fr' lv' [a',b',c',d',e',f',h',m']/\r=11|some q=>(w9 (J1 D 6 q)->RlC (M2 D (J1 D 6 q)).1 S' N' fr' lv' [a',b',c',d',e',f',h',m']/\(i',g')=(M2 D (J1 D 6 q)).2/\r=0)/\(¬w9 (J1 D 6 q)->RlC D S' N' fr' lv' [a',b',c',d',e',f',h',m']/\r=14)
 |_,_=>False
def cCln:=mkD "cln" [hV] Fz [hV,iV] AI
mutual
def Jo :a9->Nat
 | .mk _ _ _ a _ c=>a.length+attNs c
def attNs :List a9->Nat
 | []=>0|s::l=>Jo s+attNs l
end
def Ru:=zP
def Rv :Ar->Ar->Prop
 | [.int k,.str t,.str y,.lst a,.str x,.lst c],[.int c0,.int c1,.int c2,.int c3,.int c4,.int c5,.int c6,.int c7,.int r]=>∀s:a9,isT s k t y a x c->(w9 s->[c0,c1,c2,c3,c4,c5,c6,c7]=[(s.size:Int),s.size,0,s.size-1,0,0,Jo s,0]/\r=0)/\(¬w9 s->[c0,c1,c2,c3,c4,c5,c6,c7]=[0,0,0,0,0,0,0,0]/\r=14)|_,_=>False
def c8V :Vs:= .agg [.g (.int .i64),.g (.int .i64),.g (.int .i64),.g (.int .i64),.g (.int .i64),.g (.int .i64),.g (.int .i64),.g (.int .i64)]
def cCos:=mkR "cos" [nV] [] noF Ru [c8V,iV] Rv
def My :Ar->Ar->Prop
 |_,.bool r::_=>r=true|_,_=>False
def isP :As->Bool
 | .ptr _ _ _ _::_=>true|_=>false
def KJ (p:As->Bool)(k1 k2:As->M SV):As->M SV:=fun l=>bif p l then k1 l else k2 l
def JU (g:Ay)(P:Aw):As->M SV:=sxF P U0 (fun _=>[]) (lB P U0 [(LVn,cYes "lives")] []) 400 g
def Lu :Ay->List (Nat×(Fm->SS->J0))
 |24=>[(1,L4 U0 "clr" (mkPr rgR [(26,.int .i64)] (domR 0)) (gh2 (gh2 lN (domH 0)) (y7 24)) Rp clrMu)]
 |_=>[]
def IT :Nat->List (Ay×Con)
 |0=>[(14,cDrp),(LVn,cYes "lives")]
 |1=>[(10,cMnt),(LVn,cYes "lives")]
 |_=>[(21,cWgh),(22,cRchk),(8,cNwd),(61,cCre),(LVn,cYes "lives")]
def In :Nat->Aw->G1
 |0,P=>[(50,kro P U0 cLok)]
 |1,P=>[(12,kro P U0 cTee)]
 | _, P => [(23, kro P U0 cCos),
   (10,KJ isP (FP P U0 cMnt) (JU 10 P)),
   (13,KJ isP (kro P U0 cHan) (JU 13 P)),
   (19,KJ isP (kro P U0 cIs) (JU 19 P)),
   (11,KJ isP (FP P U0 cCln) (JU 11 P)),
   (14,KJ isP (FP P U0 cDrp) (JU 14 P)),
   (24,KJ isP (FP P U0 cClr) (JU 24 P))]
def AJ:=zP
def oZ :Ar->Ar->Prop
 | [.int k,.str t,.str y,.lst a,.str x,.lst c],[.int n]=>∀s:a9,isT s k t y a x c->(w9 s->n=s.size)/\(¬w9 s->n=0)|_,_=>False
def cCnt:=mkC "cnt" [nV] AJ [iV] oZ
def Ls:=cW
def IS :Nat->List (Ay×Con)
 |_=>cO 3
def Px :Nat->Aw->G1:=fun _ _=>[]
def u8 (n:Int):Prop:=0<=n/\n<256
def bytes (L:Sx.Rows):Prop:=∃l:Ak,L=l.map (fun n=>[Dat.int n])/\ ∀n∈l,u8 n
def vU :Ar->Prop
 | [.int n]=>u8 n|_=>False
def vV :Ar->Ar->Prop
 | [.int n],[.str s]=>v5 s=true|_,_=>False
def cTgx:=mkC "tgx" [uV] vU [sV] vV
def mQ (a:List Att):Prop:=a.length<=3/\(∀x∈a,v5 x.n=true/\E8 x.v=true)/\Asc (a.map Att.n)
def AE:=vU
def aI :Ar->Ar->Prop
 | [.int n],[.lst L]=>∃a:List Att,L=a.map Att.row/\mQ a|_,_=>False
def cAts:=mkC "ats" [uV] AE [.one (.g (.lst 101))] aI
def CB (l:List a9)(lv n:Int):Prop:=l.length<=16/\AllAs l/\fV (l.map a9.y)/\lv+a9.depths l<=6/\a9.sizes l<=n
def kY :Ar->Prop
 | [.lst C,.int i,.int lv]=>bytes C/\0<=i/\i<=19/\2<=lv/\lv<=5|_=>False
def mV :Ar->Nat
 | [_,_,.int lv]=>(6-lv).toNat|_=>0
def Y3 :Ar->Ar->Prop
 | [.lst C,.int i,.int lv],[.lst L,.int i']=>i<=i'/\i'<=19/\ ∃l,L=rows l/\CB l lv (i'-i)|_,_=>False
def cBld:=mkC "bld" [.one (.g (.lst 5)),iV,iV] kY [cV,iV] Y3
def Cc :Ar->Prop
 | [.int t,.int y,.lst C]=>u8 t/\u8 y/\bytes C|_=>False
def qB :Ar->Ar->Prop
 |_,[.int k,.str t,.str y,.lst a,.str x,.lst c]=>∃s,isT s k t y a x c/\w9 s/\s.size<=20|_,_=>False
def cTrw:=mkC "trw" [.agg [.g (.int .u8),.g (.int .u8),.g (.lst 5)]] Cc [nV] qB
def aJ :Ar->Ar->Prop
 | [.lst C,.int i0,.int lv],[.int i,.lst L]=>bytes C/\0<=i0/\i0<=i/\i<=19/\2<=lv/\lv<=5/\ ∃l,L=rows l/\CB l lv (i-i0)|_,_=>False
def cY :Ar->Ar->Nat
 |_,.int i::_=>(19-i).toNat|_,_=>0
def pF :Ar->Ar->Prop
 | [.lst L,.str t0,.str y0,.lst a0],[.int i,.int k,.str t,.str y,.lst a,.str x,.lst c]=>0<=i/\i<=L.length/\k=1/\t=t0/\a=a0/\x=[]/\c=[]/\(y=[]\/y=y0/\ ∀z∈(nH L).take i.toNat,z≠y0)|_,_=>False
def tT:=J9
def gJ :Ay->List (Nat×(Fm->SS->J0))
 | 41 => [(0, L4 U0 "bl" (N7 [(1, .int .i64), (8, .acc 30 6)] nob) (gh2 (y7 0) (gh2 (y7 1) (y7 2))) aJ cY),
   (2,L4 U0 "key" (N7 [(11,.int .i64)] (L2 10 [.int .u8,.str,.str,.lst 101,.str,.lst 30])) (gh2 (y7 8) (gh2 (C5 10 1) (gh2 (C5 10 2) (C5 10 3)))) pF J9)]
 |_=>[]
def jJ :Nat->List (Ay×Con)
 |0=>[(LVn,cYes "lives")]
 |1=>[(39,cTgx),(40,cAts),(LVn,cYes "lives")]
 |_=>[(41,cBld),(39,cTgx),(40,cAts),(LVn,cYes "lives")]
def sE (_:Nat)(P:Aw):G1:=[]
def pV :Ar->Prop
 | [.int k,.str t,.str y,.lst a,.str x,.lst c]=>∃s:a9,isT s k t y a x c/\w9 s|_=>False
def lR :Ar->Ar->Prop
 | [.int k,.str t,.str y,.lst a,.str x,.lst c],[.int k',.str t',.str y',.lst a',.str x',.lst c']=>∀s:a9,isT s k t y a x c->isT (strip false s) k' t' y' a' x' c'|_,_=>False
def Eg :Ar->Nat
 |_::_::_::_::_:: .lst c::_=>szRs c|_=>0
def cRsp:=mkC "rsp" [nV] pV [nV] lR
def Bu :Ar->Ar->Prop
 | [.int k0,.str t0,.str x0,.lst A],[.int i,.int k,.str t,.str y,.lst a,.str x,.lst c]=>0<=i/\i<=A.length/\k=k0/\t=t0/\y=[]/\a=A.take i.toNat/\x=x0/\c=[]
 |_,_=>False
def Ir :Ar->Ar->Nat
 | [_,_,_,.lst A],.int i::_=>(A.length-i).toNat|_,_=>0
def Bv :Ar->Ar->Prop
 | [.int k0,.str t0,.str x0,.lst A,.lst C],[.int i,.int k,.str t,.str y,.lst a,.str x,.lst c]=>0<=i/\i<=C.length/\k=k0/\t=t0/\y=[]/\a=A/\x=x0/\ ∀l:List a9,C=rows l->c=rows (strips false (l.take i.toNat))|_,_=>False
def Is :Ar->Ar->Nat
 | [_,_,_,_,.lst C],.int i::_=>(C.length-i).toNat|_,_=>0
def Lx :Ay->List (Nat×(Fm->SS->J0))
 | 16 => [(0, L4 U0 "raa" (N7 [(4, .int .i64)] (L2 3 [.int .u8, .str, .str, .acc 101 2, .str, .acc 30 6])) (gh2 (C5 1 0) (gh2 (C5 1 1) (gh2 (C5 1 4) (C5 1 3)))) Bu Ir),
   (2,L4 U0 "rab" (N7 [(5,.int .i64)] (L2 3 [.int .u8,.str,.str,.lst 101,.str,.acc 30 6])) (gh2 (C5 1 0) (gh2 (C5 1 1) (gh2 (C5 1 4) (gh2 (C5 1 3) (C5 1 5))))) Bv Is)]
 |_=>[]
def IW :Nat->List (Ay×Con)
 |_=>[(22,cRchk),(LVn,cYes "lives")]
def Pz (_:Nat)(P:Aw):G1:=[]
def xV :Vs:= .agg [.g (.int .u8),.g (.int .u8),.g (.lst 5)]
def Mx :Ar->Prop
 | [.int t,.int y,.lst C,.int t',.int y',.lst C',.lst N]=>N=[]/\(u8 t/\u8 y/\bytes C)/\u8 t'/\u8 y'/\bytes C'|_=>False
abbrev P1:=My
def cMag :Con:=⟨ "mag",[xV,xV],[(tNd,10,[.g (.rgl 10)])],rgF,Mx,[bV],[(tNd,10,[.g (.rgl 10)])],noB,P1⟩
def uE :Ar->Ar->Prop
 | [.lst L,.lst M],[.int z]=>0<=z/\z<=L.length/\L.length=M.length/\ ∀q:Int,0<=q->q<L.length->cI M q 0=cI L (L.length-1-q) 0/\cI M q 1=2|_,_=>False
def HW:=J9
def Lv :Ay->List (Nat×(Fm->SS->J0))
 |3=>[(0,L4 U0 "mgl" (N7 [(20,.int .i64)] nob) (gh2 (y7 15) (y7 18)) uE HW)]
 |_=>[]
def IU :Nat->List (Ay×Con)
 |_=>[(9,cTrw),(8,cNwd),(10,cMnt),(11,cCln),(14,cDrp),(15,cSam),(16,cRsp),(18,cCnt),(LVn,cYes "lives")]
def Io :Nat->Aw->G1
 |_,P=>[(12,kro P U0 cTee),(13,kro P U0 cHa2),(19,kro P U0 cIs)]
