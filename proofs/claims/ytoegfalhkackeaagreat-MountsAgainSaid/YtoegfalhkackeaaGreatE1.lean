/- The DOM: an edit of a node's attributes: model and contract (edit).
  Conditions: none. -/
import Derived.Test.YtoegfalhkackeaaGreatD3
set_option maxRecDepth 100000
set_option linter.all false
noncomputable section
namespace Go.D
open Go Go.Xe Go.Sx
def fZ (D:DM)(i g:Int)(e:Ed)(w:Int):DM×Int:=match D.at i g with
 |none=>(D,11)
 |some c=>if(D.nod c).kind≠1 then(D,1)else if pP e=false then(D,w)else
  if(apF (D.nod c).atts e).2=0 then((D.setN c fun n=> {n with atts:=(apF n.atts e).1}).cnt 6,0)else(D,if(apF (D.nod c).atts e).2=11 then 17 else(apF (D.nod c).atts e).2)
def FF :Ar->Prop
 | [.int i,.int g,.str _,.bool _,.str _,.int w,.lst S,.int fr,.int lv,.int a,.int b,.int c,.int d,.int e,.int f,.int h,.int m,.lst _,.lst N]=>U32 i/\U32 g/\w≠0/\DO S N fr lv [a,b,c,d,e,f,h,m]|_=>False
def gT :Ar->Ar->Prop
 | [.int i,.int g,.str n,.bool z,.str v,.int w,.lst S,.int fr,.int lv,.int a,.int b,.int c,.int d,.int e,.int f,.int h,.int m,.lst _,.lst N],[.int r,.lst S',.int fr',.int lv',.int a',.int b',.int c',.int d',.int e',.int f',.int h',.int m',.lst _,.lst N']=>
  nP S N fr lv [a,b,c,d,e,f,h,m] S' N' fr' lv' [a',b',c',d',e',f',h',m'] fun D=>((fZ D i g ⟨n,z,v⟩ w).1,r=(fZ D i g ⟨n,z,v⟩ w).2)
 |_,_=>False
def cEdt:=mkD "edt" [hV,.agg [.g .str,.g .bool,.g .str],iV] FF [iV] gT
def Qm :Ay->List (Nat×(Fm->SS->J0)):=bD
def NZ :Nat->List (Ay×Con)
 |_=>[(146,cCed),(148,cApp),(LVn,cYes "lives")]
def Sh :Nat->Aw->G1:=cH
open Go Go.Xe Go.Sx
def vcEdt0 (a:Sx.Rows)(q r d f g h i j k l c m:Int)(o b:Sx.Rows)(s:Ae)(t:Bool)(u:Ae)(w:Int):Prop:=
 Nq (ln a)<|Cg H8 G2 (.int q::.int r::JE a d f g h i j k l c m o) fun R=>∀x,R [.int x]->Nb x (ln b) (Cg Ft gL [.lst (cL b x 2),.lst (d8 3 1 [.str s,.bool t,.str u])] fun R=>∀y p,R [.lst y,.int p]->((p=11->Nq (ln a) (Nd (gT (.int q::.int r::.str s::.bool t::.str u::.int w::JD a d f g h i j k l c m o b) (.int 17::JD a d f g h i j k l c m o b)) True))/\(¬p=11->((p=0->Nq (ln a) (Cg H8 G2 (.int q::.int r::JE a d f g h i j k l c m o) fun R=>∀v,R [.int v]->Nb v (ln b) (Nb v (ln b)<|Nd (I64 (c+1))<|Nq (ln a)<|Nd (gT (.int q::.int r::.str s::.bool t::.str u::.int w::JD a d f g h i j k l c m o b) (.int 0::JD a d f g h i j k l (c+1) m o (i6 b v 2 (.lst y)))) True)))/\(¬p=0->Nd (¬p=0) (Nq (ln a)<|Nd (gT (.int q::.int r::.str s::.bool t::.str u::.int w::JD a d f g h i j k l c m o b) (.int p::JD a d f g h i j k l c m o b)) True))))))
def vcEdt :Prop:=
 ∀q r s t u p a c d f g h i j k l m o b,FF (.int q::.int r::.str s::.bool t::.str u::.int p::JD a c d f g h i j k l m o b)->Nq (ln a) (Cg V9 M5 (.int q::.int r::JE a c d f g h i j k l m o) fun R=>∀w,R [.bool w]->((w=true->Nq (ln a) (Cg H8 G2 (.int q::.int r::JE a c d f g h i j k l m o) fun R=>∀v,R [.int v]->Nb v (ln b) ((cI b v 0=1->Cg AH gO [.lst (d8 3 1 [.str s,.bool t,.str u])] (fun R=>∀x,R [.int x]->((x=0->vcEdt0 a q r c d f g h i j k l m o b s t u p)/\(¬x=0->((p=0->vcEdt0 a q r c d f g h i j k l m o b s t u p)/\(¬p=0->Nd (¬p=0) (Nq (ln a)<|Nd (gT (.int q::.int r::.str s::.bool t::.str u::.int p::JD a c d f g h i j k l m o b) (.int p::JD a c d f g h i j k l m o b)) True)))))))/\(¬cI b v 0=1->Nq (ln a) (Nd (gT (.int q::.int r::.str s::.bool t::.str u::.int p::JD a c d f g h i j k l m o b) (.int 1::JD a c d f g h i j k l m o b)) True)))))/\(¬w=true->Nq (ln a) (Nd (gT (.int q::.int r::.str s::.bool t::.str u::.int p::JD a c d f g h i j k l m o b) (.int 11::JD a c d f g h i j k l m o b)) True))))
def vcEdt_eq :kq Go.Proofs.Tryz.prog cEdt Qm (NZ 0) (Sh 0) 89=vcEdt:=by kernel_rfl
section
variable {D :DM}{S N st:Sx.Rows}{fr lv i g w c0 c1 c2 c3 c4 c5 c6 c7:Int}{K:Nat}{e:Ed}
def vcEdt0_ok (hp:∃D K,RlC D S N fr lv [c0,c1,c2,c3,c4,c5,c6,c7]/\WF D K)(hv:K0 S i g=true)(hi:U32 i)(hg:U32 g)(hk:cI N (atF S i g) 0=1)(he:pP e=true):vcEdt0 S i g fr lv c0 c1 c2 c3 c4 c5 c6 c7 st N e.n e.d e.v w:=by
 have hp':=hp;obtain⟨D,K,⟨L,hc⟩,x⟩:=hp;have l:=L.slen x;have facts:∀ {D K},RlC D S N fr lv [c0,c1,c2,c3,c4,c5,c6,c7]->WF D K-> ∃c,D.at i g=some c/\0<=atF S i g/\atF S i g<N.length/\cL N (atF S i g) 2=(D.nod c).atts.map Att.row/\vAt (D.nod c).atts/\fZ D i g e w=if(apF (D.nod c).atts e).2=0 then((D.setN c fun n=> {n with atts:=(apF n.atts e).1}).cnt 6,0)else(D,if(apF (D.nod c).atts e).2=11 then 17 else(apF (D.nod c).atts e).2):=by
  intro D K J x;obtain⟨c,h⟩:=J.1.vld.1 hv;obtain⟨s,h1,h2,h3,h4,h5,I,H⟩:=J.1.node h;have kd:s.n.kind=1:=by rw[<-hk];unfold cI;rw[H];rfl
  refine⟨c,h,h5,I,?_,?_,?_⟩;rw[Vp h1];unfold cL;rw[H];rfl;rw[Vp h1];exact x.atts c s h1 h3;unfold fZ;rw[h];simp only;rw[TH (by rw[Vp h1];simp[kd]),TH (by simp[he])]
 obtain⟨c,T,y,A,B,P,U⟩:=facts ⟨L,hc⟩ x;unfold vcEdt0;refine aV ⟨hi,hg,l⟩ (P3 y A (ndi ⟨(D.nod c).atts,e,B,rfl,P,he⟩ fun O r p=>?_));have p:=p (D.nod c).atts e B rfl;have all:∀ {D' t},RlC D' S N fr lv [c0,c1,c2,c3,c4,c5,c6,c7]->WF D' t-> ∃c',D'.at i g=some c'/\O=(apF (D'.nod c').atts e).1.map Att.row/\r=(apF (D'.nod c').atts e).2/\(D'.nod c').atts=(D.nod c).atts/\fZ D' i g e w=if r=0 then((D'.setN c' fun n=> {n with atts:=(apF n.atts e).1}).cnt 6,0)else(D',if r=11 then 17 else r):=by intro D' t b f;obtain⟨c',m,C,E,u,o,Q⟩:=facts b f;have:(D'.nod c').atts=(D.nod c).atts:=bZ (u.symm.trans B);refine⟨c',m,by rw[this];exact p.1,by rw[this];exact p.2,this,?_⟩;rw[Q,this,<-p.2]
 refine⟨fun r1=>nin (nrn (ndt (N9 fun D' t b f=>?_))),fun r1=>⟨fun r0=>aV ⟨hi,hg,l⟩ (P3 y A (P3 y A (ndi (x.i64 (k:=6) (by rw[<-hc];rfl)) (nin (nrn (ndt ?_)))))),fun r0=>ndi r0 (nin (nrn (ndt (N9 fun D' t b f=>?_))))⟩⟩;obtain⟨c',m,C,E,u,o⟩:=all b f;show(fZ D' i g e w).1=D'/\_=(fZ D' i g e w).2;rw[o,TH (by omega),TJ r1];exact⟨rfl,rfl⟩
 ·have R:(apF (D.nod c).atts e).1.map Att.row=O:=p.1.symm;refine Se (q:=fun n=> {n with atts:=(apF (D.nod c).atts e).1}) (q':=fun r=> {r with a:=O}) (F:=fun r=>r.set 2 (.lst O)) (k:=6) hv (fun _=>rfl) (fun G n=>by unfold Nod.rn;rw[R]) rfl rfl (fun D' t c' b f h=>?_) hp';obtain⟨M,m,C,E,u,o⟩:=all b f;rw[h]at m;cases m;show(fZ D' i g e w).1=_/\_=(fZ D' i g e w).2;rw[o,TJ r0];refine⟨?_,rfl⟩;obtain⟨s,h1,h2,h3,h4,h5,I,H⟩:=b.1.node h;have hs:s.n.atts=(D.nod c).atts:=by rw[<-u,Vp h1]
  have:D'.setN c' (fun n=> {n with atts:=(apF n.atts e).1})=D'.setN c' fun n=> {n with atts:=(apF (D.nod c).atts e).1}:=by unfold DM.setN;congr 1;apply List.ext_getElem?;intro j;simp only[m9];by_cases z:c'=j;subst z;rw[TJ rfl,TJ rfl,h1];simp[hs];rw[TH z,TH z]
  rw[this]
 obtain⟨c',m,C,E,u,o⟩:=all b f;show(fZ D' i g e w).1=D'/\_=(fZ D' i g e w).2;rw[o,TH r0,TH r1];exact⟨rfl,rfl⟩
def vcEdt_ok :vcEdt:=by
 unfold vcEdt;intro i g n d v w S fr lv c0 c1 c2 c3 c4 c5 c6 c7 st N h;obtain⟨hi,hg,o,hp⟩:=h;have hp':=hp;obtain⟨D,K,⟨m,hc⟩,k⟩:=hp;have b:=m.slen k;refine kH ⟨hi,hg,b⟩ ⟨fun hv=>?_,fun hv=>nin (nrn (ndt (N9 fun D K f k=>?_)))⟩
 ·obtain⟨c,a⟩:=m.vld.1 hv;obtain⟨s,h1,h2,h3,h4,h5,l,j⟩:=m.node a;refine aV ⟨hi,hg,b⟩ (P3 h5 l ⟨fun hk=>ndi ⟨⟨n,d,v⟩,rfl⟩ fun r hr=>⟨fun r0=>vcEdt0_ok (e:=⟨n,d,v⟩) hp' hv hi hg hk ((hr ⟨n,d,v⟩ rfl).1 r0),fun r0=>⟨fun w0=>absurd w0 o,fun _=>ndi o (nin (nrn (ndt (N9 fun D K f k=>?_))))⟩⟩,fun hk=>nin (nrn (ndt (N9 fun D K f k=>?_)))⟩)
  ·obtain⟨c,a⟩:=f.1.vld.1 hv;obtain⟨s,h1,h2,h3,h4,h5,l,j⟩:=f.1.node a;have kd:s.n.kind=1:=by rw[<-hk];unfold cI;rw[j];rfl
   unfold fZ;rw[a];simp only;rw[TH (by rw[Vp h1];simp[kd]),TJ (by simpa using fun h=>r0 ((hr ⟨n,d,v⟩ rfl).2 h))];exact⟨rfl,rfl⟩
  ·obtain⟨c,a⟩:=f.1.vld.1 hv;obtain⟨s,h1,h2,h3,h4,h5,l,j⟩:=f.1.node a;have kd:s.n.kind≠1:=by intro h;apply hk;rw[<-h];unfold cI;rw[j];rfl
   unfold fZ;rw[a];simp only;rw[TJ (by rw[Vp h1];exact kd)];exact⟨rfl,rfl⟩
 unfold fZ;rw[f.1.none hv];exact⟨rfl,rfl⟩
end
def hdF :Sx.Rows->Int->Sx.Rows
 | [],_=>[]
 |r::S,k=>if(r.getD 1 (.int 0)).toBool then [.int k,r.getD 0 (.int 0)]::hdF S (k+1)else hdF S (k+1)
def waF (S:Sx.Rows):Nat->Int->Sx.Rows
 |0,_=>[]
 |f+1,i=>if 0<i then [.int (i-1),.int (cI S (i-1) 0)]::waF S f (cI S (i-1) 2)else []
def roB (S N:Sx.Rows)(r:Ar):Bool:=decide (cI N (atF S (r.getD 0 (.int 0)).toInt (r.getD 1 (.int 0)).toInt) 7=0)&&decide (cI N (atF S (r.getD 0 (.int 0)).toInt (r.getD 1 (.int 0)).toInt) 8=0)
def RK :Ar->Prop
 | .lst S:: .int _:: .int lv::_=>S.length<=1000/\lv=(hdF S 0).length/\ ∀r∈S,∃n:Int,r.getD 0 (.int 0)= .int n|_=>False
def RL :Ar->Ar->Prop
 | .lst S::_,[.lst O]=>O=hdF S 0|_,_=>False
def DU :Ar->Prop
 | [.lst S,.int fr,.int lv,.int _,.int _,.int _,.int _,.int _,.int _,.int _,.int _,.lst _,.lst N]=>∃D K,Rl D.gen D S N fr lv/\WF D K|_=>False
def pI :Ar->Prop
 | .int i:: .int g::d=>U32 i/\U32 g/\DU d|_=>False
def Q5 :Ar->Ar->Prop
 | [.int i,.int g,.lst S,.int fr,.int lv,.int _,.int _,.int _,.int _,.int _,.int _,.int _,.int _,.lst _,.lst N],[.int k,.str t,.lst a,.str x,.int tp,.int sz,.bool pn,.int pi,.int pg,.lst ch,.int r]=>
  if K0 S i g=true then k=cI N (atF S i g) 0/\t=cS N (atF S i g) 1/\a=cL N (atF S i g) 2/\x=cS N (atF S i g) 3/\tp=cI N (atF S i g) 4/\sz=cI N (atF S i g) 5/\pn=cB N (atF S i g) 6/\pi=cI N (atF S i g) 7/\pg=cI N (atF S i g) 8/\ch=cL N (atF S i g) 9/\r=0 else r=11
 |_,_=>False
def vwV :Vs:= .agg [.g (.int .u8),.g .str,.g (.clp EA),.g .str,.g (.int .i64),.g (.int .i64),.g .bool,.g (.int .u32),.g (.int .u32),.g (.clp tHd)]
def cHds:=mkR "hds" [dV] dmB dmF RK [.one (.g (.lst tHd))] RL
def cLok:=mkR "lok" [dV,hV] tC CV pI [vwV,iV] Q5
def RJ :Ar->Ar->Prop
 | [.lst S,.int lv],[.lst O,.int k]=>0<=k/\k<=S.length/\(O.length:Int)<=k/\O++hdF (S.drop k.toNat) k=hdF S 0|_,_=>False
def hdlMu :Ar->Ar->Nat
 | [.lst S,_],[_,.int k]=>(S.length-k).toNat|_,_=>0
def chL (S:Sx.Rows):Nat->Int->Nat
 |0,_=>0|f+1,i=>if 0<i then chL S f (cI S (i-1) 2)+1 else 0
def SQ :Ar->Ar->Prop
 | [.lst S,.int fr],[.lst O,.int i]=>0<=i/\i<=S.length/\O++waF S (1001-O.length) i=waF S 1001 fr/\O.length+chL S 1001 i<=1000/\(∃(T:List RS) (l:Ah),S=T.map RS.row/\Ch T i l/\l.Nodup)|_,_=>False
def walMu :Ar->Ar->Nat
 | [.lst S,_],[_,.int i]=>chL S 1001 i|_,_=>0
def Sz :Ar->Ar->Prop
 | [.lst S,.lst N,.lst H],[.lst O,.int k]=>0<=k/\k<=H.length/\(O.length:Int)<=k/\O++(H.drop k.toNat).filter (roB S N)=H.filter (roB S N)|_,_=>False
def rolMu :Ar->Ar->Nat
 | [_,_,.lst H],[_,.int k]=>(H.length-k).toNat|_,_=>0
def freT (t:Nat):Fm->SS->List (So×E):=fun f s=>match lk f t with
 |some (.ptr b _ _ _)=>match s.get b with
  |some (.cells (_::c::_) _ _)=>svG c|_=>[]
 |_=>[]
def livT (t:Nat):Fm->SS->List (So×E):=fun f s=>match lk f t with
 |some (.ptr b _ _ _)=>match s.get b with
  |some (.cells (_::_::c::_) _ _)=>svG c|_=>[]
 |_=>[]
def Qn :Ay->List (Nat×(Fm->SS->J0))
 |135=>[(0,L4 U0 "wal" (N7 [(3,.acc tHd 2),(4,.int .i64)] nob) (gh2 (vL 0) (freT 0)) SQ walMu)]
 |134=>[(0,L4 U0 "hdl" (N7 [(3,.acc tHd 2),(18,.int .i64)] nob) (gh2 (vL 0) (livT 0)) RJ hdlMu)]
 |83=>[(0,L4 U0 "rol" (N7 [(3,.acc tHd 2),(13,.int .i64)] nob) (gh2 (vL 0) (gh2 lN (y7 11))) Sz rolMu)]
 |_=>[]
def SH :Nat->List (Ay×Con)
 |_=>[(LVn,cYes "lives")]
def Si :Nat->Aw->G1
 |0,P=>cH 0 P|_,P=>(134,kro P U0 cHds)::cH 0 P
