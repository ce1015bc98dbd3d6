/- Keep's contract stands.
  Conditions: none. -/
import Derived.Test.YtcjhhnoaoldcmaaML
import Derived.Test.YtcjhhnoaoldcmaaN7
import Derived.Test.YtcjhhnoaoldcmaaC5
set_option linter.unusedVariables false
set_option linter.unusedSimpArgs false
set_option maxRecDepth 10000
noncomputable section
namespace Go.D
open Go Go.Xe Go.Sx
open Go.C36 (row)
def keePre:=dckPre
def keeRel :List Dat->List Dat->Prop
 | [.int k,.str t,.str y,.lst a,.str x,.lst c,.int k',.str t',.str y',.lst a',.str x',.lst c'],[.int k2,.str t2,.str y2,.lst a2,.str x2,.lst c2,.int e]=>e=0/\ ∃s s' r:Tree,isT s k t y a x c/\isT s' k' t' y' a' x' c'/\KeepR s s' r/\isT r k2 t2 y2 a2 x2 c2
 |_,_=>False
def cKee:=mkC "kee" [nV,nV] keePre [nV,iV] keeRel
theorem len12 {α:Type}{l:List α}(h:l.length=12):∃a b c d e f g i j k m n,l=[a,b,c,d,e,f,g,i,j,k,m,n]:=by
 match l,h with
 | [a,b,c,d,e,f,g,i,j,k,m,n],_=>exact⟨a,b,c,d,e,f,g,i,j,k,m,n,rfl⟩
theorem node_ofE {τ : Tau} {F : FB} {t : Tree} {v : Value} {a0 a1 a2 a3 a4 a5 : E} (ht : isT t (a0.toI U0) (a1.den U0).toStr (a2.den U0).toStr (a3.toR U0) (a4.den U0).toStr (a5.toR U0)) (h : VD PR U0 τ F (.agg [.int .u8 a0, .str a1, .str a2, .lst tAt a3 false, .str a4, .lst tN a5 false]) v) :
  ∃b:List Value,v= .agg b.toArray/\b.length=6/\RN F t (fun q=>b[q]?):=by
 obtain⟨e0,c,d,e,f,g⟩:=ht
 cases h with
 |agg l xs h1 h2=>
 obtain⟨x0,r,u,o,w,p,rfl⟩:=len6 (show xs.length=6 from h1.symm)
 have w0:=h2 0 _ _ rfl rfl
 have i:=h2 1 _ _ rfl rfl
 have j:=h2 2 _ _ rfl rfl
 have k:=h2 3 _ _ rfl rfl
 have m:=h2 4 _ _ rfl rfl
 have n:=h2 5 _ _ rfl rfl
 refine⟨_,rfl,rfl,⟨?_,?_,?_,⟨o,rfl,?_⟩,?_⟩,p,rfl,?_⟩
 ·cases w0;rw[<-e0];rfl
 ·cases i;rw[<-c];rfl
 ·cases j;rw[<-d];rfl
 ·cases k with
  |lst _ _ _ _ a _=>rw[<-e];exact a
 ·cases m;rw[<-f];rfl
 ·cases n with
  |lst _ _ _ _ a _=>rw[<-g];exact a
section
variable {τ :Tau}{F:FB}{s:SS}{bl:List Nat}
theorem lok_int {k:IntKind}{e:E}:LOK PR U0 bl τ F s (.g (.int k)) (.int k e) (some e,none):=by
 refine⟨fun so h=>⟨e,rfl⟩,fun h=>(by cases h),fun _=>rfl,fun u a τ2 num nb d _ hd _=>?_,fun h=>absurd rfl h⟩
 have h:e.toI U0=d.toI U0:=hd e .i rfl rfl
 cases a
 rw[h]
 exact .int _ _
theorem lok_str {e:E}:LOK PR U0 bl τ F s (.g .str) (.str e) (some e,none):=by
 refine⟨fun so h=>⟨e,rfl⟩,fun h=>(by cases h),fun _=>rfl,fun u a τ2 num nb d _ hd _=>?_,fun h=>absurd rfl h⟩
 have h:(e.den U0).toStr=(d.den U0).toStr:=hd e .s rfl rfl
 cases a
 rw[h]
 exact .str _
theorem lok_lst {t:TypeId}{e:E}:LOK PR U0 bl τ F s (.g (.lst t)) (.lst t e false) (some e,none):=by
 refine⟨fun so h=>⟨e,rfl⟩,fun h=>(by cases h),fun _=>rfl,fun u b τ2 num nb d _ hd _=>?_,fun h=>absurd rfl h⟩
 have h:e.toR U0=d.toR U0:=hd e .l rfl rfl
 cases b with
 |lst _ _ _ _ a _=>exact .lst _ _ _ _ (by rw[<-h];exact a) (fun h=>by cases h)
end
theorem len7 {α:Type}{l:List α}(h:l.length=7):∃a b c d e f g,l=[a,b,c,d,e,f,g]:=by
 match l,h with
 | [a,b,c,d,e,f,g],_=>exact⟨a,b,c,d,e,f,g,rfl⟩
variable {ov :FuncId->Option TypeId}
theorem g_keeO ( f : Go.Xe.isT (ov qF) = false) (hd : d6 PR U0 ov cDck 24) (hc : d6 PR U0 ov cChk 34) (hy : d6 PR U0 ov cCpy 26) (hf : d6 PR U0 ov cFt 12) ( U : ∀ t, Valid t → CyAt ov t) ( V : ∀ t o, Valid t → Valid o → KeepAt ov t o) : d6 PR U0 ov cKee qF := by
 intro es n e τ F hp xs hs hx
 obtain⟨a0,a1,a2,a3,a4,a5,b0,E,G,H,I,J,rfl⟩:=len12 (show es.length=12 from n)
 have e:dckPre [.int (a0.toI U0),.str (a1.den U0).toStr,.str (a2.den U0).toStr,.lst (a3.toR U0),.str (a4.den U0).toStr,.lst (a5.toR U0),.int (b0.toI U0),.str (E.den U0).toStr,.str (G.den U0).toStr,.lst (H.toR U0),.str (I.den U0).toStr,.lst (J.toR U0)]:=e
 obtain⟨⟨s,hs1,K⟩,s',j,l⟩:=e
 have hs:SD PR U0 τ F ⟨[],0,[],12,[]⟩ hp:=hs
 have m:∀b,τ b=none:=fun b=>hs.new b (bI9 _)
 have hF:FH F hp:=fun q b h=>⟨hs.frz q b h,hs.flt q b h⟩
 obtain⟨v0,aa,rfl,w0,hx⟩:=VDL.uncons hx
 obtain⟨v1,D,rfl,Z,hx⟩:=VDL.uncons hx
 have B:D=[]:=bA7 hx.1.symm
 subst B
 obtain⟨vs,rfl,T,W⟩:=node_ofE (a0:= .dat 0 (.int (a0.toI U0))) (a1:= .dat 1 (.str (a1.den U0).toStr)) (a2:= .dat 2 (.str (a2.den U0).toStr)) (a3:= .dat 3 (.lst (a3.toR U0))) (a4:= .dat 4 (.str (a4.den U0).toStr)) (a5:= .dat 5 (.lst (a5.toR U0))) hs1 w0
 obtain⟨us,rfl,w,z⟩:=node_ofE (a0:= .dat 6 (.int (b0.toI U0))) (a1:= .dat 7 (.str (E.den U0).toStr)) (a2:= .dat 8 (.str (G.den U0).toStr)) (a3:= .dat 9 (.lst (H.toR U0))) (a4:= .dat 10 (.str (I.den U0).toStr)) (a5:= .dat 11 (.lst (J.toR U0))) j Z
 obtain⟨hp',ws,F',r,X,c,w6,A,Y⟩:=keepF_ok f hd hc hy hf K l (U s' l) (V s' s l K) T w W z hF
 obtain⟨x0,x1,x2,x3,x4,x5,rfl⟩:=len6 w6
 have C:=Y
 obtain⟨⟨h0,h1,h2,⟨va,h3,u⟩,h4⟩,vc,h5,v⟩:=C
 cases h0;cases h1;cases h2;cases h3;cases h4;cases h5
 unfold RX
 refine⟨_,τ,F',⟨[(0,none)],1,[],12,[]⟩,hp',[.int .u8 (.dat 0 (.int r.k)),.str (.dat 1 (.str r.t)),.str (.dat 2 (.str r.y)),.lst tAt (.dat 3 (.lst (r.a.map Att.row))) false,.str (.dat 4 (.str r.x)),.lst tN (.dat 5 (.lst (rows r.c))) false,.int .i64 (.dat 6 (.int 0))],[.int .u8 r.k,.string ⟨r.t.toArray⟩,.string ⟨r.y.toArray⟩,x3,.string ⟨r.x.toArray⟩,x5,.int .i64 0],[],[.dat 0 (.int r.k),.dat 1 (.str r.t),.dat 2 (.str r.y),.dat 3 (.lst (r.a.map Att.row)),.dat 4 (.str r.x),.dat 5 (.lst (rows r.c)),.dat 6 (.int 0)],[],[],X,?_,?_,?_,?_,?_,rfl,?_,fun b h=>?_,rfl,fun b h=>?_,fun b h=>?_,rfl,rfl,?_⟩
 ·have g:∀b x,(⟨[],0,[],12,[]⟩:SS).get b=some x->False:=fun b x h=>by simp[SS.get,lk]at h
  exact⟨fun b p h=>h,c.fle,c.kp.nx,bI9 _,fun b h=>absurd h (Nat.not_lt_zero _),fun b x h hb=>absurd hb (Nat.not_lt_zero _),⟨[(0,none)],rfl,fun i hi _=>c.same i hi,fun b i o _ h=>(by rw[m]at h;cases h),fun i y hi h=>.inl ((c.fz i y h).elim id fun h=>by omega),fun h=>absurd rfl (h (0,none) (by simp))⟩,⟨[],rfl⟩,⟨[(0,none)],rfl,fun b _ _ _ _ _ _ _ h=>(g b _ h).elim⟩⟩
 ·have   g : ∀ b x, (⟨[(0, none)], 1, [], 12, []⟩ : SS).get b = some x → False := fun b x h => by
   unfold SS.get at h
   simp only[lk]at h
   split at h
   ·rename_i y hy
    cases hb:Nat.beq 0 b with
    |true=>rw[hb,bB8]at hy;cases hy;cases h
    |false=>rw[hb,bB9]at hy;cases hy
   ·cases h
  exact⟨fun b x h=>(g b x h).elim,fun b _ x _ _ _ _ _ h=>(g b x h).elim,fun q b h=>(c.fh q b h).1,fun b i o h=>(by rw[m]at h;cases h),fun q b h=>(c.fh q b h).2,fun b _=>m b,fun c t h=>by simp at h,fun r h=>by simp at h⟩
 ·rw[bI5]
  exact .cons (.int _ _) (.cons (.str _) (.cons (.str _) (.cons (.lst _ _ _ _ u (fun h=>by cases h)) (.cons (.str _) (.cons (.lst _ _ _ _ v (fun h=>by cases h)) (.cons (.int _ _) VDL.nil))))))
 ·rfl
 ·intro τ2 F2 S rest f
  obtain⟨L,M,N,O,P,Q,R,rfl⟩:=len7 (show S.length=7 from f.1)
  refine .tup [.agg [L,M,N,O,P,Q],R] [_,_] rfl fun i a x d hx=>?_
  match i,d,hx with
  |0,d,hx=>
   cases d;cases hx
   refine .agg _ _ rfl fun i a x d hx=>?_
   match i,d,hx with
   |0,d,hx=>exact f.2 0 a x d hx
   |1,d,hx=>exact f.2 1 a x d hx
   |2,d,hx=>exact f.2 2 a x d hx
   |3,d,hx=>exact f.2 3 a x d hx
   |4,d,hx=>exact f.2 4 a x d hx
   |5,d,hx=>exact f.2 5 a x d hx
   |i+6,d,hx=>simp at hx
  |1,d,hx=>exact f.2 6 a x d hx
  |i+2,d,hx=>simp at hx
 ·exact⟨_,_,[],rfl,rfl,lok_int,_,_,[],rfl,rfl,lok_str,_,_,[],rfl,rfl,lok_str,_,_,[],rfl,rfl,lok_lst,_,_,[],rfl,rfl,lok_str,_,_,[],rfl,rfl,lok_lst,_,_,[],rfl,rfl,lok_int,rfl,rfl⟩
 ·exact absurd h (by show b∉([]:List Nat);simp)
 ·simp at h
 ·simp at h
 ·exact⟨rfl,s,s',r,hs1,j,A,rfl,rfl,rfl,rfl,rfl,rfl⟩
end Go.D
noncomputable section
namespace Go.D
open Go Go.Xe Go.Sx
open Go.C36 (row j8 lis)
def plcPre :List Dat->Prop
 | [.lst M,.int n]=>ln M<=1000
 |_=>False
def plcRel :List Dat->List Dat->Prop
 | [.lst M,.int n],[.int r]=>∀m:List Int,M=m.map row->(r=ln M↔n∉m)
 |_,_=>False
def cPlc:=mkC "plc" [.one (.g (.lst 3)),iV] plcPre [iV] plcRel
def rktPre:=dckPre
def rktRel :List Dat->List Dat->Prop
 | [.int k,.str t,.str y,.lst a,.str x,.lst c,.int k',.str t',.str y',.lst a',.str x',.lst c'],[.int k2,.str t2,.str y2,.lst a2,.str x2,.lst c2]=>∀s s':Tree,isT s k t y a x c->isT s' k' t' y' a' x' c'->isT (keepT s' s) k2 t2 y2 a2 x2 c2
 |_,_=>False
def rktMu :List Dat->Nat
 | [_,_,_,_,_,_,_,_,_,_,_,.lst c]=>szRs c
 |_=>0
def cRkt:=mkC "rkt" [nV,nV] rktPre [nV] rktRel
def rkePre:=dckPre
def rkeRel :List Dat->List Dat->Prop
 | [.int k,.str t,.str y,.lst a,.str x,.lst c,.int k',.str t',.str y',.lst a',.str x',.lst c'],[.int k2,.str t2,.str y2,.lst a2,.str x2,.lst c2]=>∀s s':Tree,isT s k t y a x c->isT s' k' t' y' a' x' c'-> ∃r,KeepR s s' r/\isT r k2 t2 y2 a2 x2 c2
 |_,_=>False
def cRke:=mkC "rke" [nV,nV] rkePre [nV] rkeRel
def dkpPre :List Dat->Prop
 | [.int t,.int y,.lst C,.int t',.int y',.lst C']=>u8 t/\u8 y/\bytes C/\u8 t'/\u8 y'/\bytes C'
 |_=>False
def dkpRel :List Dat->List Dat->Prop
 |_,[.bool b]=>b=true
 |_,_=>False
def cDkp:=mkC "dkp" [.agg [.g (.int .u8),.g (.int .u8),.g (.lst 5)],.agg [.g (.int .u8),.g (.int .u8),.g (.lst 5)]] dkpPre [bV] dkpRel
def rpInv :List Dat->List Dat->Prop
 | [.lst C,.lst D,.int k0,.str t0,.str y0,.lst a0,.str x0],[.int i,.int k,.str t,.str y,.lst a,.str x,.lst O]=>0<=i/\i<=ln D/\k=k0/\t=t0/\y=y0/\a=a0/\x=x0/\ ∀o n:List Tree,C=rows o->D=rows n->O=rows ((keepL n o (mtch o n)).take i.toNat)
 |_,_=>False
def rpMu :List Dat->List Dat->Nat
 |_:: .lst D::_,.int i::_=>(D.length-i).toNat
 |_,_=>0
def rqInv :List Dat->List Dat->Prop
 | [.lst C,.lst M,.int k0,.str t0,.str y0,.lst a0,.str x0,.lst O0],[.int i,.int k,.str t,.str y,.lst a,.str x,.lst O]=>0<=i/\i<=ln C/\k=k0/\t=t0/\y=y0/\a=a0/\x=x0/\ ∀(o:List Tree) (m:List Int),C=rows o->M=m.map row->O=O0++rows (leftF o m i.toNat)
 |_,_=>False
def rqMu :List Dat->List Dat->Nat
 | .lst C::_,.int i::_=>(C.length-i).toNat
 |_,_=>0
def lwInv :List Dat->List Dat->Prop
 | [.lst D],[.int i]=>0<=i/\i<=ln D
 |_,_=>False
def lwMu:=slMu
def tr6 :List G:=[.int .u8,.str,.str,.lst 82,.str,.acc 28 6]
def gh5 (t:Nat)(r:Fm->SS->List (So×E)):Fm->SS->List (So×E):=gh2 (ghCell t 0) (gh2 (ghCell t 1) (gh2 (ghCell t 2) (gh2 (ghCell t 3) (gh2 (ghCell t 4) r))))
def ghNo :Fm->SS->List (So×E):=fun _ _=>[]
def annsO : FuncId → List (Nat × (Fm → SS → L3))
 |56=>[(0,E5 U0 "ixn" (E7 [(5,.int .i64)] nob) (gh2 (ghostT 0) (ghostT 1)) ixnInv ixnMu)]
 | 37 => [(0, E5 U0 "rp" (E7 [(7, .int .i64), (8, .any)] (B7 6 tr6)) (gh2 (ghCell 2 5) (gh2 (ghCell 3 5) (gh5 6 ghNo))) rpInv rpMu),
   (2,E5 U0 "rq" (E7 [(9,.int .i64)] (B7 6 tr6)) (gh2 (ghCell 2 5) (gh2 (ghostT 5) (gh5 6 (ghSl 6 5)))) rqInv rqMu)]
 |4=>[(0,E5 U0 "lw" (E7 [(9,.int .i64)] nob) (ghCell 6 5) lwInv lwMu)]
 |_=>[]
def stageO :Nat->List (FuncId×Con)
 |0=>[(LVn,J4 "lives")]
 |1=>[(9,cRmat),(56,cPlc),(LVn,J4 "lives")]
 |2=>[(37,cRkt),(35,cRchk),(LVn,J4 "lives")]
 |_=>[(6,cTree),(14,cKee),(16,cRke),(15,cSam),(LVn,J4 "lives")]
def primsO (P:Program):R9:=[]
end Go.D
