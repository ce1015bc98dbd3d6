/- Contracts of functions of nodes, in the executor.
  Conditions: none. -/
import Derived.Test.YtcjhhnoaoldcmaaMH
set_option linter.unusedVariables false
set_option linter.unusedSimpArgs false
set_option maxRecDepth 10000
noncomputable section
namespace Go.D
open Go Go.Xe Go.Sx
open Go.C36 (row)
variable {ov :FuncId->Option TypeId}
def ndE (t:Tree)(k:Nat):List E:=[.dat k (.int t.k),.dat (k+1) (.str t.t),.dat (k+2) (.str t.y),.dat (k+3) (.lst (t.a.map Att.row)),.dat (k+4) (.str t.x),.dat (k+5) (.lst (rows t.c))]
def ndV (t:Tree)(k:Nat):SV:= .agg [.int .u8 (.dat k (.int t.k)),.str (.dat (k+1) (.str t.t)),.str (.dat (k+2) (.str t.y)),.lst tAt (.dat (k+3) (.lst (t.a.map Att.row))) false,.str (.dat (k+4) (.str t.x)),.lst tN (.dat (k+5) (.lst (rows t.c))) false]
def ndD (t:Tree):List Dat:=[.int t.k,.str t.t,.str t.y,.lst (t.a.map Att.row),.str t.x,.lst (rows t.c)]
theorem vd_node {τ:Tau}{F:FB}{t:Tree}{vs:List Value}(k:Nat)(m:vs.length=6)(h:RN F t (fun q=>vs[q]?)):VD PR U0 τ F (ndV t k) (.agg vs.toArray):=by
 obtain⟨a,b,c,d,e,f,rfl⟩:=len6 m
 obtain⟨⟨h0,h1,h2,⟨n,h3,j⟩,h4⟩,vc,h5,l⟩:=h
 cases h0;cases h1;cases h2;cases h3;cases h4;cases h5
 refine .agg _ _ rfl fun i a x g hx=>?_
 match i,g,hx with
 |0,g,hx=>cases g;cases hx;exact .int _ _
 |1,g,hx=>cases g;cases hx;exact .str _
 |2,g,hx=>cases g;cases hx;exact .str _
 |3,g,hx=>cases g;cases hx;exact .lst _ _ _ _ j (fun h=>by cases h)
 |4,g,hx=>cases g;cases hx;exact .str _
 |5,g,hx=>cases g;cases hx;exact .lst _ _ _ _ l (fun h=>by cases h)
 |i+6,g,hx=>simp at hx
theorem node_of {τ : Tau} {F : FB} {t : Tree} {v : Value} {k : Int} {b c e : Str} {L C : Sx.Rows} (ht : isT t k b c L e C) (h : VD PR U0 τ F (.agg [.int .u8 (.dat 0 (.int k)), .str (.dat 1 (.str b)), .str (.dat 2 (.str c)), .lst tAt (.dat 3 (.lst L)) false, .str (.dat 4 (.str e)), .lst tN (.dat 5 (.lst C)) false]) v) :
  ∃d:List Value,v= .agg d.toArray/\d.length=6/\RN F t (fun q=>d[q]?):=by
 obtain⟨rfl,rfl,rfl,rfl,rfl,rfl⟩:=ht
 cases h with
 |agg l xs h1 h2=>
 obtain⟨x0,r,s,n,u,p,rfl⟩:=len6 (show xs.length=6 from h1.symm)
 have w0:=h2 0 _ _ rfl rfl
 have f:=h2 1 _ _ rfl rfl
 have g:=h2 2 _ _ rfl rfl
 have i:=h2 3 _ _ rfl rfl
 have j:=h2 4 _ _ rfl rfl
 have m:=h2 5 _ _ rfl rfl
 refine⟨_,rfl,rfl,⟨?_,?_,?_,⟨n,rfl,?_⟩,?_⟩,p,rfl,?_⟩
 ·cases w0;rfl
 ·cases f;rfl
 ·cases g;rfl
 ·cases i with
  |lst _ _ _ _ a _=>exact a
 ·cases j;rfl
 ·cases m with
  |lst _ _ _ _ a _=>exact a
theorem len1 {α:Type}{l:List α}(h:l.length=1):∃a,l=[a]:=by
 match l,h with
 | [a],_=>exact⟨a,rfl⟩
structure Calm (F F':FB)(hp hp':Hp):Prop where
 kp:m9 hp hp'
 fle:Fle F F'
 fh:FH F' hp'
 fz:∀i b,F' i=some b->F i=some b\/hp.nx<=i
 same:∀j,j<hp.nx->hp'.m.get j=hp.m.get j
variable {F :FB}{hp:Hp}{t o:Tree}{vs us:List Value}
theorem chk_use (hk : d6 PR U0 ov cChk 34) (hF : FH F hp) ( d : vs.length = 6) (h : RN F t (fun q => vs[q]?)) :
  ∃F' hp' n,E4 PR ov 34 [.agg vs.toArray] hp (.int .i64 n) hp'/\Calm F F' hp hp'/\(n=0↔Valid t):=by
 obtain⟨v,F',hp',a,f,g,i,j,k,l,m,b,c⟩:=hk.use rfl rfl rfl rfl (es:=ndE t 0) rfl (show trPre (ndD t)from⟨t,rfl,rfl,rfl,rfl,rfl,rfl⟩) hF (xs:=[.agg vs.toArray]) (show VDL PR U0 _ F [ndV t 0] _ from .cons (vd_node 0 d h) VDL.nil)
 obtain⟨e,rfl⟩:=len1 (show a.length=1 from m)
 have c:VD PR U0 (fun _=>none) F' (.int .i64 (.dat 0 (.int (e.toI U0)))) v:=c
 have b:chkRel (ndD t) [.int (e.toI U0)]:=b
 cases c
 exact⟨F',hp',e.toI U0,f,⟨g,i,j,k,l⟩,(b t ⟨rfl,rfl,rfl,rfl,rfl,rfl⟩).1⟩
theorem cpy_use (hk : d6 PR U0 ov cCpy 26) ( k : Valid t) (hF : FH F hp) ( j : vs.length = 6) (h : RN F t (fun q => vs[q]?)) :
  ∃(F':FB) (hp':Hp) (a:List Value),E4 PR ov 26 [.agg vs.toArray] hp (.agg a.toArray) hp'/\Calm F F' hp hp'/\a.length=6/\RN F' t (fun q=>a[q]?):=by
 obtain⟨v,F',hp',b,l,m,n,p,r,s,u,c,x⟩:=hk.use rfl rfl rfl rfl (es:=ndE t 0) rfl (show trPre (ndD t)from⟨t,rfl,rfl,rfl,rfl,rfl,rfl⟩) hF (xs:=[.agg vs.toArray]) (show VDL PR U0 _ F [ndV t 0] _ from .cons (vd_node 0 j h) VDL.nil)
 obtain⟨e0,d,e,f,g,i,rfl⟩:=len6 (show b.length=6 from u)
 have c:cpyRel (ndD t) [.int (e0.toI U0),.str (d.den U0).toStr,.str (e.den U0).toStr,.lst (f.toR U0),.str (g.den U0).toStr,.lst (i.toR U0)]:=c
 obtain⟨a,rfl,y,w⟩:=node_of (c t ⟨rfl,rfl,rfl,rfl,rfl,rfl⟩ k) (show VD PR U0 _ F' (.agg [.int .u8 (.dat 0 (.int (e0.toI U0))),.str (.dat 1 (.str (d.den U0).toStr)),.str (.dat 2 (.str (e.den U0).toStr)),.lst tAt (.dat 3 (.lst (f.toR U0))) false,.str (.dat 4 (.str (g.den U0).toStr)),.lst tN (.dat 5 (.lst (i.toR U0))) false]) v from x)
 exact⟨F',hp',a,l,⟨m,n,p,r,s⟩,y,w⟩
theorem dck_use (hk : d6 PR U0 ov cDck 24) ( j : Valid t) (  c : Valid o) (hF : FH F hp) ( i : vs.length = 6) (h : RN F t (fun q => vs[q]?)) (  b : us.length = 6) (h' : RN F o (fun q => us[q]?)) :
  ∃F' hp',E4 PR ov 24 [.agg vs.toArray,.agg us.toArray] hp (.int .i64 0) hp'/\Calm F F' hp hp':=by
 obtain⟨v,F',hp',a,d,k,l,m,n,p,r,f,g⟩:=hk.use rfl rfl rfl rfl (es:=ndE t 0++ndE o 6) rfl (show dckPre (ndD t++ndD o)from⟨⟨t,⟨rfl,rfl,rfl,rfl,rfl,rfl⟩,j⟩,o,⟨rfl,rfl,rfl,rfl,rfl,rfl⟩,c⟩) hF (xs:=[.agg vs.toArray,.agg us.toArray]) (show VDL PR U0 _ F [ndV t 0,ndV o 6] _ from .cons (vd_node 0 i h) (.cons (vd_node 6 b h') VDL.nil))
 obtain⟨e,rfl⟩:=len1 (show a.length=1 from r)
 have g:VD PR U0 (fun _=>none) F' (.int .i64 (.dat 0 (.int (e.toI U0)))) v:=g
 have f:e.toI U0=0:=f
 cases g
 refine⟨F',hp',?_,⟨k,l,m,n,p⟩⟩
 have d:E4 PR ov _ _ hp (.int .i64 (e.toI U0)) hp':=d
 rwa[f]at d
theorem ft_use (hk : d6 PR U0 ov cFt 12) (hF : FH F hp) ( g : vs.length = 6) (h : RN F t (fun q => vs[q]?)) (  c : us.length = 6) (h' : RN F o (fun q => us[q]?)) :
  ∃F' hp' b,E4 PR ov 12 [.agg vs.toArray,.agg us.toArray] hp (.bool b) hp'/\Calm F F' hp hp'/\(b=true↔fit t o):=by
 obtain⟨v,F',hp',a,i,j,l,m,n,p,r,d,f⟩:=hk.use rfl rfl rfl rfl (es:=ndE t 0++ndE o 6) rfl (show ftPre (ndD t++ndD o)from trivial) hF (xs:=[.agg vs.toArray,.agg us.toArray]) (show VDL PR U0 _ F [ndV t 0,ndV o 6] _ from .cons (vd_node 0 g h) (.cons (vd_node 6 c h') VDL.nil))
 obtain⟨e,rfl⟩:=len1 (show a.length=1 from r)
 have f:VD PR U0 (fun _=>none) F' (.bool (.dat 0 (.bool (e.den U0).toBool))) v:=f
 have d:(e.den U0).toBool=true↔(t.k=o.k/\t.t=o.t):=d
 cases f
 exact⟨F',hp',(e.den U0).toBool,i,⟨j,l,m,n,p⟩,d⟩
end Go.D
