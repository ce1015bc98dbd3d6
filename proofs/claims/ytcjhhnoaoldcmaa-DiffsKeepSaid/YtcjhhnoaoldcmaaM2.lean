/- Trees that are changed in place: what nodes are in the executor's memory; trees whose lists are their own.
  Conditions: none. -/
import Derived.Test.YtcjhhnoaoldcmaaM1
import Derived.Test.YtcjhhnoaoldcmaaD1
import Derived.Test.YtcjhhnoaoldcmaaF1
import Derived.Test.YtcjhhnoaoldcmaaSm4
set_option linter.unusedVariables false
noncomputable section
namespace Go.D
open Go Go.Xe Go.Sx
abbrev tAt :TypeId:=82
abbrev FB:=Nat->Option Blk
def at6 (cs:T Value)(o:Nat):Nat->Option Value:=fun q=>cs.get (o+q)
def Hd (F:FB)(t:Tree)(g:Nat->Option Value):Prop:=
 g 0=some (.int .u8 t.k)/\g 1=some (.string ⟨t.t.toArray⟩)/\g 2=some (.string ⟨t.y.toArray⟩)/\(∃va,g 3=some va/\PV PR F (.sl tAt) va (.lst (t.a.map Att.row)))/\g 4=some (.string ⟨t.x.toArray⟩)
def RN (F:FB)(t:Tree)(g:Nat->Option Value):Prop:=Hd F t g/\ ∃vc,g 5=some vc/\PV PR F (.sl tN) vc (.lst (rows t.c))
variable {F F':FB}{t:Tree}{g:Nat->Option Value}
theorem Hd.mono (h:Fle F F')(k:Hd F t g):Hd F' t g:=by
 obtain⟨a,b,c,⟨i,d,e⟩,f⟩:=k
 exact⟨a,b,c,⟨i,d,e.mono PR h⟩,f⟩
theorem RN.mono (h:Fle F F')(k:RN F t g):RN F' t g:=by
 obtain⟨a,vc,d,e⟩:=k
 exact⟨a.mono h,vc,d,e.mono PR h⟩
theorem nrow_eq (t:Tree):t.row=[.int t.k,.str t.t,.str t.y,.lst (t.a.map Att.row),.str t.x,.lst (rows t.c)]:=by
 obtain⟨k,t,y,a,x,c⟩:=t
 have hr:∀c:List Tree,Tree.rows c=rows c:=fun c=>by
  induction c with
  |nil=>rfl
  |cons s c b=>simp only[Tree.rows,rows,bF2,b]
 simp only[Tree.row,Tree.k,Tree.t,Tree.y,Tree.a,Tree.x,Tree.c,hr]
theorem RN.cell (h:RN F t g)(k:Nat)(d:Dat)(kd:Kd)(hd:t.row[k]? =some d)(hk:(kf PR tN)[k]? =some kd):∃x,g k=some x/\PV PR F kd x d:=by
 obtain⟨⟨h0,h1,h2,⟨c,h3,a⟩,h4⟩,vc,h5,b⟩:=h
 rw[nrow_eq]at hd
 rw[kf_N]at hk
 match k,hd,hk with
 |0,hd,hk=>cases hd;cases hk;exact⟨_,h0,.int _ _⟩
 |1,hd,hk=>cases hd;cases hk;exact⟨_,h1,.str _⟩
 |2,hd,hk=>cases hd;cases hk;exact⟨_,h2,.str _⟩
 |3,hd,hk=>cases hd;cases hk;exact⟨_,h3,a⟩
 |4,hd,hk=>cases hd;cases hk;exact⟨_,h4,.str _⟩
 |5,hd,hk=>cases hd;cases hk;exact⟨_,h5,b⟩
 |k+6,hd,hk=>simp at hd
theorem RN.of_cells (h:∀k d kd,t.row[k]? =some d->(kf PR tN)[k]? =some kd-> ∃x,g k=some x/\PV PR F kd x d):RN F t g:=by
 rw[kf_N,nrow_eq]at h
 obtain⟨x0,a0,b0⟩:=h 0 _ _ rfl rfl
 obtain⟨i,a1,a⟩:=h 1 _ _ rfl rfl
 obtain⟨j,a2,b⟩:=h 2 _ _ rfl rfl
 obtain⟨m,a3,c⟩:=h 3 _ _ rfl rfl
 obtain⟨n,a4,e⟩:=h 4 _ _ rfl rfl
 obtain⟨o,a5,f⟩:=h 5 _ _ rfl rfl
 cases b0;cases a;cases b;cases e
 exact⟨⟨a0,a1,a2,⟨_,a3,c⟩,a4⟩,_,a5,f⟩
variable {l:List Tree}
theorem nrows_get {j:Nat}{r:List Dat}(h:(rows l)[j]? =some r):∃s,l[j]? =some s/\r=s.row:=by
 simp only[rows,bF1,bI2]at h
 obtain⟨s,h1,h2⟩:=h
 exact⟨s,h1,h2.symm⟩
theorem nrow_len (t:Tree):t.row.length=6:=by rw[nrow_eq];rfl
variable {cs:T Value}
theorem rowsAt_of {o n:Nat}(h:∀j s,l[j]? =some s->RN F s (at6 cs (o+j*6)))(hn:o+l.length*6<=n):j7 PR F tN 6 o n cs (rows l):=by
 refine⟨by simpa [rows]using hn,by rw[kf_N];rfl,fun r hr=>?_,fun r k row d hr hk=>?_⟩
 ·obtain⟨s,_,rfl⟩:=bI1.1 hr
  exact nrow_len s
 ·obtain⟨s,hs,rfl⟩:=nrows_get hr
  have b:k<6:=by have:=(bA4.1 hk).1;rw[nrow_len]at this;exact this
  obtain⟨kd,a⟩:∃kd,(kf PR tN)[k]? =some kd:=⟨_,bB3 (by rw[kf_N];exact b)⟩
  obtain⟨x,hx,hp⟩:=(h r s hs).cell k d kd hk a
  exact⟨x,by simpa [at6,bG0]using hx,fun c h'=>by rw[a]at h';cases h';exact hp⟩
theorem pv_of_rowsAt {L:Sx.Rows}{i o n c:Nat}(hF:F i=some (.cells cs n tN 6))(hc:ap8 L.length c)(h:j7 PR F tN 6 o n cs L):PV PR F (.sl tN) (.slice (some ⟨i,o,none⟩) L.length c) (.lst L):=by
 obtain⟨h1,h2,h3,h4⟩:=h
 refine .sl tN i o c _ cs n 6 L (fun r k=>(cs.get (o+r*6+k)).getD undef) hF rfl ⟨hc,.mk⟩ h1 h2 h3 (fun r k row d hr hk=>?_) (fun r k row kd d hr hk a=>?_)
 ·obtain⟨x,hx,_⟩:=h4 r k row d hr hk
  rw[hx];rfl
 ·obtain⟨x,hx,hp⟩:=h4 r k row d hr hk
  rw[hx];exact hp kd a
inductive TA (F H : FB) : List Nat → Tree → (Nat → Option Value) → Prop
 | mk (t : Tree) (g : Nat → Option Value) (i : Nat) (cs : T Value) (Ss : List (List Nat)) (hd : Hd F t g) (h5 : g 5 = some (.slice (some ⟨i, 0, none⟩) t.c.length t.c.length)) (hH : H i = some (.cells cs (t.c.length * 6) tN 6))
   (hb:t.c.length<=1000) (hl:Ss.length=t.c.length) (hk:∀(j:Nat) s S,t.c[j]? =some s->Ss[j]? =some S->TA F H S s (at6 cs (j*6))):TA F H (i::Ss.flatten) t g
variable {S:List Nat}
theorem mem_flat {Ss:List (List Nat)}{j q:Nat}(h:Ss[j]? =some S)(hq:q∈S):q∈Ss.flatten:=List.mem_flatten.2 ⟨S,bB1 h,hq⟩
theorem TA.read {H:FB}(h:TA F H S t g)(hF:Fle F F')(e:∀j∈S,F' j=H j):RN F' t g:=by
 induction h with
 |mk t g i cs Ss hd h5 hH hb hl hk f=>
  refine⟨hd.mono hF,_,h5,?_⟩
  have hr:j7 PR F' tN 6 0 (t.c.length*6) cs (rows t.c):=by
   refine rowsAt_of (fun j s hj=>?_) (by omega)
   have d:j<Ss.length:=by rw[hl];exact(bA4.1 hj).1
   have b:=bB3 d
   rw[bD3]
   exact f j s _ hj b (fun q hq=>e q (bF9 _ (mem_flat b hq)))
  have a:(rows t.c).length=t.c.length:=by simp[rows]
  have:=pv_of_rowsAt (c:=t.c.length) (by rw[e i (List.mem_cons_self ..)];exact hH) (.inl ⟨by unfold unk;omega,by rw[a];exact bC4 _⟩) hr
  rwa[a]at this
end Go.D
noncomputable section
namespace Go.D
open Go Go.Xe Go.Sx
open Go.C36 (row)
def ax7 :List ai1:=[(28,6,toG)]
def oneF :List SV->SS->Option (List Nat):=fun args s=>match args with
 | .ptr a _ _ _::_=>some [a]
 |_=>none
def krPre :List Dat->Prop
 | [.lst M,.lst C,.int n0,.int i,.int k,.str t,.str y,.lst a,.str x,.lst c]=>0<=i/\i<ln C/\(∃n:List Tree,c=rows n/\n.length<=1000)/\(∃o:List Tree,C=rows o/\ ∀s,o[i.toNat]? =some s->Valid s)/\ ∃m:List Int,M=m.map row/\m.length<=1000
 |_=>False
def krRel :List Dat->List Dat->Prop
 | [.lst M,.lst C,.int n0,.int i,.int k,.str t,.str y,.lst a,.str x,.lst c],[.lst M1,.lst C1,.int n1,.int i1,.int k1,.str t1,.str y1,.lst a1,.str x1,.lst c1]=>
  M1=M/\C1=C/\n1=n0/\i1=i/\k1=k/\t1=t/\y1=y/\a1=a/\x1=x/\ ∀(m:List Int) (o:List Tree),M=m.map row->C=rows o->c1=if i∈m then c else c++(rows (o.drop i.toNat)).take 1
 |_,_=>False
def krV :List Vs:=[.one (.ptr 0 6),.one (.g (.lst 3)),.one (.g (.lst 28)),iV,iV]
def cKr :Con:=⟨ "kr",krV,ax7,oneF,krPre,krV,ax7,noB,krRel⟩
def pcKr :Code->Code:=fun c=>cdA (cdB (cdB (cdA (cdA (cdB (cdB (cdB (cdB c))))))))
def frB :List ai1:=[(28,6,tG)]
def caPre :List Dat->Prop
 | [.int k,.str t,.str y,.lst a,.str x,.lst c]=>ln a<=1000
 |_=>False
def caRel :List Dat->List Dat->Prop
 | [.int k,.str t,.str y,.lst a,.str x,.lst c],[.int k1,.str t1,.str y1,.lst a1,.str x1,.lst c1]=>k1=k/\t1=t/\y1=y/\a1=a/\x1=x/\c1=c
 |_,_=>False
def cCa :Con:=⟨ "ca",[.one (.ptr 0 6)],frB,oneF,caPre,[],frB,noB,caRel⟩
def pcCa :Code->Code:=fun c=>cdA (cdB (cdB c))
def cpyPre:=trPre
def cpyRel :List Dat->List Dat->Prop
 | [.int k,.str t,.str y,.lst a,.str x,.lst c],[.int k',.str t',.str y',.lst a',.str x',.lst c']=>∀s:Tree,isT s k t y a x c->Valid s->isT s k' t' y' a' x' c'
 |_,_=>False
def cCpy:=mkC "cpy" [nV] cpyPre [nV] cpyRel
def dckPre :List Dat->Prop
 | [.int k,.str t,.str y,.lst a,.str x,.lst c,.int k',.str t',.str y',.lst a',.str x',.lst c']=>(∃s:Tree,isT s k t y a x c/\Valid s)/\ ∃s:Tree,isT s k' t' y' a' x' c'/\Valid s
 |_=>False
def dckRel :List Dat->List Dat->Prop
 |_,[.int n]=>n=0
 |_,_=>False
def cDck:=mkC "dck" [nV,nV] dckPre [iV] dckRel
def ftPre :List Dat->Prop
 | [.int _,.str _,.str _,.lst _,.str _,.lst _,.int _,.str _,.str _,.lst _,.str _,.lst _]=>True
 |_=>False
def ftRel :List Dat->List Dat->Prop
 | [.int k,.str t,.str _,.lst _,.str _,.lst _,.int k',.str t',.str _,.lst _,.str _,.lst _],[.bool b]=>b=true↔(k=k'/\t=t')
 |_,_=>False
def cFt:=mkC "ft" [nV,nV] ftPre [bV] ftRel
def annsM :FuncId->List (Nat×(Fm->SS->L3))
 |48=>[(0,E5 U0 "ixn" (E7 [(8,.int .i64)] nob) (gh2 (ghL 0) (ghostT 1)) ixnInv ixnMu)]
 |g=>annsC g
def stageM :Nat->List (FuncId×Con)
 |0=>[(34,cChk),(43,cCpd),(LVn,J4 "lives")]
 |1=>[(26,cCpy),(LVn,J4 "lives")]
 |_=>[(LVn,J4 "lives")]
def primsM (P:Program):R9:=[]
def ntKr:=69
def tpKr :List Nat:=[1,4,45,46,47]
def otKr :List Nat:=[1,4,45,46,47]
def ntCa:=38
def tpCa :List Nat:=[2]
def otCa :List Nat:=[]
end Go.D
