/- DiffsApply: contracts of the reference's functions, of form and CheckEdits, and of the law.
  Conditions: none. -/
import Derived.Test.YtcjhhnoaoldcmaaGreatT0
import Derived.Test.YtcjhhnoaoldcmaaGreatA5
set_option linter.all false
noncomputable section
namespace Go.D
open Go.Xe Go.Sx
open Go.C36 (row)
def stG :List Lf:=[.g (.int .u8),.g (.lst 3),.g .str,.g .str,.g (.int .i64),.g (.int .i64)]++tG
def rsG :List Lf:=[.g (.int .i64),.g (.lst 3),.g .str,.g .str,.g (.int .i64),.g (.int .i64)]++tG
def stV :Vs:= .agg stG
def rsV :Vs:= .agg rsG
def Dx :As->Prop
 | [.int w,.lst P,.str n,.str v,.int i,.int o,.int k,.str t,.str y,.lst a,.str x,.lst c]=>∃s:Stp,isS s w P n v i o k t y a x c|_=>False
def s9 :As->As->Prop
 | [.int w,.lst P,.str n,.str v,.int i,.int o,.int k,.str t,.str y,.lst a,.str x,.lst c],[.int e]=>∀s:Stp,isS s w P n v i o k t y a x c->e=R9 s|_,_=>False
def cFrm:=mkC "frm" [stV] Dx [iV] s9
def Bd (s:Stp):Prop:=s.t.a.length<=1000/\s.t.c.length<=1000
def rQ :As->Prop
 | [.int w,.lst P,.str n,.str v,.int i,.int o,.int k,.str t,.str y,.lst a,.str x,.lst c]=>∃s:Stp,isS s w P n v i o k t y a x c/\Bd s|_=>False
def l5:=s9
def cRfm:=mkC "rfm" [rsV] rQ [iV] l5
def Dc :As->Prop
 | [.lst L]=>∃n v:Str,L=[[.str n,.bool false,.str v]]
 |_=>False
def fZ :As->As->Prop
 | [.lst L],[.int e]=>∀n v:Str,L=[[.str n,.bool false,.str v]]->(e=0↔j8 n=true/\A9 v=true)
 |_,_=>False
def cCed:=mkC "ced" [.one (.g (.lst 106))] Dc [iV] fZ
def hC (l:List Att)(s:Str):Int:=match l.findIdx? (fun a=>a.n==s)with
 |some i=>i|none=> -1
def nj :As->Prop
 | [.lst L,.str _]=>∃l:List Att,L=l.map Att.row/\l.length<=1000|_=>False
def jw :As->As->Prop
 | [.lst L,.str s],[.int e]=>∀l:List Att,L=l.map Att.row->e=hC l s|_,_=>False
def cRfd:=mkC "rfd" [.one (.g (.lst 88)),sV] nj [iV] jw
def EO :As->Prop
 | [.int k',.str t',.str y',.lst a',.str x',.lst c',.int w,.lst P,.str n,.str v,.int i,.int o,.int k,.str t,.str y,.lst a,.str x,.lst c]=>(∃m:a8,isT m k' t' y' a' x' c'/\m.c.length<=998)/\ ∃s:Stp,isS s w P n v i o k t y a x c/\(s.w=4\/s.w=5\/s.w=6)|_=>False
def EP :As->As->Prop
 | [.int k',.str t',.str y',.lst a',.str x',.lst c',.int w,.lst P,.str n,.str v,.int i,.int o,.int k,.str t,.str y,.lst a,.str x,.lst c],[.int k2,.str t2,.str y2,.lst a2,.str x2,.lst c2,.int e]=>(∃m:a8,isT m k2 t2 y2 a2 x2 c2)/\ ∀(m:a8) (s:Stp),isT m k' t' y' a' x' c'->isS s w P n v i o k t y a x c->Ans (H2 m s) k2 t2 y2 a2 x2 c2 e|_,_=>False
def cRch:=mkC "rch" [nV,rsV] EO [nV,iV] EP
def rP :As->Prop
 | [.int k',.str t',.str y',.lst a',.str x',.lst c',.int w,.lst P,.str n,.str v,.int i,.int o,.int k,.str t,.str y,.lst a,.str x,.lst c,.lst Q]=>(∃m:a8,isT m k' t' y' a' x' c'/\M5 990 m)/\(∃s:Stp,isS s w P n v i o k t y a x c/\Bd s)/\ ∃p:Ak,Q=p.map row|_=>False
def M1 :As->As->Prop
 | [.int k',.str t',.str y',.lst a',.str x',.lst c',.int w,.lst P,.str n,.str v,.int i,.int o,.int k,.str t,.str y,.lst a,.str x,.lst c,.lst Q],[.int k2,.str t2,.str y2,.lst a2,.str x2,.lst c2,.int e]=>(∃m:a8,isT m k2 t2 y2 a2 x2 c2)/\ ∀(m:a8) (s:Stp) (p:Ak),isT m k' t' y' a' x' c'->isS s w P n v i o k t y a x c->Q=p.map row->Ans (if R9 s=0 then dJ s m p else .error (R9 s)) k2 t2 y2 a2 x2 c2 e|_,_=>False
def uF :As->Nat
 | [_,_,_,_,_,_,_,_,_,_,_,_,_,_,_,_,_,_,.lst Q]=>Q.length|_=>0
def cRca:=mkC "rca" [nV,rsV,.one (.g (.lst 3))] rP [nV,iV] M1
def nY:=FF
def cO :As->As->Prop
 | [.int k,.str t,.str y,.lst a,.str x,.lst c,.int lv],[.int n]=>1<=n/\n<=151+151*lv/\(n<=150->ln a<=20/\ln c<=20)|_,_=>False
def qj:=ID
def cWg2:=mkC "wg2" [nV,iV] nY [iV] cO
def Sts (S:Sx.Rows)(l:List Stp):Prop:=S=l.map Stp.row/\l.length<=40/\ ∀s∈l,Bd s
def xe :As->Prop
 | [.int k,.str t,.str y,.lst a,.str x,.lst c,.lst S]=>(∃m:a8,isT m k t y a x c/\z7 m)/\ ∃l,Sts S l|_=>False
def jt :As->As->Prop
 | [.int k,.str t,.str y,.lst a,.str x,.lst c,.lst S],[.int k2,.str t2,.str y2,.lst a2,.str x2,.lst c2,.int e]=>∀(m:a8) (l:List Stp),isT m k t y a x c->Sts S l->Ans (H5 m l) k2 t2 y2 a2 x2 c2 e|_,_=>False
def cRap:=mkC "rap" [nV,.one (.g (.lst 51))] xe [nV,iV] jt
def CH :As->Prop
 | [.int k,.str t,.str y,.lst a,.str x,.lst c,.lst S]=>(∃m:a8,isT m k t y a x c/\z7 m)/\ ∃l,Sts S l/\ ∀s∈l,s.p.length<=10|_=>False
def CI :As->As->Prop
 | [.int k,.str t,.str y,.lst a,.str x,.lst c,.lst S],[.int k2,.str t2,.str y2,.lst a2,.str x2,.lst c2,.int e]=>∀(m:a8) (l:List Stp),isT m k t y a x c->Sts S l->Ans (H5 m l) k2 t2 y2 a2 x2 c2 e/\(∀n,H5 m l= .error n->isT oJ k2 t2 y2 a2 x2 c2)|_,_=>False
def cApy:=mkC "apy" [nV,.one (.g (.lst 47))] CH [nV,iV] CI
def Dj :As->Prop
 | [.int g,.int k,.lst B,.lst S]=>iJ [.int g,.int k,.lst B]/\ ∃l:List Stp,S=l.map Stp.row/\ ∀s∈l,0<=s.w/\s.w<256|_=>False
def M0 :As->As->Prop
 |_,[.bool b]=>b=true|_,_=>False
def cDap:=mkC "dap" [.agg [.g (.int .u8),.g (.int .u8),.g (.lst 5)],.one (.g (.lst 47))] Dj [bV] M0
def pe :As->As->Prop
 | [.lst L],[.int i]=>0<=i/\i<=ln L/\ ∀n v:Str,L=[[.str n,.bool false,.str v]]->i=0\/(j8 n=true/\A9 v=true)|_,_=>False
def Db:=N0
def tp :As->As->Prop
 | [.lst L],[.int i]=>1<=i|_,_=>False
def cfMu:=N0
def tF :As->As->Prop
 | [.lst L,.str s],[.int i]=>0<=i/\i<=ln L/\ ∀l:List Att,L=l.map Att.row-> ∀z∈l.take i.toNat,z.n≠s|_,_=>False
def fdMu:=N0
def puF (l:List Att)(b:Bool)(at_:Int)(s:Stp)(i:Nat):List Att×Bool:=match i with
 |0=>([],b)
 |i+1=>match l[i]? with
  |some a=>
   let r:=puF l b at_ s i
   let r2:=if r.2=false/\lt a.n s.n=false then(r.1++ [⟨s.n,s.v⟩],true)else r
   (if(i:Int)=at_ then r2.1 else r2.1++ [a],r2.2)
  |none=>puF l b at_ s i
def dX :As->As->Prop
 | [.lst L,.str n,.str v,.int at_,.int w],[.int i,.lst R,.bool b]=>0<=i/\i<=ln L/\ ∀(l:List Att) (s:Stp),L=l.map Att.row->n=s.n->v=s.v->w=s.w->R=(puF l (decide (s.w=1)) at_ s i.toNat).1.map Att.row/\b=(puF l (decide (s.w=1)) at_ s i.toNat).2|_,_=>False
def nh :As->As->Nat
 | [.lst L,_,_,_,_],.int i::_=>(ln L-i).toNat|_,_=>0
def uE :As->As->Prop
 | [.int k0,.str t0,.str y0,.lst a0,.str x0,.lst c0,.lst S],[.int i,.int k,.str t,.str y,.lst a,.str x,.lst c]=>0<=i/\i<=ln S/\ ∃r:a8,isT r k t y a x c/\ ∀(m:a8) (l:List Stp),isT m k0 t0 y0 a0 x0 c0->Sts S l->y8 m (l.take i.toNat)= .ok r|_,_=>False
def raMu :As->As->Nat
 | [_,_,_,_,_,_,.lst S],.int i::_=>(ln S-i).toNat|_,_=>0
def tu :As->As->Prop
 | [.lst S],[.int i,.lst R]=>0<=i/\i<=ln S/\R=S.take i.toNat/\ ∀l:List Stp,S=l.map Stp.row-> ∀s∈l.take i.toNat,s.p.length<=10/\Bd s|_,_=>False
def Di:=N0
def aG6 :List G:=[.int .u8,.str,.str,.lst 88,.str,.lst 28]
def gh3 (a b c:Fm->SS->List (So×E)):=gh2 a (gh2 b c)
def ghN (t:Nat):Fm->SS->List (So×E):=gh3 (D3 t 0) (gh3 (D3 t 1) (D3 t 2) (D3 t 3)) (gh2 (D3 t 4) (D3 t 5))
def V0 :Az->List (Nat×(Fm->SS->Z7))
 |16=>dD 16|65=>[(0,U6 U0 "ce" (U7 [(8,.int .i64),(4,.any)] nob) (t8 0) pe Db),(2,U6 U0 "cf" (U7 [(5,.int .i64)] nob) (t8 0) tp cfMu)]
 |70=>[(0,U6 U0 "fd" (U7 [(5,.int .i64)] nob) (gh2 (t8 0) (t8 1)) tF fdMu)]
 |39=>[(1,U6 U0 "pu" (U7 [(15,.int .i64),(13,.acc 88 2),(14,.bool)] nob) (gh3 (D3 3 3) (gh2 (D3 4 2) (D3 4 3)) (gh2 (t8 12) (D3 4 0))) dX nh)]
 |18=>[(0,U6 U0 "ra" (U7 [(6,.int .i64),(7,.any)] (J7 2 aG6)) (gh2 (ghN 2) (t8 1)) uE raMu)]
 |5=>[(0,U6 U0 "da" (U7 [(6,.int .i64),(5,.acc 51 12)] nob) (t8 1) tu Di)]
 |_=>[]
def Q9 :Nat->List (Az×Con)
 |0=>[(34,cChk),(LVn,cYes "lives")]
 |1=>[(15,cRchk),(LVn,cYes "lives")]
 |2=>[(15,cRchk),(71,cRname),(72,cRstr),(69,cRfm),(70,cRfd),(73,cRch),(LVn,cYes "lives")]
 |3=>[(15,cRchk),(39,cRca),(LVn,cYes "lives")]
 |9=>[(LVn,cYes "lives")]
 |_=>[(16,cWg2),(7,cTree),(11,cApy),(18,cRap),(13,cSam),(LVn,cYes "lives")]
def dW (P:Ax):fG:=[]
end Go.D
set_option maxRecDepth 10000
noncomputable section
namespace Go.D
open Go Go.Xe Go.Sx
open Go.C36 (row)
def wl (F:FB)(s:Stp)(vs:Af):Prop:=vs.length=12/\vs[0]? =some (.int .u8 s.w)/\(∃vp,vs[1]? =some vp/\PV PR F (.sl 3) vp (.lst (s.p.map row)))/\vs[2]? =some (.string ⟨s.n.toArray⟩)/\vs[3]? =some (.string ⟨s.v.toArray⟩)/\vs[4]? =some (.int .i64 s.i)/\vs[5]? =some (.int .i64 s.o)/\RN F s.t (fun q=>vs[6+q]?)
theorem DS {α:Type}{l:List α}(h:l.length=12):∃a b c d e f g i j k m n,l=[a,b,c,d,e,f,g,i,j,k,m,n]:=by
 match l,h with
 | [a,b,c,d,e,f,g,i,j,k,m,n],_=>grind
def stpE (s:Stp):Av:=[.dat 0 (.int s.w),.dat 1 (.lst (s.p.map row)),.dat 2 (.str s.n),.dat 3 (.str s.v),.dat 4 (.int s.i),.dat 5 (.int s.o)]++ndE s.t 6
def stpSV (k:IntKind)(s:Stp):SV:= .agg [.int k (.dat 0 (.int s.w)),.lst 3 (.dat 1 (.lst (s.p.map row))) false,.str (.dat 2 (.str s.n)),.str (.dat 3 (.str s.v)),.int .i64 (.dat 4 (.int s.i)),.int .i64 (.dat 5 (.int s.o)),.int .u8 (.dat 6 (.int s.t.k)),.str (.dat 7 (.str s.t.t)),.str (.dat 8 (.str s.t.y)),.lst tAt (.dat 9 (.lst (s.t.a.map Att.row))) false,.str (.dat 10 (.str s.t.x)),.lst tN (.dat 11 (.lst (rows s.t.c))) false]
variable {ov :Aa}{F:FB}{hp:Hp}{s:Stp}{vs:Af}
theorem HH {τ:Tau}(h:wl F s vs):VD PR U0 τ F (stpSV .u8 s) (.agg vs.toArray):=by
 obtain⟨h12,h0,⟨t,h1,l⟩,h2,h3,h4,h5,⟨k0,k1,k2,⟨va,k3,o⟩,q⟩,vc,r,p⟩:=h;obtain⟨a,b,c,d,e,f,g,i,j,k,m,n,rfl⟩:=DS h12;cases h0;cases h1;cases h2;cases h3;cases h4;cases h5;cases k0;cases k1;cases k2;cases k3;cases q;cases r;refine .agg _ _ rfl fun i a x ha hx=>?_
 match i,ha,hx with
 |0,ha,hx=>cases ha;cases hx;exact .int _ _
 |1,ha,hx=>cases ha;cases hx;exact .lst _ _ _ _ l (fun h=>by grind)
 |2,ha,hx=>cases ha;cases hx;exact .str _
 |3,ha,hx=>cases ha;cases hx;exact .str _
 |4,ha,hx=>cases ha;cases hx;exact .int _ _
 |5,ha,hx=>cases ha;cases hx;exact .int _ _
 |6,ha,hx=>cases ha;cases hx;exact .int _ _
 |7,ha,hx=>cases ha;cases hx;exact .str _
 |8,ha,hx=>cases ha;cases hx;exact .str _
 |9,ha,hx=>cases ha;cases hx;exact .lst _ _ _ _ o (fun h=>by grind)
 |10,ha,hx=>cases ha;cases hx;exact .str _
 |11,ha,hx=>cases ha;cases hx;exact .lst _ _ _ _ p (fun h=>by grind)
 |i+12,ha,hx=>grind
def GL (hk:g8 PR U0 ov cFrm 61)(hF:FH F hp)(h:wl F s vs):∃hp',A4 PR ov 61 [.agg vs.toArray] hp (.int .i64 (R9 s)) hp'/\New hp hp':=by
 have b:isS s s.w (s.p.map row) s.n s.v s.i s.o s.t.k s.t.t s.t.y (s.t.a.map Att.row) s.t.x (rows s.t.c):=⟨rfl,rfl,rfl,rfl,rfl,rfl,rfl,rfl,rfl,rfl,rfl,rfl⟩
 obtain⟨v,F',hp',g,d,j,r,u,z,l,m,f,q⟩:=hk.use rfl rfl rfl rfl (es:=stpE s) rfl (⟨s,b⟩) hF (.cons (HH h) MC);obtain⟨e,rfl⟩:=wJ (m);have f:=f s b;cases q;have d:A4 PR ov _ _ hp (.int .i64 (e.toI U0)) hp':=d;rw[f]at d;exact⟨hp',d,⟨j.nx,l⟩⟩
theorem Gt (hk:g8 PR U0 ov cCed 65)(hF:FH F hp){v:Aw}{n x:Str}(h:PV PR F (.sl 106) v (.lst [[.str n,.bool false,.str x]])):∃hp' e,A4 PR ov 65 [v] hp (.int .i64 e) hp'/\New hp hp'/\(e=0↔j8 n=true/\A9 x=true):=by obtain⟨v,F',hp',a,b,c,j,k,l,d,f,g,i⟩:=hk.use rfl rfl rfl rfl (es:=[.dat 0 (.lst [[.str n,.bool false,.str x]])]) rfl (⟨n,x,rfl⟩) hF (.cons (.lst _ _ _ _ h (fun h=>by grind)) MC);obtain⟨e,rfl⟩:=wJ (f);cases i;exact⟨hp',e.toI U0,b,⟨c.nx,d⟩,g n x rfl⟩
def dL (hk:g8 PR U0 ov cChk 34)(hF:FH F hp){t:a8}(b:vs.length=6)(h:RN F t (fun q=>vs[q]?)):∃hp' n,A4 PR ov 34 [.agg vs.toArray] hp (.int .i64 n) hp'/\New hp hp'/\(n=0↔z7 t)/\(n=0\/n=14):=by obtain⟨v,F',hp',a,c,d,k,l,m,f,g,i,j⟩:=hk.use rfl rfl rfl rfl (es:=ndE t 0) rfl (⟨t,rfl,rfl,rfl,rfl,rfl,rfl⟩) hF (.cons (sq 0 b h) MC);obtain⟨e,rfl⟩:=wJ (g);cases j;have:=i t ⟨rfl,rfl,rfl,rfl,rfl,rfl⟩;exact⟨hp',e.toI U0,c,⟨d.nx,f⟩,this.1,this.2⟩
end Go.D
