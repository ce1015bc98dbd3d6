/- Trees: the conditions of walk and of Check hold.
  Conditions: none. -/
import Derived.Test.YtcjhhnoaoldcmaaGreatA3
import Derived.Test.YtcjhhnoaoldcmaaGreatA1
set_option linter.all false
namespace Go.D
open Go Go.Xe Go.Sx
def B6 (s:a8):fV s↔de s/\AllAs s.c:=by cases s;unfold fV;rfl
def P0 (s:a8):s.size=a8.sizes s.c+1:=by cases s;rfl
def aP (s:a8):s.depth=a8.depths s.c+1:=by cases s;rfl
def eF (l m:List a8):AllAs (l++m)↔AllAs l/\AllAs m:=by
 induction l with
 |nil=>simp[AllAs]|cons a l b=>simp[AllAs,b,and_assoc]
def L2 (l m:List a8):a8.sizes (l++m)=a8.sizes l+a8.sizes m:=by
 induction l with
 |nil=>simp[a8.sizes]|cons a l b=>simp only[a8.sizes,KX,b];omega
def bO (l m:List a8):a8.depths (l++m)=max (a8.depths l) (a8.depths m):=by
 induction l with
 |nil=>simp[a8.depths]|cons a l b=>simp only[a8.depths,KX,b];omega
def uY (l:List a8)(k:Nat):a8.sizes (l.take k)<=a8.sizes l:=by rw(occs:= .pos [2]) [<-LD k l];rw[L2];omega
def po (l:List a8)(k:Nat):a8.depths (l.take k)<=a8.depths l:=by rw(occs:= .pos [2]) [<-LD k l];rw[bO];omega
variable {l:List a8}
def wb (h:AllAs l)(k:Nat):AllAs (l.take k):=by rw[<-LD k l,eF]at h;exact h.1
theorem aH (h:AllAs l){k:Nat}{a:a8}(ha:l[k]? =some a):fV a:=by
 induction l generalizing k with
 |nil=>grind|cons b l c=>cases k with
  |zero=>cases ha;exact h.1
  |succ k=>exact c h.2 (by simpa using ha)
def nC (s:a8):1<=s.size:=by rw[P0];omega
theorem gT {s:a8}(h:de s):s.c.length<=16/\s.a.length<=8:=by rcases h<;>grind
def bad {p q:Prop}(h:¬p):(false=true↔p)/\(false=true->q):=⟨C9 h,fun e=>(by cases e)⟩
def pP (c:a8):a8.sizes [c]=c.size:=by simp[a8.sizes]
def EB (c:a8):a8.depths [c]=c.depth:=by simp[a8.depths]
def vcWalk_ok (n:Nat):vcWalk n:=by
 rintro _ lv n0 w ⟨⟨⟨s,rfl⟩,h1,h2,h3,h4,h5,f⟩,hm⟩;simp only[ep]at hm;simp only[Nd,ln,I64,cL,Dd,part1,t5,bD,Kf,n9,dC,F9,cN,ep,er,qk,Le,Li,Ld,nn,forall_eq',exists_eq',KY,KF];refine⟨⟨by omega,by omega⟩,fun _=>⟨fun hd=>?_,fun hd=>?_⟩⟩;all_goals
  have o:=P0 s;have j:=aP s;refine⟨fun h=>⟨by omega,by omega,by omega,by omega,bad fun g=>?_⟩,fun f=>⟨fun h=>⟨by omega,by omega,by omega,by omega,bad fun g=>?_⟩,fun i b hb=>⟨fun e=>⟨⟨by omega,by omega,by omega,by omega,trivial,by simp[a8.sizes],by omega,by simp only[Int.toNat_zero,List.take_zero,a8.depths];omega,by omega,by simp only[Int.toNat_zero,List.take_zero,a8.depths];omega,by omega⟩,fun _ k n' v ⟨k0,_,_,k1,k2,k3,A,p,B,q,_⟩=>⟨fun hk=>?_,fun hk=>?_⟩⟩,fun e=>⟨by omega,by omega,by omega,by omega,bad fun g=>e (hb.2 ((B6 s).1 g.1).1)⟩⟩⟩⟩
  ·have:=g.2.1;omega
  ·have:=g.2.2;omega
  ·obtain⟨c,hc⟩:=Sx.get_at k0 hk;have:=gT (hb.1 e);have hs1:=uY s.c (k+1).toNat;have hd1:=po s.c (k+1).toNat;simp only[EE hc,Le,Li,nn,forall_eq',exists_eq',Ld];simp only[s8 k0 hc,L2,pP,bO,EB]at hs1 hd1⊢;refine⟨by omega,fun _=>⟨hk,fun _=>⟨⟨by omega,by omega⟩,fun _=>⟨⟨⟨by omega,by omega,by omega,by omega,by omega,by omega⟩,by omega⟩,fun _ b' m x ⟨q1,q2,r,t,a,u⟩=>⟨fun e'=>?_,fun e'=>?_⟩⟩⟩⟩⟩
   ·obtain⟨d,y,z⟩:=a.1 e';obtain⟨C,D⟩:=u e';exact⟨⟨by omega,by omega⟩,fun _=>⟨⟨by omega,by omega,by omega,by omega,(eF _ _).2 ⟨k2,d,trivial⟩,by omega,by omega,by omega,by omega,by omega,by omega⟩,fun _=>by omega⟩⟩
   ·refine⟨q1,q2,r,t,bad fun g=>e' (a.2 ⟨aH ((B6 s).1 g.1).2 hc,?_,?_⟩)⟩
    ·have:=g.2.1;omega
    ·have:=g.2.2;omega
  ·rw[E0 (by omega)]at k2 k3 p q;have g:Good s lv n0:=⟨(B6 s).2 ⟨hb.1 e,k2⟩,by omega,by omega⟩
   exact⟨by omega,by omega,by omega,by omega,⟨fun _=>g,fun _=>trivial⟩,by omega,by omega⟩
def no14 {p:Prop}(h:¬p):((14:Int)=0↔p):=⟨fun e=>absurd e (by decide),fun e=>absurd e h⟩
def vcChk_ok :vcChk:=by
 rintro _ _ _ _ _ _ ⟨s,rfl,rfl,rfl,rfl,rfl,rfl⟩;have e:Sx.part (Sx.chunk 6 1 [(.int s.k),(.str s.t),(.str s.y),(.lst (s.a.map Att.row)),(.str s.x),(.lst (rows s.c))]) 0 1=[s.row]:=by rw[H9];rfl
 simp only[Nd,e,cN,F9,dK,E3,Le,Li,nn,forall_eq',forall_eq,exists_eq',Ld,KY];refine⟨by omega,fun _ b n d ⟨h1,h2,h3,h4,h5,g⟩=>⟨fun e=>?_,fun e=>⟨no14 fun h=>absurd (h5.2 ⟨h.1,by have:=h.2.2;omega,by have:=h.2.1;omega⟩) e,.inr trivial⟩⟩⟩;obtain⟨f,i,j⟩:=h5.1 e;have:=(g e).1;have:=nC s;exact⟨fun h=>by omega,fun _=>⟨⟨fun _=>⟨f,by omega,by omega⟩,fun _=>trivial⟩,.inl trivial⟩⟩
open Go Go.Xe Go.Sx
theorem vm :∀ {l:List a8} {k:Nat} {c:a8},l[k]? =some c->szRs (rows c.c)<szRs (rows l)
 | [],k,c,h=>by grind|a::l,0,c,h=>by cases h;show _<szR a.row+1+szRs (rows l);rw[H9];simp only[szR,szD];omega
 |a::l,k+1,c,h=>by have:=vm (by simpa using h);show _<szR a.row+1+szRs (rows l);omega
end Go.D
noncomputable section
namespace Go.D
open Go.Xe Go.Sx
def u8 (n:Int):Prop:=0<=n/\n<256
def bytes (L:Sx.Rows):Prop:=∃l:Ak,L=l.map (fun n=>[Dat.int n])/\ ∀n∈l,u8 n
def tabT :Sx.Rows:=Sx.chunk 1 4 [(.str ([97]:Ae)),(.str ([98]:Ae)),(.str ([112,49]:Ae)),(.str ([115,105,120,116,101,101,110,98,121,116,101,115,116,97,103,48]:Ae))]
def tabA :Sx.Rows:=Sx.chunk 1 4 [(.str []),(.str ([120]:Ae)),(.str ([97,34,98,92,99]:Ae)),(.str ([32,126]:Ae))]
def tabB :Sx.Rows:=Sx.chunk 1 4 [(.str []),(.str ([120]:Ae)),(.str ([104,105,32,34,121,111,117,92]:Ae)),(.str ([48]:Ae))]
def tabK :Sx.Rows:=Sx.chunk 1 4 [(.str ([107,48]:Ae)),(.str ([107,49]:Ae)),(.str ([107,50]:Ae)),(.str ([107,51]:Ae))]
def oR (n:Int):Str:=cS tabT (n.tmod 4) 0
def atB (b:Int)(n:Str)(w:Int):List Att:=if b.tmod 2=1 then [⟨n,cS tabA ((IntKind.wrap .u8 w).tmod 4) 0⟩]else []
def fX (n:Int):List Att:=atB (Sx.shrI .u8 n 0) [99,108,97,115,115] (Sx.shrI .u8 n 3)++(atB (Sx.shrI .u8 n 1) [105,100] (Sx.shrI .u8 n 3+1)++atB (Sx.shrI .u8 n 2) [122,57] (Sx.shrI .u8 n 3+2))
def hJ (l:List a8)(y:Str):Str:=if y∈l.map a8.y then []else y
def G0 :Nat->Sx.Rows->Int->Int->List a8->List a8×Int
 |0,_,i,_,l=>(l,i)
 | f + 1, C, i, lv, l => if i < ln C ∧ i < 19 then
   (if(cI C i 0).tmod 8=0 then(l,i+1)
    else if l.length=16 then G0 f C (i+1) lv l
    else if(cI C i 0).tmod 8<3 then G0 f C (i+1) lv (l++ [.mk 2 [] [] [] (cS tabB ((IntKind.wrap .u8 ((cI C i 0).tdiv 8)).tmod 4) 0) []])
    else if lv<5 then G0 f C (G0 f C (i+1) (lv+1) []).2 lv (l++ [.mk 1 (oR (IntKind.wrap .u8 ((cI C i 0).tdiv 8))) (if(cI C i 0).tmod 8=3 then hJ l (cS tabK ((IntKind.wrap .u8 ((cI C i 0).tdiv 8)).tmod 4) 0)else []) (fX (IntKind.wrap .u8 ((cI C i 0).tdiv 2))) [] (G0 f C (i+1) (lv+1) []).1])
    else G0 f C (i+1) lv (l++ [.mk 1 (oR (IntKind.wrap .u8 ((cI C i 0).tdiv 8))) (if(cI C i 0).tmod 8=3 then hJ l (cS tabK ((IntKind.wrap .u8 ((cI C i 0).tdiv 8)).tmod 4) 0)else []) (fX (IntKind.wrap .u8 ((cI C i 0).tdiv 2))) [] []]))
  else(l,i)
def ofN (t y:Int)(C:Sx.Rows):a8:= .mk 1 (oR t) (if y.tmod 3=1 then [114,111,111,116]else []) (fX y) [] (G0 20 C 0 2 []).1
def nN :As->Prop
 | [.int n]=>u8 n|_=>False
def nO :As->As->Prop
 | [.int n],[.str s]=>s=oR n/\j8 s=true|_,_=>False
def cTag:=mkC "tag" [uV] nN [sV] nO
def lU (a:List Att):Prop:=a.length<=3/\(∀x∈a,j8 x.n=true/\A9 x.v=true)/\Asc (a.map Att.n)
def qI:=nN
def U3 :As->As->Prop
 | [.int n],[.lst L]=>L=(fX n).map Att.row/\lU (fX n)|_,_=>False
def cAts:=mkC "ats" [uV] qI [.one (.g (.lst 88))] U3
def sQ (l:List a8)(lv n:Int):Prop:=l.length<=16/\AllAs l/\gO (l.map a8.y)/\lv+a8.depths l<=6/\a8.sizes l<=n
def fY :As->Prop
 | [.lst C,.int i,.int lv]=>bytes C/\0<=i/\i<=19/\2<=lv/\lv<=5|_=>False
def gW :As->Nat
 | [_,_,.int lv]=>(6-lv).toNat|_=>0
def U4 :As->As->Prop
 | [.lst C,.int i,.int lv],[.lst L,.int i']=>i<=i'/\i'<=19/\ ∃l,L=rows l/\sQ l lv (i'-i)/\ ∀f:Nat,20-i<=f->G0 f C i lv []=(l,i')
 |_,_=>False
def cBld:=mkC "bld" [.one (.g (.lst 5)),iV,iV] fY [.one (.g (.acc 28 6)),iV] U4
def iJ :As->Prop
 | [.int t,.int y,.lst C]=>u8 t/\u8 y/\bytes C|_=>False
def fi :As->As->Prop
 | [.int n,.int m,.lst C],[.int k,.str t,.str y,.lst a,.str x,.lst c]=>isT (ofN n m C) k t y a x c/\z7 (ofN n m C)|_,_=>False
def cTree:=mkC "tree" [.agg [.g (.int .u8),.g (.int .u8),.g (.lst 5)]] iJ [nV] fi
def W9 :As->As->Prop
 | [.lst C,.int i0,.int lv],[.int i,.lst L]=>bytes C/\0<=i0/\i0<=i/\i<=19/\2<=lv/\lv<=5/\ ∃l,L=rows l/\sQ l lv (i-i0)/\ ∀f:Nat,20-i0<=f-> ∃g:Nat,20-i<=g/\G0 f C i0 lv []=G0 g C i lv l|_,_=>False
def aM :As->As->Nat
 |_,.int i::_=>(19-i).toNat|_,_=>0
def jf :As->As->Prop
 | [.lst L,.str t0,.str y0,.lst a0],[.int i,.int k,.str t,.str y,.lst a,.str x,.lst c]=>0<=i/\i<=L.length/\k=1/\t=t0/\a=a0/\x=[]/\c=[]/\y=if y0∈(hK L).take i.toNat then []else y0
 |_,_=>False
def mE:=N0
def ke :Az->List (Nat×(Fm->SS->Z7))
 | 27 => [(0, U6 U0 "bl" (U7 [(1, .int .i64), (8, .acc 28 6)] nob) (gh2 (t8 0) (gh2 (t8 1) (t8 2))) W9 aM),
   (2,U6 U0 "key" (U7 [(11,.int .i64)] (J7 10 [.int .u8,.str,.str,.lst 88,.str,.lst 28])) (gh2 (t8 8) (gh2 (D3 10 1) (gh2 (D3 10 2) (D3 10 3)))) jf N0)]
 |_=>[]
def jE :Nat->List (Az×Con)
 |0=>[(LVn,cYes "lives")]
 |1=>[(25,cTag),(26,cAts),(LVn,cYes "lives")]
 |_=>[(27,cBld),(25,cTag),(26,cAts),(LVn,cYes "lives")]
def rM (P:Ax):fG:=[]
end Go.D
