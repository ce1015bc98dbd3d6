/- DiffsApply: what steps do to a tree, in plain Lean.
  Conditions: none. -/
import Derived.Test.YtcjhhnoaoldcmaaGreatS9
import Derived.Test.YtcjhhnoaoldcmaaGreatSA
import Derived.Test.YtcjhhnoaoldcmaaGreatA5
import Derived.Test.YtcjhhnoaoldcmaaGreatSm4
set_option linter.all false
noncomputable section
namespace Go.D
open Go Go.Xe Go.Sx
open Go.C36 (row)
structure Stp where
 w:Int
 p:Ak
 n:Str
 v:Str
 i:Int
 o:Int
 t:a8
def Stp.row (s:Stp):As:=[.int s.w,.lst (s.p.map C36.row),.str s.n,.str s.v,.int s.i,.int s.o]++s.t.row
def isS (s:Stp)(w:Int)(P:Sx.Rows)(n v:Str)(i o k:Int)(t y:Str)(a:Sx.Rows)(x:Str)(c:Sx.Rows):Prop:=w=s.w/\P=s.p.map C36.row/\n=s.n/\v=s.v/\i=s.i/\o=s.o/\isT s.t k t y a x c
def Gf (t:a8):Prop:=t.k=0/\t.t=[]/\t.y=[]/\t.x=[]/\t.a=[]/\t.c=[]
def CR (s:Stp):Prop:=(s.w=7/\s.p≠ [])\/(¬(s.w=1\/s.w=2)/\s.n≠ [])\/(¬(s.w=2\/s.w=3)/\s.v≠ [])\/(¬(s.w=4\/s.w=6)/\s.i≠0)\/(¬(s.w=5\/s.w=6)/\s.o≠0)\/(¬(s.w=5\/s.w=7)/\ ¬Gf s.t)
open Classical in
def R9 (s:Stp):Int:=if s.w<1\/7<s.w then 1 else if CR s then 5 else 0
def Y4 (t:a8)(a:List Att):a8:= .mk t.k t.t t.y a t.x t.c
def xr (t:a8)(x:Str):a8:= .mk t.k t.t t.y t.a x t.c
def rV (t:a8)(c:List a8):a8:= .mk t.k t.t t.y t.a t.x c
def E8 {α:Type}(l:List α)(k:Int):List α:=l.take k.toNat++l.drop (k.toNat+1)
def G7 {α:Type}(l:List α)(k:Int)(c:α):List α:=l.take k.toNat++c::l.drop k.toNat
def G3 (n:a8)(s:Stp):List a8:=if s.w=5 then n.c else E8 n.c s.i
def oJ :a8:= .mk 0 [] [] [] [] []
def child (n:a8)(s:Stp):a8:=if s.w=5 then s.t else n.c.getD s.i.toNat oJ
open Classical in
def H2 (n:a8)(s:Stp):Except Int a8:=
 if s.w=5/\ ¬z7 s.t then .error 14
 else if s.w≠5/\(s.i<0\/(n.c.length:Int)<=s.i)then .error 11
 else if s.w≠4/\(s.o<0\/((G3 n s).length:Int)<s.o)then .error 1
 else .ok (rV n (if s.w=4 then G3 n s else G7 (G3 n s) s.o (child n s)))
def fy (l:List Att)(s:Stp):List Att:=if z8 l s.n then l.set (q8 l s.n) ⟨s.n,s.v⟩else G7 l (q8 l s.n) ⟨s.n,s.v⟩
open Classical in
def H3 (n:a8)(s:Stp):Except Int a8:=
 if s.w=7 then(if z7 s.t then .ok s.t else .error 14)
 else if¬(s.w=3↔n.k=2)then .error 1
 else if s.w=3 then(if A9 s.v=true then .ok (xr n s.v)else .error 14)
 else if s.w=1 then(if z8 n.a s.n then .ok (Y4 n (E8 n.a (q8 n.a s.n)))else .error 11)
 else if s.w=2 then(if¬(j8 s.n=true/\A9 s.v=true)\/(z8 n.a s.n=false/\8<=n.a.length)then .error 14 else .ok (Y4 n (fy n.a s)))
 else H2 n s
def dJ (s:Stp):a8->Ak->Except Int a8
 |n,[]=>H3 n s|n,i::p=>if 0<=i then match n.c[i.toNat]? with
  |some c=>match dJ s c p with
   | .ok c'=>.ok (uU n i.toNat c')| .error e=>.error e
  |none=>.error 11
  else .error 11
def D7 (n:a8)(s:Stp):Except Int a8:=if R9 s=0 then dJ s n s.p else .error (R9 s)
def y8 :a8->List Stp->Except Int a8
 |n,[]=>.ok n|n,s::l=>match D7 n s with
  | .ok n'=>y8 n' l| .error e=>.error e
open Classical in
def H5 (n:a8)(l:List Stp):Except Int a8:=match y8 n l with
 | .ok t=>if z7 t then .ok t else .error 14
 | .error e=>.error e
def Ans (r:Except Int a8)(k:Int)(t y:Str)(a:Sx.Rows)(x:Str)(c:Sx.Rows)(e:Int):Prop:=match r with
 | .ok s=>e=0/\isT s k t y a x c| .error n=>e=n
def oK :a8->Ak->a8->a8
 |t,[],s=>s|t,i::p,s=>match t.c[i.toNat]? with
  |some c=>uU t i.toNat (oK c p s)|none=>t
def uC :∀(t:a8) (q:Ah) (s:a8),oK t (q.map Int.ofNat) s=BB t q s
 |t,[],s=>rfl|t,j::q,s=>by
  simp only[KM,oK,BB];show(match t.c[(j:Int).toNat]? with
   |some c=>uU t (j:Int).toNat (oK c (q.map Int.ofNat) s)|none=>t)=_
  rw[KB];cases t.c[j]? with
  |none=>rfl|some c=>simp only[uC c q s]
theorem lE (s:Stp):∀(n:a8) (p:Ak),dJ s n p=match gC n p with
  |none=>.error 11|some m=>match H3 m s with
   | .ok a=>.ok (oK n p a)| .error e=>.error e
 |n,[]=>by unfold dJ gC;simp only[oK];grind|n,i::p=>by
  unfold dJ gC;by_cases h0:0<=i
  ·rw[Ki h0,Ki h0];cases hc:n.c[i.toNat]? with
   |none=>rfl|some c=>
    simp only[lE s c p];cases gC c p with
    |none=>rfl|some m=>
     simp only;cases H3 m s with
     |error e=>rfl|ok a=>simp only[oK,hc]
  ·grind
inductive M5 (K:Nat):a8->Prop
 |mk (t:a8) (h1:Asc (t.a.map Att.n)) (h2:t.a.length<=8) (h3:t.c.length<=K) (h4:∀s∈t.c,M5 K s):M5 K t
variable {K:Nat}
def M5.mono {L:Nat}(h:K<=L){t:a8}(k:M5 K t):M5 L t:=by
 induction k with
 |mk t h1 h2 h3 h4 a=>exact .mk t h1 h2 (KS h3 h) a
theorem M5.sub :∀ {p:Ak} {t m:a8},M5 K t->gC t p=some m->M5 K m
 | [],t,m,h,e=>by cases e;exact h
 |i::p,t,m,h,e=>by
  unfold gC at e;split at e
  ·split at e
   ·rename_i c hc;cases h with
    |mk _ h1 h2 h3 h4=>exact M5.sub (by grind) e
   ·cases e
  ·cases e
theorem M5.put :∀ {p:Ak} {t m:a8},M5 K t->M5 K m->M5 K (oK t p m)
 | [],t,m,h,k=>k|i::p,t,m,h,k=>by
  unfold oK;split
  ·rename_i c hc;cases h with
   |mk _ h1 h2 h3 h4=>
    refine .mk _ h1 h2 (by show(t.c.set _ _).length<=K;rw[List.length_set];exact h3) fun s hs=>?_;rcases List.mem_or_eq_of_mem_set hs with h|rfl
    ·grind
    ·exact M5.put (by grind) k
  ·exact h
end Go.D
set_option maxRecDepth 10000
noncomputable section
namespace Go.D
open Go Go.Xe Go.Sx
open Go.C36 (row)
section
variable {H :FB}{S:Ah}{n:a8}{g:Ad}
theorem TB.text (h:TB H S n g){x:Str}{e:Ad}(f:∀q,q<6->q≠4->e q=g q)(h4:e 4=some (.string ⟨x.toArray⟩)):TB H S (xr n x) e:=by obtain⟨_,_,va,vc,ia,ic,oa,oc,ca,cc,Ss,⟨a,b,c,d⟩,h3,h5,ha,hac,hc,hl,hb,hba,hk⟩:=h;exact .mk _ _ va vc ia ic oa oc ca cc Ss ⟨by rw[f 0 (by omega) (by omega)];exact a,by rw[f 1 (by omega) (by omega)];exact b,by rw[f 2 (by omega) (by omega)];exact c,h4⟩ (by grind) (by grind) ha hac hc hl hb hba hk
def TB.kind (h:TB H S n g):g 0=some (.int .u8 n.k):=by obtain⟨_,_,va,vc,ia,ic,oa,oc,ca,cc,Ss,⟨a,b,c,d⟩,_⟩:=h;exact a
theorem TB.attrs (h:TB H S n g)(o:S.Nodup):∃(va:Aw) (ia:Ai) (oa:Nat) (ca:Ao),g 3=some va/\L9 H tAt 2 n.a.length va ia oa ca/\(∀(j:Nat) a,n.a[j]? =some a->AtC a ca (oa+j*2))/\n.a.length<=1000/\(∀j∈ia.toList,j∈S)/\ ∀(e:FB) (a':List Att) (d:Aw) (io':Ai) (c:Nat) (b:Ao) (i:Ad),i 3=some d->(∀q,q<6->q≠3->i q=g q)->L9 e tAt 2 a'.length d io' c b->(∀(j:Nat) a,a'[j]? =some a->AtC a b (c+j*2))->a'.length<=1000->(∀q∈S,ia≠some q->e q=H q)->(∀q,io'=some q->ia=some q\/q∉S)-> ∃S',TB e S' (Y4 n a') i/\S'.Nodup/\ ∀q∈S',q∈S\/io'=some q:=by
 obtain⟨_,_,va,vc,ia,ic,oa,oc,ca,cc,Ss,⟨f0,r,t,u⟩,h3,h5,ha,hac,hc,hl,hb,hba,hk⟩:=h;obtain⟨z,A,B⟩:=LS.1 o;refine⟨va,ia,oa,ca,h3,ha,hac,hba,fun j hj=>LG _ hj,?_⟩;intro e a' d io' c b i v k y w l m x;have f:∀q∈ic.toList++Ss.flatten,q∈ia.toList++(ic.toList++Ss.flatten)/\ia≠some q:=fun q hq=>(by grind)
 have fr:∀q∈ic.toList++Ss.flatten,e q=H q:=fun q hq=>m q (f q hq).1 (f q hq).2;refine⟨io'.toList++(ic.toList++Ss.flatten),.mk _ _ d vc io' ic c oc b cc Ss ⟨by rw[k 0 (by omega) (by omega)];exact f0,by rw[k 1 (by omega) (by omega)];exact r,by rw[k 2 (by omega) (by omega)];exact t,by rw[k 4 (by omega) (by omega)];exact u⟩ v (by grind) y w (hc.frame fun q hq=>fr q (by grind)) hl hb l (fun j s S1 hs p=>(hk j s S1 hs p).frame fun q hq=>fr q (Lv _ (I7 p hq))),?_,fun q hq=>?_⟩
 ·grind
 ·grind
theorem TB.kids (h:TB H S n g)(r:S.Nodup):∃(vc:Aw) (ic:Ai) (oc:Nat) (cc:Ao) (Ss:List (Ah)),g 5=some vc/\L9 H tN 6 n.c.length vc ic oc cc/\Ss.length=n.c.length/\n.c.length<=1000/\(∀(j:Nat) s S1,n.c[j]? =some s->Ss[j]? =some S1->TB H S1 s (at6 cc (oc+j*6)))/\(∀j∈ic.toList,j∈S)/\(∀q∈Ss.flatten,q∈S)/\Ss.flatten.Nodup/\(∀j,ic=some j->j∉Ss.flatten)/\ ∀(e:FB) (c':List a8) (d:Aw) (io':Ai) (b:Nat) (a:Ao) (Ss':List (Ah)) (i:Ad),i 5=some d->(∀q,q<6->q≠5->i q=g q)->L9 e tN 6 c'.length d io' b a->Ss'.length=c'.length->c'.length<=1000->(∀(j:Nat) s S1,c'[j]? =some s->Ss'[j]? =some S1->TB e S1 s (at6 a (b+j*6)))->Ss'.flatten.Nodup->(∀q∈Ss'.flatten,q∈Ss.flatten\/q∉S)->(∀q,io'=some q->(ic=some q\/q∉S)/\q∉Ss'.flatten)->(∀q∈S,ic≠some q->q∉Ss.flatten->e q=H q)-> ∃S',TB e S' (rV n c') i/\S'.Nodup/\ ∀q∈S',q∈S\/io'=some q\/q∈Ss'.flatten:=by
 obtain⟨_,_,va,vc,ia,ic,oa,oc,ca,cc,Ss,⟨f0,x,y,z⟩,h3,h5,ha,hac,hc,hl,hb,hba,hk⟩:=h;obtain⟨F,u,G⟩:=LS.1 r;obtain⟨I,v,w⟩:=LS.1 u;refine⟨vc,ic,oc,cc,Ss,h5,hc,hl,hb,hk,fun j hj=>Lv _ (by grind),fun j hj=>Lv _ (by grind),v,fun j hj h=>w j (by grind) j h rfl,?_⟩;intro e c' d io' b a Ss' i A k E p l o D B C m;have t:∀q∈ia.toList,q∈ia.toList++(ic.toList++Ss.flatten):=fun q hq=>LG _ hq;have f:∀q∈ia.toList,ic≠some q/\q∉Ss.flatten:=fun q hq=>(by grind)
 refine⟨ia.toList++(io'.toList++Ss'.flatten),.mk _ _ va d ia io' oa b ca a Ss' ⟨by rw[k 0 (by omega) (by omega)];exact f0,by rw[k 1 (by omega) (by omega)];exact x,by rw[k 2 (by omega) (by omega)];exact y,by rw[k 4 (by omega) (by omega)];exact z⟩ (by grind) A (ha.frame fun q hq=>m q (t q hq) (f q hq).1 (f q hq).2) hac E p l hba o,?_,fun q hq=>?_⟩
 ·grind
 ·grind
end
end Go.D
noncomputable section
namespace Go.D
open Go.Xe Go.Sx
def M8:=uN
def D4:=B8
def cRname:=mkC "rname" [sV] M8 [bV] D4
def V9:=uN
def L1:=J5
def cRstr:=mkC "rstr" [sV] V9 [bV] L1
def rI:=FC
def E9 :As->As->Prop
 | [.int k,.str t,.str y,.lst a,.str x,.lst c],[.bool b]=>∀s:a8,isT s k t y a x c->(b=true↔de s)
 |_,_=>False
def cOne:=mkC "one" [nV] rI [bV] E9
def Fits (s:a8)(lv:Int):Prop:=fV s/\(s.depth:Int)<=lv/\s.size<=64
def eO :As->Prop
 | [.int k,.str t,.str y,.lst a,.str x,.lst c,.int lv]=>0<=lv/\lv<=6/\ ∃s:a8,isT s k t y a x c|_=>False
def R7 :As->As->Prop
 | [.int k,.str t,.str y,.lst a,.str x,.lst c,.int lv],[.int n]=>1<=n/\n<=1000+64*lv/\ ∀s:a8,isT s k t y a x c->(n<=64↔Fits s lv)/\(n<=64->n=s.size)|_,_=>False
def ju :As->Nat
 | [_,_,_,_,_,_,.int lv]=>lv.toNat|_=>0
def cRcnt:=mkC "rcnt" [nV,iV] eO [iV] R7
def eN:=FC
def V7:=dK
def cRchk:=mkC "rchk" [nV] eN [iV] V7
def FF :As->Prop
 | [.int k,.str t,.str y,.lst a,.str x,.lst c,.int lv]=>0<=lv/\lv<=8/\ ∃s:a8,isT s k t y a x c|_=>False
def ID :As->Nat
 | [_,_,_,_,_,_,.int lv]=>lv.toNat|_=>0
def pX:=kE
def BG:=N0
def uL:=nF
def rsMu:=N0
def pM :As->As->Prop
 | [.lst L],[.int i]=>0<=i/\i<=ln L/\ ∀a:List Att,L=a.map Att.row->(∀z∈a.take i.toNat,j8 z.n=true/\A9 z.v=true)/\Asc ((a.take i.toNat).map Att.n)|_,_=>False
def oaMu:=N0
def pN :As->As->Prop
 | [.lst L,.int i],[.int k]=>0<=k/\k<=i/\i<ln L/\ ∀a:List Att,L=a.map Att.row-> ∀z∈a.take k.toNat,lt z.n (a.getD i.toNat ⟨[],[]⟩).n=true|_,_=>False
def Ez :As->As->Nat
 | [_,.int i],[.int k]=>(i-k).toNat|_,_=>0
def uu :As->As->Prop
 | [.lst L],[.int i]=>0<=i/\i<=ln L/\gO ((hK L).take i.toNat)|_,_=>False
def ocMu:=N0
def pO :As->As->Prop
 | [.lst L,.int i],[.int k]=>0<=k/\k<=i/\i<ln L/\((hK L).getD i.toNat []=[]\/ ∀z∈(hK L).take k.toNat,z≠(hK L).getD i.toNat [])|_,_=>False
def Bx:=Ez
def km :As->As->Prop
 | [.lst C,.int lv],[.int i,.int n]=>0<=i/\i<=ln C/\1<=lv/\1<=n/\n<=1000+64*lv/\ ∀c:List a8,C=rows c->(n<=64↔AllAs (c.take i.toNat)/\(a8.depths (c.take i.toNat):Int)+1<=lv/\a8.sizes (c.take i.toNat)+1<=64)/\(n<=64->n=a8.sizes (c.take i.toNat)+1)|_,_=>False
def ctMu:=N0
def vC :As->As->Prop
 | [.lst C,.int lv],[.int i,.int n]=>0<=i/\i<=ln C/\1<=lv/\1<=n/\n<=151+151*lv|_,_=>False
def wgMu:=N0
def dD :Az->List (Nat×(Fm->SS->Z7))
 |71=>[(0,U6 U0 "rn" (U7 [(3,.int .i64)] nob) (t8 0) pX BG)]
 |72=>[(0,U6 U0 "rs" (U7 [(3,.int .i64)] nob) (t8 0) uL rsMu)]
 | 94 => [(0, U6 U0 "oa" (U7 [(3, .int .i64), (4, .any)] nob) (D3 1 3) pM oaMu), (2, U6 U0 "ob" (U7 [(4, .int .i64)] nob) (gh2 (D3 1 3) (t8 3)) pN Ez),
   (4,U6 U0 "oc" (U7 [(5,.int .i64),(6,.any)] nob) (D3 1 5) uu ocMu),(6,U6 U0 "od" (U7 [(6,.int .i64)] nob) (gh2 (D3 1 5) (t8 5)) pO Bx)]
 |68=>[(0,U6 U0 "ct" (U7 [(6,.int .i64),(5,.int .i64)] nob) (gh2 (D3 2 5) (t8 1)) km ctMu)]
 |16=>[(0,U6 U0 "wg" (U7 [(6,.int .i64),(5,.int .i64)] nob) (gh2 (D3 2 5) (t8 1)) vC wgMu)]
 |_=>[]
def el :Nat->List (Az×Con)
 |0=>[(LVn,cYes "lives")]
 |1=>[(71,cRname),(72,cRstr),(LVn,cYes "lives")]
 |2=>[(94,cOne),(LVn,cYes "lives")]
 |_=>[(68,cRcnt),(LVn,cYes "lives")]
def ng (P:Ax):fG:=[]
def t2Pre :As->Prop
 | [.int k,.str t,.str y,.lst a,.str x,.lst c,.int k',.str t',.str y',.lst a',.str x',.lst c']=>(∃s:a8,isT s k t y a x c)/\ ∃s':a8,isT s' k' t' y' a' x' c'|_=>False
def qW :As->Prop
 | [.int k,.str t,.str y,.lst a,.str x,.lst c,.int k',.str t',.str y',.lst a',.str x',.lst c']=>(∃s:a8,isT s k t y a x c/\fV s)/\ ∃s':a8,isT s' k' t' y' a' x' c'/\fV s'|_=>False
def O4 :As->As->Prop
 | [.int k,.str t,.str y,.lst a,.str x,.lst c,.int k',.str t',.str y',.lst a',.str x',.lst c'],[.int n]=>∀s s':a8,isT s k t y a x c->isT s' k' t' y' a' x' c'->(s=s'->n=1)/\(s≠s'->n=0)|_,_=>False
def tC :As->Nat
 | [_,_,_,_,_,.lst c,_,_,_,_,_,_]=>szRs c|_=>0
def cEqu:=mkC "equ" [nV,nV] qW [iV] O4
def xn:=t2Pre
def jz :As->As->Prop
 | [.int k,.str t,.str y,.lst a,.str x,.lst c,.int k',.str t',.str y',.lst a',.str x',.lst c'],[.int n]=>∀s s':a8,isT s k t y a x c->isT s' k' t' y' a' x' c'->(z7 s/\s=s'->n=1)/\(¬(z7 s/\s=s')->n=0)|_,_=>False
def cSam:=mkC "sam" [nV,nV] xn [iV] jz
def tA :As->As->Prop
 | [.lst L,.lst M],[.int i]=>0<=i/\i<=ln L/\ln L=ln M/\L.take i.toNat=M.take i.toNat|_,_=>False
def eaMu:=N0
def yI:=tA
def ecMu:=N0
def yn :Az->List (Nat×(Fm->SS->Z7))
 |36=>[(0,U6 U0 "ea" (U7 [(5,.int .i64)] nob) (gh2 (D3 2 3) (D3 3 3)) tA eaMu),(2,U6 U0 "ec" (U7 [(6,.int .i64)] nob) (gh2 (D3 2 5) (D3 3 5)) yI ecMu)]
 |_=>[]
def xI :Nat->List (Az×Con)
 |0=>[(LVn,cYes "lives")]
 |_=>[(15,cRchk),(36,cEqu),(LVn,cYes "lives")]
def EG (P:Ax):fG:=[]
end Go.D
