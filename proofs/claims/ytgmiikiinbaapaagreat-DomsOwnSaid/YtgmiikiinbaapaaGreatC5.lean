/- The DOM: a new node: the condition holds.
  Conditions: none. -/
import Derived.Test.YtgmiikiinbaapaaGreatC1
set_option maxRecDepth 100000
set_option linter.all false
noncomputable section
namespace Go.D
open Go Go.Xe Go.Sx
section
variable {D :DM}{S N st S1:Sx.Rows}{fr lv fr1 p k c0 c1 c2 c3 c4 c5 c6 c7:Int}{t x:Str}{K:Nat}
def Fi :W0 (.mk 1 t [] [] [] [])↔B1 t=true:=by simp[W0,kG,AllAs,V8,c9.k,c9.x,c9.t,c9.y,c9.a,c9.c,c9.size,c9.sizes,c9.depth,c9.depths,iP,Asc]
def WF.live (w:WF D K)(h:Rl D.gen D S N fr lv):0<=lv/\lv<=1000:=by obtain⟨T,M,rfl,rfl,h⟩:=h;have:=w.lim;have:=List.countP_le_length (p:=fun s:Sl=>s.used) (l:=D.L);rw[h.lv];omega
def GO (hk:(k=1/\x=[])\/(k=2/\t=[]))(d:¬((k=1/\B1 t=false)\/(k=2/\I0 x=false)))(h0:∃D K,RlC D S N fr lv [c0,c1,c2,c3,c4,c5,c6,c7]/\WF D K)(h1:(fr=0/\S1=S++xF/\fr1=ln S+1)\/(fr≠0/\S1=S/\fr1=fr))(hp:p=fr1-1):0<=p/\p<ln S1/\p<=1000/\eI (.int k::.str t::.str []::.lst []::.str x::.lst []::JD S fr lv c0 c1 c2 c3 c4 c5 c6 c7 st N) (.int (IntKind.wrap .u32 p)::.int (cI S1 p 0)::.int 0::.lst (a8 (a8 (a8 S1 p 2 (.int 0)) p 1 (.bool true)) p 3 (.int (ln N)))::J10 (cI S1 p 2) (lv+1) (c0+1) (c1+1) c2 c3 c4 c5 c6 c7 [.lst st,.lst (N++b8 10 1 [.int k,.str t,.lst [],.str x,.int 0,.int 0,.bool false,.int 0,.int 0,.lst []])]):=by
 have row:∀G,(b8 10 1 [.int k,.str t,.lst [],.str x,.int 0,.int 0,.bool false,.int 0,.int 0,.lst []]:Sx.Rows)=[((C2 k t x).rn G).row]:=fun G=>rfl;obtain⟨D,K,b,c⟩:=h0;obtain⟨i,m,f,o,g,q,r,h,j,l⟩:=b.1.take c h1 (n:=C2 k t x) ⟨rfl,rfl⟩;have a:p=i:=by omega
 refine⟨by omega,by rw[a];simp only[ln];omega,by omega,by rw[row D.gen,a];exact l,fun D K b c=>?_⟩;obtain⟨i,m,f,o,g,q,r,h,j,l⟩:=b.1.take c h1 (n:=C2 k t x) ⟨rfl,rfl⟩;have a:p=i:=by omega
 have e:P2 D k t x=(((D.take (C2 k t x)).1.cnt 0).cnt 1,((D.take (C2 k t x)).2:Int),((D.take (C2 k t x)).1.gen (D.take (C2 k t x)).2:Int),0):=by unfold P2;rw[PE d]
 refine⟨⟨?_,?_⟩,?_⟩<;>simp only[e];rw[row D.gen,a];exact(j.cnt 0).cnt 1;show _=(((D.take (C2 k t x)).1.cnt 0).cnt 1).C;unfold DM.cnt;simp only;rw[h,<-b.2];rfl;rw[a,g,f,M9 (by simp[IntKind.min,IntKind.signed]) (by simp[IntKind.max,IntKind.signed,IntKind.bits];omega)]
def vcCre_ok :vcCre:=by
 unfold vcCre;intro k t y g x ch S fr lv c0 c1 c2 c3 c4 c5 c6 c7 st N h;obtain⟨rfl,rfl,rfl,hk,hp⟩:=h;have hp':=hp;obtain⟨D,K,⟨c,hc⟩,a⟩:=hp;have d:=c.slen a;have b:=a.live c;have i0:I64 (c0+1):=a.i64 (k:=0) (by rw[<-hc];rfl);have f:I64 (c1+1):=a.i64 (k:=1) (by rw[<-hc];rfl);have hl:ln S<=1000:=by simp only[ln];omega
 have i:0<=ln S:=by simp only[ln];omega
 refine ndi ⟨.mk k t [] [] x [],rfl,rfl,rfl,rfl,rfl,rfl⟩ fun e he=>?_;have he:=(he (.mk k t [] [] x []) ⟨rfl,rfl,rfl,rfl,rfl,rfl⟩).1;have hv:e=0↔ ¬((k=1/\B1 t=false)\/(k=2/\I0 x=false)):=by rw[he];rcases hk with⟨rfl,rfl⟩| ⟨rfl,rfl⟩;rw[Fi];simp;rw[pS];simp
 refine⟨fun e0=>⟨fun f0=>⟨fun big=>by omega,fun _=>?_⟩,fun f0=>?_⟩,fun e0=>nin (nrn (ndt (C8 fun D K j a=>?_)))⟩
 ·obtain⟨h1,h2,h3,h4⟩:=GO (st:=st) (p:=ln S) hk (hv.1 e0) hp' (.inl ⟨f0,rfl,rfl⟩) (by omega);have z:ln S<ln S+1:=by omega
  exact ndi f0 (nin (ndi (by omega) (nrn (ndi (by unfold I64;omega) (ndi (by omega) (ndi z (ndi z (ndi z (ndi z (ndi z (ndi (by unfold I64;omega) (ndi z (ndi i0 (ndi f (nin (nrn (ndt h4)))))))))))))))))
 obtain⟨h1,h2,h3,h4⟩:=GO (st:=st) (p:=fr+ -1) hk (hv.1 e0) hp' (.inr ⟨f0,rfl,rfl⟩) (by omega);exact ndi f0 (ndi (by unfold I64;omega) (ndi (by omega) (ndi h2 (ndi h2 (ndi h2 (ndi h2 (ndi h2 (ndi (by unfold I64;omega) (ndi h2 (ndi i0 (ndi f (nin (nrn (ndt h4))))))))))))));have:(k=1/\B1 t=false)\/(k=2/\I0 x=false):=Classical.byContradiction fun h=>e0 (hv.2 h);unfold P2;rw[PG this];exact⟨rfl,rfl⟩
end
structure Ed where
 n:Str
 d:Bool
 v:Str
def Ed.row (e:Ed):Ar:=[.str e.n,.bool e.d,.str e.v]
def aC (e:Ed):Bool:=B1 e.n&&I0 e.v&&(!e.d||e.v.isEmpty)
def edA (e:Ed):List Att:=if e.d then []else [⟨e.n,e.v⟩]
def L7 :List Att->Ed->List Att
 | [],e=>edA e|a::l,e=>if lt a.n e.n then a::L7 l e else if a.n=e.n then edA e++l else edA e++a::l
def bad1 :List Att->Ed->Bool
 | [],e=>e.d|a::l,e=>if lt a.n e.n then bad1 l e else if a.n=e.n then false else e.d
def apF (l:List Att)(e:Ed):List Att×Int:=if bad1 l e then([],11)else if 8<(L7 l e).length then([],3)else(L7 l e,0)
def eB (l:List Att)(e:Ed)(i k:Int):List Att:=if k=0 then L7 (l.drop i.toNat) e else l.drop i.toNat
def hE (l:List Att)(e:Ed)(i k:Int):Bool:=if k=0 then bad1 (l.drop i.toNat) e else false
def vAt (l:List Att):Prop:=l.length<=8/\(∀a∈l,B1 a.n=true/\I0 a.v=true)/\Asc (l.map Att.n)
def EH (a b:Str):Int:=if lt a b then-1 else if a=b then 0 else 1
def EG :Ar->Prop
 | [.str _,.str _]=>True|_=>False
def eH :Ar->Ar->Prop
 | [.str a,.str b],[.int n]=>n=EH a b|_,_=>False
def cCmp:=mkC "cmp" [sV,sV] EG [iV] eH
def zI :Ar->Prop
 | [.lst L]=>∃e:Ed,L=[e.row]
 |_=>False
def eF :Ar->Ar->Prop
 | [.lst L],[.int r]=>∀e:Ed,L=[e.row]->(r=0↔aC e=true)
 |_,_=>False
def cCed:=mkC "ced" [.one (.g (.lst 91))] zI [iV] eF
def zC :Ar->Prop
 | [.lst L,.lst E]=>∃(l:List Att) (e:Ed),L=l.map Att.row/\E=[e.row]/\vAt l/\aC e=true|_=>False
def bO :Ar->Ar->Prop
 | [.lst L,.lst E],[.lst O,.int r]=>∀(l:List Att) (e:Ed),L=l.map Att.row->E=[e.row]->O=(apF l e).1.map Att.row/\r=(apF l e).2|_,_=>False
def cApp:=mkC "app" [.one (.g (.lst uY)),.one (.g (.lst 91))] zC [.one (.g (.clp uY)),iV] bO
def capB (t j:Nat)(gs:List G):Fm->SS->Bb (List (Nat×List G)):=fun f _=>match lk f t with
 |some (.fn _ _ cs)=>match cs[j]? with
  |some (.ptr b _ _ _)=>some [(b,gs)]|_=>none
 |_=>none
def wS :Ar->Ar->Prop
 | [.lst L],[.int i]=>0<=i/\i<=L.length/\ ∀e:Ed,L=[e.row]->0<i->aC e=true|_,_=>False
def EF:=A7
def GM :Ar->Ar->Prop
 | [.lst L],[.int i]=>1<=i|_,_=>False
def cfMu:=A7
def dL :Ar->Ar->Prop
 | [.lst A, .lst B], [.int i, .int k, .lst O, .int r] => 0 ≤ i ∧ i ≤ A.length ∧ 0 ≤ k ∧ k ≤ B.length ∧ ∀ (l : List Att) (e : Ed), A = l.map Att.row → B = [e.row] → ((r = 0 ∧ hE l e i k = bad1 l e) ∨ (r = 11 ∧ bad1 l e = true)) ∧
   ∃o:List Att,O=o.map Att.row/\(o.length:Int)<=i+k/\o++eB l e i k=L7 l e
 |_,_=>False
def X7 :Ar->Ar->Nat
 | [.lst A,.lst B],.int i:: .int k::_=>((A.length-i)+(B.length-k)).toNat|_,_=>0
def wN :Ay->List (Nat×(Fm->SS->G5))
 |105=>[(0,D8 U0 "ce" (E6 [(8,.int .i64),(4,.any)] nob) (m9 0) wS EF),(2,D8 U0 "cf" (E6 [(5,.int .i64)] nob) (m9 0) GM cfMu)]
 |145=>[(0,D8 U0 "mg" (E6 [(10,.int .i64),(11,.int .i64)] (bl2 (capB 4 0 [.acc uY 2]) (capB 4 3 [.int .i64]))) (gh2 (m9 0) (m9 1)) dL X7)]
 |f=>T9 f
def Bv :Nat->List (Ay×Con)
 |0=>[(60,cChk),(LVn,cYes "lives")]
 |_=>[(153,cCmp),(60,cChk),(105,cCed),(LVn,cYes "lives")]
def Fw (_:Nat)(P:Aw):E7:=[]
open Go Go.Xe Go.Sx
def vcCmp :Prop:=
 ∀b a,EG [.str b,.str a]->((b=b->((a=a->((Op.bytesLess b a=true->Nd (eH [.str b,.str a] [.int (-1)]) True)/\(¬Op.bytesLess b a=true->Nd (¬Op.bytesLess b a=true) ((b=a->Nd (eH [.str b,.str a] [.int 0]) True)/\(¬b=a->Nd (eH [.str b,.str a] [.int 1]) True)))))/\(¬a=a->Nd (eH [.str b,.str a] [.int 1]) True)))/\(¬b=b->((a=a->Nd (eH [.str b,.str a] [.int (-1)]) True)/\(¬a=a->Nd (eH [.str b,.str a] [.int 0]) True))))
def vcCmp_eq :kq Go.Proofs.Tryz.prog cCmp wN (Bv 0) (Fw 0) 153=vcCmp:=by kernel_rfl
def vcCed :Prop:=
 ∀a,zI [.lst a]->Nd (wS [.lst a] [.int 0]) (∀c,wS [.lst a] [.int c]->((c<ln a->Nb c (ln a) (Cg eG R4 [.int 1,.str ([97]:Ae),.str [],.lst (b8 2 1 [.str (cS a c 0),.str (cS a c 2)]),.str [],.lst []] fun R=>∀b,R [.int b]->((b=0->((cB a c 1=true->((cS a c 2=([]:Ae)->Nd (I64 (c+1)) (Nd (wS [.lst a] [.int (c+1)])<|Nd (EF [.lst a] [.int (c+1)]<EF [.lst a] [.int c]) True))/\(¬cS a c 2=([]:Ae)->Nd (eF [.lst a] [.int 14]) True)))/\(¬cB a c 1=true->Nd (I64 (c+1)) (Nd (wS [.lst a] [.int (c+1)])<|Nd (EF [.lst a] [.int (c+1)]<EF [.lst a] [.int c]) True))))/\(¬b=0->Nd (eF [.lst a] [.int 14]) True))))/\(¬c<ln a->Nd (GM [.lst a] [.int 1]) (∀b,GM [.lst a] [.int b]->((b<ln a->Nb b (ln a) (Nd (I64 (b+(-1)))<|Nb (b+(-1)) (ln a)<|(Op.bytesLess (cS a b 0) (cS a (b+(-1)) 0)=true->Nd (eF [.lst a] [.int 16]) True)/\(¬Op.bytesLess (cS a b 0) (cS a (b+(-1)) 0)=true->((cS a b 0=cS a (b+(-1)) 0->Nd (eF [.lst a] [.int 16]) True)/\(¬cS a b 0=cS a (b+(-1)) 0->Nd (I64 (b+1)) (Nd (GM [.lst a] [.int (b+1)])<|Nd (cfMu [.lst a] [.int (b+1)]<cfMu [.lst a] [.int b]) True))))))/\(¬b<ln a->Nd (eF [.lst a] [.int 0]) True))))))
def vcCed_eq :kq Go.Proofs.Tryz.prog cCed wN (Bv 0) (Fw 0) 105=vcCed:=by kernel_rfl
def vcApp0 (a:Int)(d b c:Sx.Rows)(f g:Int):Prop:=
 (a<0->Nd (false=true) (Nd ((-1)<ln d)<|Ni (ln b)<|Nd (ln b+1<67108865)<|Nr (ln b)<|Nd (I64 (a+1))<|Nq (ln b+1)<|Nd (dL [.lst d,.lst c] [.int f,.int (a+1),.lst (b++b8 2 1 [.str (cS d (-1) 0),.str (cS d (-1) 1)]),.int g])<|Nd (X7 [.lst d,.lst c] [.int f,.int (a+1),.lst (b++b8 2 1 [.str (cS d (-1) 0),.str (cS d (-1) 1)]),.int g]<X7 [.lst d,.lst c] [.int f,.int a,.lst b,.int g]) True))/\(¬a<0->Nb a (ln c) ((cB c a 1=true->Nd (I64 (a+1)) (Nq (ln b)<|Nd (dL [.lst d,.lst c] [.int f,.int (a+1),.lst b,.int 11])<|Nd (X7 [.lst d,.lst c] [.int f,.int (a+1),.lst b,.int 11]<X7 [.lst d,.lst c] [.int f,.int a,.lst b,.int g]) True))/\(¬cB c a 1=true->Nb a (ln c) (Nb a (ln c)<|Ni (ln b)<|Nd (ln b+1<67108865)<|Nr (ln b)<|Nd (I64 (a+1))<|Nq (ln b+1)<|Nd (dL [.lst d,.lst c] [.int f,.int (a+1),.lst (b++b8 2 1 [.str (cS c a 0),.str (cS c a 2)]),.int g])<|Nd (X7 [.lst d,.lst c] [.int f,.int (a+1),.lst (b++b8 2 1 [.str (cS c a 0),.str (cS c a 2)]),.int g]<X7 [.lst d,.lst c] [.int f,.int a,.lst b,.int g]) True))))
def vcApp1 (a:Int)(b c d:Sx.Rows)(f g:Int):Prop:=
 Nb a (ln b)<|Ni (ln c)<|Nd (ln c+1<67108865)<|Nr (ln c)<|Nd (I64 (a+1))<|Nq (ln c+1)<|Nd (dL [.lst b,.lst d] [.int (a+1),.int f,.lst (c++b8 2 1 [.str (cS b a 0),.str (cS b a 1)]),.int g])<|Nd (X7 [.lst b,.lst d] [.int (a+1),.int f,.lst (c++b8 2 1 [.str (cS b a 0),.str (cS b a 1)]),.int g]<X7 [.lst b,.lst d] [.int a,.int f,.lst c,.int g]) True
def vcApp2 (b:Int)(f:Sx.Rows)(a:Int)(d c:Sx.Rows)(g:Int):Prop:=
 (b=ln f->vcApp0 a f d c b g)/\(¬b=ln f->((a=ln c->vcApp1 b f d c a g)/\(¬a=ln c->Nb b (ln f) (Nb a (ln c)<|Cg EG eH [.str (cS f b 0),.str (cS c a 0)] fun R=>∀h,R [.int h]->((h<0->vcApp1 b f d c a g)/\(¬h<0->((0<h->vcApp0 a f d c b g)/\(¬0<h->((a<0->Nb b (ln f) (Ni (ln d)<|Nd (ln d+1<67108865)<|Nr (ln d)<|Nd (I64 (b+1))<|Nd (I64 (a+1))<|Nq (ln d+1)<|Nd (dL [.lst f,.lst c] [.int (b+1),.int (a+1),.lst (d++b8 2 1 [.str (cS f b 0),.str (cS f b 1)]),.int g])<|Nd (X7 [.lst f,.lst c] [.int (b+1),.int (a+1),.lst (d++b8 2 1 [.str (cS f b 0),.str (cS f b 1)]),.int g]<X7 [.lst f,.lst c] [.int b,.int a,.lst d,.int g]) True))/\(¬a<0->Nb a (ln c) ((cB c a 1=true->((b<0->Nd (I64 (b+1)) (Nd (I64 (a+1))<|Nq (ln d)<|Nd (dL [.lst f,.lst c] [.int (b+1),.int (a+1),.lst d,.int 11])<|Nd (X7 [.lst f,.lst c] [.int (b+1),.int (a+1),.lst d,.int 11]<X7 [.lst f,.lst c] [.int b,.int a,.lst d,.int g]) True))/\(¬b<0->Nd (I64 (b+1)) (Nd (I64 (a+1))<|Nq (ln d)<|Nd (dL [.lst f,.lst c] [.int (b+1),.int (a+1),.lst d,.int g])<|Nd (X7 [.lst f,.lst c] [.int (b+1),.int (a+1),.lst d,.int g]<X7 [.lst f,.lst c] [.int b,.int a,.lst d,.int g]) True))))/\(¬cB c a 1=true->Nb a (ln c) (Nb a (ln c)<|Ni (ln d)<|Nd (ln d+1<67108865)<|Nr (ln d)<|Nd (I64 (b+1))<|Nd (I64 (a+1))<|Nq (ln d+1)<|Nd (dL [.lst f,.lst c] [.int (b+1),.int (a+1),.lst (d++b8 2 1 [.str (cS c a 0),.str (cS c a 2)]),.int g])<|Nd (X7 [.lst f,.lst c] [.int (b+1),.int (a+1),.lst (d++b8 2 1 [.str (cS c a 0),.str (cS c a 2)]),.int g]<X7 [.lst f,.lst c] [.int b,.int a,.lst d,.int g]) True)))))))))))))
def vcApp :Prop:=
 ∀a b,zC [.lst a,.lst b]->Cg eG R4 [.int 1,.str ([97]:Ae),.str [],.lst a,.str [],.lst []] (fun R=>∀h,R [.int h]->((h=0->Cg zI eF [.lst b] (fun R=>∀i,R [.int i]->((i=0->Nd (dL [.lst a,.lst b] [.int 0,.int 0,.lst [],.int 0]) (∀f g c d,dL [.lst a,.lst b] [.int f,.int g,.lst c,.int d]->((f<ln a->vcApp2 f a g c b d)/\(¬f<ln a->((g<ln b->vcApp2 f a g c b d)/\(¬g<ln b->((d=0->((8<ln c->Nd (bO [.lst a,.lst b] [.lst [],.int 3]) True)/\(¬8<ln c->Nd (d=0) (Nd (¬ln c<0)<|Ni (ln c)<|Nq (ln c)<|Nq (ln c)<|Nd (bO [.lst a,.lst b] [.lst c,.int 0]) True))))/\(¬d=0->Nd (¬d=0) (Nd (bO [.lst a,.lst b] [.lst [],.int d]) True)))))))))/\(¬i=0->Nd (bO [.lst a,.lst b] [.lst [],.int i]) True))))/\(¬h=0->Nd (bO [.lst a,.lst b] [.lst [],.int h]) True)))
def vcApp_eq :kq Go.Proofs.Tryz.prog cApp wN (Bv 1) (Fw 1) 107=vcApp:=by kernel_rfl
