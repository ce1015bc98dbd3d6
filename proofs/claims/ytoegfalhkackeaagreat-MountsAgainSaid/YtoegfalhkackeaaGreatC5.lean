/- The DOM: a new node: the condition holds.
  Conditions: none. -/
import Derived.Test.YtoegfalhkackeaaGreatC3
set_option maxRecDepth 100000
set_option linter.all false
noncomputable section
namespace Go.D
open Go Go.Xe Go.Sx
section
variable {D :DM}{S N st S1:Sx.Rows}{fr lv fr1 p k c0 c1 c2 c3 c4 c5 c6 c7:Int}{t x:Str}{K:Nat}
def Gk :w9 (.mk 1 t [] [] [] [])↔v5 t=true:=by simp[w9,J3,AllAs,aG,a9.k,a9.x,a9.t,a9.y,a9.a,a9.c,a9.size,a9.sizes,a9.depth,a9.depths,fV,Asc]
def WF.live (w:WF D K)(h:Rl D.gen D S N fr lv):0<=lv/\lv<=1000:=by obtain⟨T,M,rfl,rfl,h⟩:=h;have:=w.lim;have:=List.countP_le_length (p:=fun s:Sl=>s.used) (l:=D.L);rw[h.lv];omega
def HH (hk:(k=1/\x=[])\/(k=2/\t=[]))(d:¬((k=1/\v5 t=false)\/(k=2/\E8 x=false)))(h0:∃D K,RlC D S N fr lv [c0,c1,c2,c3,c4,c5,c6,c7]/\WF D K)(h1:(fr=0/\S1=S++yC/\fr1=ln S+1)\/(fr≠0/\S1=S/\fr1=fr))(hp:p=fr1-1):0<=p/\p<ln S1/\p<=1000/\gQ (.int k::.str t::.str []::.lst []::.str x::.lst []::JD S fr lv c0 c1 c2 c3 c4 c5 c6 c7 st N) (.int (IntKind.wrap .u32 p)::.int (cI S1 p 0)::.int 0::.lst (i6 (i6 (i6 S1 p 2 (.int 0)) p 1 (.bool true)) p 3 (.int (ln N)))::J10 (cI S1 p 2) (lv+1) (c0+1) (c1+1) c2 c3 c4 c5 c6 c7 [.lst st,.lst (N++d8 10 1 [.int k,.str t,.lst [],.str x,.int 0,.int 0,.bool false,.int 0,.int 0,.lst []])]):=by
 have row:∀G,(d8 10 1 [.int k,.str t,.lst [],.str x,.int 0,.int 0,.bool false,.int 0,.int 0,.lst []]:Sx.Rows)=[((D9 k t x).rn G).row]:=fun G=>rfl;obtain⟨D,K,b,c⟩:=h0;obtain⟨i,e1,e2,e3,e4,e5,j,f,g,h⟩:=b.1.take c h1 (n:=D9 k t x) ⟨rfl,rfl⟩;have a:p=i:=by omega
 refine⟨by omega,by rw[a];simp only[ln];omega,by omega,by rw[row D.gen,a];exact h,fun D K b c=>?_⟩;obtain⟨i,e1,e2,e3,e4,e5,j,f,g,h⟩:=b.1.take c h1 (n:=D9 k t x) ⟨rfl,rfl⟩;have a:p=i:=by omega
 have e:D7 D k t x=(((D.take (D9 k t x)).1.cnt 0).cnt 1,((D.take (D9 k t x)).2:Int),((D.take (D9 k t x)).1.gen (D.take (D9 k t x)).2:Int),0):=by unfold D7;rw[TH d]
 refine⟨⟨?_,?_⟩,?_⟩<;>simp only[e];rw[row D.gen,a];exact(g.cnt 0).cnt 1;show _=(((D.take (D9 k t x)).1.cnt 0).cnt 1).C;unfold DM.cnt;simp only;rw[f,<-b.2];rfl;rw[a,e4,e2,Jb (by simp[IntKind.min,IntKind.signed]) (by simp[IntKind.max,IntKind.signed,IntKind.bits];omega)]
def vcCre_ok :vcCre:=by
 unfold vcCre;intro k t y g x ch S fr lv c0 c1 c2 c3 c4 c5 c6 c7 st N h;obtain⟨rfl,rfl,rfl,hk,hp⟩:=h;have hp':=hp;obtain⟨D,K,⟨c,hc⟩,a⟩:=hp;have d:=c.slen a;have b:=a.live c;have i0:I64 (c0+1):=a.i64 (k:=0) (by rw[<-hc];rfl);have f:I64 (c1+1):=a.i64 (k:=1) (by rw[<-hc];rfl);have hl:ln S<=1000:=by simp only[ln];omega
 have i:0<=ln S:=by simp only[ln];omega
 refine ndi ⟨.mk k t [] [] x [],rfl,rfl,rfl,rfl,rfl,rfl⟩ fun e he=>?_;have he:=(he (.mk k t [] [] x []) ⟨rfl,rfl,rfl,rfl,rfl,rfl⟩).1;have hv:e=0↔ ¬((k=1/\v5 t=false)\/(k=2/\E8 x=false)):=by rw[he];rcases hk with⟨rfl,rfl⟩| ⟨rfl,rfl⟩;rw[Gk];simp;rw[EG];simp
 refine⟨fun e0=>⟨fun f0=>⟨fun big=>by omega,fun _=>?_⟩,fun f0=>?_⟩,fun e0=>nin (nrn (ndt (N9 fun D K j a=>?_)))⟩
 ·obtain⟨h1,h2,h3,h4⟩:=HH (st:=st) (p:=ln S) hk (hv.1 e0) hp' (.inl ⟨f0,rfl,rfl⟩) (by omega);have z:ln S<ln S+1:=by omega
  exact ndi f0 (nin (ndi (by omega) (nrn (ndi (by unfold I64;omega) (ndi (by omega) (ndi z (ndi z (ndi z (ndi z (ndi z (ndi (by unfold I64;omega) (ndi z (ndi i0 (ndi f (nin (nrn (ndt h4)))))))))))))))))
 obtain⟨h1,h2,h3,h4⟩:=HH (st:=st) (p:=fr+ -1) hk (hv.1 e0) hp' (.inr ⟨f0,rfl,rfl⟩) (by omega);exact ndi f0 (ndi (by unfold I64;omega) (ndi (by omega) (ndi h2 (ndi h2 (ndi h2 (ndi h2 (ndi h2 (ndi (by unfold I64;omega) (ndi h2 (ndi i0 (ndi f (nin (nrn (ndt h4))))))))))))));have:(k=1/\v5 t=false)\/(k=2/\E8 x=false):=Classical.byContradiction fun h=>e0 (hv.2 h);unfold D7;rw[TJ this];exact⟨rfl,rfl⟩
end
structure Ed where
 n:Str
 d:Bool
 v:Str
def Ed.row (e:Ed):Ar:=[.str e.n,.bool e.d,.str e.v]
def pP (e:Ed):Bool:=v5 e.n&&E8 e.v&&(!e.d||e.v.isEmpty)
def edA (e:Ed):List Att:=if e.d then []else [⟨e.n,e.v⟩]
def bY :List Att->Ed->List Att
 | [],e=>edA e|a::l,e=>if lt a.n e.n then a::bY l e else if a.n=e.n then edA e++l else edA e++a::l
def bad1 :List Att->Ed->Bool
 | [],e=>e.d|a::l,e=>if lt a.n e.n then bad1 l e else if a.n=e.n then false else e.d
def apF (l:List Att)(e:Ed):List Att×Int:=if bad1 l e then([],11)else if 8<(bY l e).length then([],3)else(bY l e,0)
def gK (l:List Att)(e:Ed)(i k:Int):List Att:=if k=0 then bY (l.drop i.toNat) e else l.drop i.toNat
def jU (l:List Att)(e:Ed)(i k:Int):Bool:=if k=0 then bad1 (l.drop i.toNat) e else false
def vAt (l:List Att):Prop:=l.length<=8/\(∀a∈l,v5 a.n=true/\E8 a.v=true)/\Asc (l.map Att.n)
def FC (a b:Str):Int:=if lt a b then-1 else if a=b then 0 else 1
def FA :Ar->Prop
 | [.str _,.str _]=>True|_=>False
def gP :Ar->Ar->Prop
 | [.str a,.str b],[.int n]=>n=FC a b|_,_=>False
def cCmp:=mkC "cmp" [sV,sV] FA [iV] gP
def AH :Ar->Prop
 | [.lst L]=>∃e:Ed,L=[e.row]
 |_=>False
def gO :Ar->Ar->Prop
 | [.lst L],[.int r]=>∀e:Ed,L=[e.row]->(r=0↔pP e=true)
 |_,_=>False
def cCed:=mkC "ced" [.one (.g (.lst 155))] AH [iV] gO
def Ft :Ar->Prop
 | [.lst L,.lst E]=>∃(l:List Att) (e:Ed),L=l.map Att.row/\E=[e.row]/\vAt l/\pP e=true|_=>False
def gL :Ar->Ar->Prop
 | [.lst L,.lst E],[.lst O,.int r]=>∀(l:List Att) (e:Ed),L=l.map Att.row->E=[e.row]->O=(apF l e).1.map Att.row/\r=(apF l e).2|_,_=>False
def cApp:=mkC "app" [.one (.g (.lst EA)),.one (.g (.lst 155))] Ft [.one (.g (.clp EA)),iV] gL
def capB (t j:Nat)(gs:List G):Fm->SS->Bb (List (Nat×List G)):=fun f _=>match lk f t with
 |some (.fn _ _ cs)=>match cs[j]? with
  |some (.ptr b _ _ _)=>some [(b,gs)]|_=>none
 |_=>none
def xR :Ar->Ar->Prop
 | [.lst L],[.int i]=>0<=i/\i<=L.length/\ ∀e:Ed,L=[e.row]->0<i->pP e=true|_,_=>False
def Fy:=J9
def HF :Ar->Ar->Prop
 | [.lst L],[.int i]=>1<=i|_,_=>False
def cfMu:=J9
def fO :Ar->Ar->Prop
 | [.lst A, .lst B], [.int i, .int k, .lst O, .int r] => 0 ≤ i ∧ i ≤ A.length ∧ 0 ≤ k ∧ k ≤ B.length ∧ ∀ (l : List Att) (e : Ed), A = l.map Att.row → B = [e.row] → ((r = 0 ∧ jU l e i k = bad1 l e) ∨ (r = 11 ∧ bad1 l e = true)) ∧
   ∃o:List Att,O=o.map Att.row/\(o.length:Int)<=i+k/\o++gK l e i k=bY l e
 |_,_=>False
def aW :Ar->Ar->Nat
 | [.lst A,.lst B],.int i:: .int k::_=>((A.length-i)+(B.length-k)).toNat|_,_=>0
def xL :Ay->List (Nat×(Fm->SS->J0))
 |146=>[(0,L4 U0 "ce" (N7 [(8,.int .i64),(4,.any)] nob) (y7 0) xR Fy),(2,L4 U0 "cf" (N7 [(5,.int .i64)] nob) (y7 0) HF cfMu)]
 |178=>[(0,L4 U0 "mg" (N7 [(10,.int .i64),(11,.int .i64)] (bl2 (capB 4 0 [.acc EA 2]) (capB 4 3 [.int .i64]))) (gh2 (y7 0) (y7 1)) fO aW)]
 |f=>bD f
def BT :Nat->List (Ay×Con)
 |0=>[(42,cChk),(LVn,cYes "lives")]
 |_=>[(188,cCmp),(42,cChk),(146,cCed),(LVn,cYes "lives")]
def Gy (_:Nat)(P:Aw):G1:=[]
open Go Go.Xe Go.Sx
def vcCmp :Prop:=
 ∀b a,FA [.str b,.str a]->((b=b->((a=a->((Op.bytesLess b a=true->Nd (gP [.str b,.str a] [.int (-1)]) True)/\(¬Op.bytesLess b a=true->Nd (¬Op.bytesLess b a=true) ((b=a->Nd (gP [.str b,.str a] [.int 0]) True)/\(¬b=a->Nd (gP [.str b,.str a] [.int 1]) True)))))/\(¬a=a->Nd (gP [.str b,.str a] [.int 1]) True)))/\(¬b=b->((a=a->Nd (gP [.str b,.str a] [.int (-1)]) True)/\(¬a=a->Nd (gP [.str b,.str a] [.int 0]) True))))
def vcCmp_eq :kq Go.Proofs.Tryz.prog cCmp xL (BT 0) (Gy 0) 188=vcCmp:=by kernel_rfl
def vcCed :Prop:=
 ∀a,AH [.lst a]->Nd (xR [.lst a] [.int 0]) (∀c,xR [.lst a] [.int c]->((c<ln a->Nb c (ln a) (Cg V4 L3 [.int 1,.str ([97]:Ae),.str [],.lst (d8 2 1 [.str (cS a c 0),.str (cS a c 2)]),.str [],.lst []] fun R=>∀b,R [.int b]->((b=0->((cB a c 1=true->((cS a c 2=([]:Ae)->Nd (I64 (c+1)) (Nd (xR [.lst a] [.int (c+1)])<|Nd (Fy [.lst a] [.int (c+1)]<Fy [.lst a] [.int c]) True))/\(¬cS a c 2=([]:Ae)->Nd (gO [.lst a] [.int 14]) True)))/\(¬cB a c 1=true->Nd (I64 (c+1)) (Nd (xR [.lst a] [.int (c+1)])<|Nd (Fy [.lst a] [.int (c+1)]<Fy [.lst a] [.int c]) True))))/\(¬b=0->Nd (gO [.lst a] [.int 14]) True))))/\(¬c<ln a->Nd (HF [.lst a] [.int 1]) (∀b,HF [.lst a] [.int b]->((b<ln a->Nb b (ln a) (Nd (I64 (b+(-1)))<|Nb (b+(-1)) (ln a)<|(Op.bytesLess (cS a b 0) (cS a (b+(-1)) 0)=true->Nd (gO [.lst a] [.int 16]) True)/\(¬Op.bytesLess (cS a b 0) (cS a (b+(-1)) 0)=true->((cS a b 0=cS a (b+(-1)) 0->Nd (gO [.lst a] [.int 16]) True)/\(¬cS a b 0=cS a (b+(-1)) 0->Nd (I64 (b+1)) (Nd (HF [.lst a] [.int (b+1)])<|Nd (cfMu [.lst a] [.int (b+1)]<cfMu [.lst a] [.int b]) True))))))/\(¬b<ln a->Nd (gO [.lst a] [.int 0]) True))))))
def vcCed_eq :kq Go.Proofs.Tryz.prog cCed xL (BT 0) (Gy 0) 146=vcCed:=by kernel_rfl
def vcApp0 (a:Int)(d b c:Sx.Rows)(f g:Int):Prop:=
 (a<0->Nd (false=true) (Nd ((-1)<ln d)<|Ni (ln b)<|Nd (ln b+1<67108865)<|Nr (ln b)<|Nd (I64 (a+1))<|Nq (ln b+1)<|Nd (fO [.lst d,.lst c] [.int f,.int (a+1),.lst (b++d8 2 1 [.str (cS d (-1) 0),.str (cS d (-1) 1)]),.int g])<|Nd (aW [.lst d,.lst c] [.int f,.int (a+1),.lst (b++d8 2 1 [.str (cS d (-1) 0),.str (cS d (-1) 1)]),.int g]<aW [.lst d,.lst c] [.int f,.int a,.lst b,.int g]) True))/\(¬a<0->Nb a (ln c) ((cB c a 1=true->Nd (I64 (a+1)) (Nq (ln b)<|Nd (fO [.lst d,.lst c] [.int f,.int (a+1),.lst b,.int 11])<|Nd (aW [.lst d,.lst c] [.int f,.int (a+1),.lst b,.int 11]<aW [.lst d,.lst c] [.int f,.int a,.lst b,.int g]) True))/\(¬cB c a 1=true->Nb a (ln c) (Nb a (ln c)<|Ni (ln b)<|Nd (ln b+1<67108865)<|Nr (ln b)<|Nd (I64 (a+1))<|Nq (ln b+1)<|Nd (fO [.lst d,.lst c] [.int f,.int (a+1),.lst (b++d8 2 1 [.str (cS c a 0),.str (cS c a 2)]),.int g])<|Nd (aW [.lst d,.lst c] [.int f,.int (a+1),.lst (b++d8 2 1 [.str (cS c a 0),.str (cS c a 2)]),.int g]<aW [.lst d,.lst c] [.int f,.int a,.lst b,.int g]) True))))
def vcApp1 (a:Int)(b c d:Sx.Rows)(f g:Int):Prop:=
 Nb a (ln b)<|Ni (ln c)<|Nd (ln c+1<67108865)<|Nr (ln c)<|Nd (I64 (a+1))<|Nq (ln c+1)<|Nd (fO [.lst b,.lst d] [.int (a+1),.int f,.lst (c++d8 2 1 [.str (cS b a 0),.str (cS b a 1)]),.int g])<|Nd (aW [.lst b,.lst d] [.int (a+1),.int f,.lst (c++d8 2 1 [.str (cS b a 0),.str (cS b a 1)]),.int g]<aW [.lst b,.lst d] [.int a,.int f,.lst c,.int g]) True
def vcApp2 (b:Int)(f:Sx.Rows)(a:Int)(d c:Sx.Rows)(g:Int):Prop:=
 (b=ln f->vcApp0 a f d c b g)/\(¬b=ln f->((a=ln c->vcApp1 b f d c a g)/\(¬a=ln c->Nb b (ln f) (Nb a (ln c)<|Cg FA gP [.str (cS f b 0),.str (cS c a 0)] fun R=>∀h,R [.int h]->((h<0->vcApp1 b f d c a g)/\(¬h<0->((0<h->vcApp0 a f d c b g)/\(¬0<h->((a<0->Nb b (ln f) (Ni (ln d)<|Nd (ln d+1<67108865)<|Nr (ln d)<|Nd (I64 (b+1))<|Nd (I64 (a+1))<|Nq (ln d+1)<|Nd (fO [.lst f,.lst c] [.int (b+1),.int (a+1),.lst (d++d8 2 1 [.str (cS f b 0),.str (cS f b 1)]),.int g])<|Nd (aW [.lst f,.lst c] [.int (b+1),.int (a+1),.lst (d++d8 2 1 [.str (cS f b 0),.str (cS f b 1)]),.int g]<aW [.lst f,.lst c] [.int b,.int a,.lst d,.int g]) True))/\(¬a<0->Nb a (ln c) ((cB c a 1=true->((b<0->Nd (I64 (b+1)) (Nd (I64 (a+1))<|Nq (ln d)<|Nd (fO [.lst f,.lst c] [.int (b+1),.int (a+1),.lst d,.int 11])<|Nd (aW [.lst f,.lst c] [.int (b+1),.int (a+1),.lst d,.int 11]<aW [.lst f,.lst c] [.int b,.int a,.lst d,.int g]) True))/\(¬b<0->Nd (I64 (b+1)) (Nd (I64 (a+1))<|Nq (ln d)<|Nd (fO [.lst f,.lst c] [.int (b+1),.int (a+1),.lst d,.int g])<|Nd (aW [.lst f,.lst c] [.int (b+1),.int (a+1),.lst d,.int g]<aW [.lst f,.lst c] [.int b,.int a,.lst d,.int g]) True))))/\(¬cB c a 1=true->Nb a (ln c) (Nb a (ln c)<|Ni (ln d)<|Nd (ln d+1<67108865)<|Nr (ln d)<|Nd (I64 (b+1))<|Nd (I64 (a+1))<|Nq (ln d+1)<|Nd (fO [.lst f,.lst c] [.int (b+1),.int (a+1),.lst (d++d8 2 1 [.str (cS c a 0),.str (cS c a 2)]),.int g])<|Nd (aW [.lst f,.lst c] [.int (b+1),.int (a+1),.lst (d++d8 2 1 [.str (cS c a 0),.str (cS c a 2)]),.int g]<aW [.lst f,.lst c] [.int b,.int a,.lst d,.int g]) True)))))))))))))
def vcApp :Prop:=
 ∀a b,Ft [.lst a,.lst b]->Cg V4 L3 [.int 1,.str ([97]:Ae),.str [],.lst a,.str [],.lst []] (fun R=>∀h,R [.int h]->((h=0->Cg AH gO [.lst b] (fun R=>∀i,R [.int i]->((i=0->Nd (fO [.lst a,.lst b] [.int 0,.int 0,.lst [],.int 0]) (∀f g c d,fO [.lst a,.lst b] [.int f,.int g,.lst c,.int d]->((f<ln a->vcApp2 f a g c b d)/\(¬f<ln a->((g<ln b->vcApp2 f a g c b d)/\(¬g<ln b->((d=0->((8<ln c->Nd (gL [.lst a,.lst b] [.lst [],.int 3]) True)/\(¬8<ln c->Nd (d=0) (Nd (¬ln c<0)<|Ni (ln c)<|Nq (ln c)<|Nq (ln c)<|Nd (gL [.lst a,.lst b] [.lst c,.int 0]) True))))/\(¬d=0->Nd (¬d=0) (Nd (gL [.lst a,.lst b] [.lst [],.int d]) True)))))))))/\(¬i=0->Nd (gL [.lst a,.lst b] [.lst [],.int i]) True))))/\(¬h=0->Nd (gL [.lst a,.lst b] [.lst [],.int h]) True)))
def vcApp_eq :kq Go.Proofs.Tryz.prog cApp xL (BT 1) (Gy 1) 148=vcApp:=by kernel_rfl
