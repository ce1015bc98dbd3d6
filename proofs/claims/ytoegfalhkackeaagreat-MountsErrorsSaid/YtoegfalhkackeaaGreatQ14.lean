/- Mounts: Cost's contract stands.
  Conditions: none. -/
import Derived.Test.YtoegfalhkackeaaGreatQ13
set_option maxRecDepth 100000
set_option linter.all false
noncomputable section
namespace Go.D
open Go Go.Xe Go.Sx
section
variable {τ :Tau}{F:FB}{s:SS}{bl:Ah}
def X9 {k:IntKind}{e:E}:LOK PR U0 bl τ F s (.g (.int k)) (.int k e) (some e,none):=by refine⟨fun so h=>⟨e,rfl⟩,fun h=>(by cases h),fun _=>rfl,fun u b τ2 num nb d _ a _=>?_,fun h=>absurd rfl h⟩;have h:e.toI U0=d.toI U0:=a e .i rfl rfl;cases b;rw[h];exact .int _ _
end
def len9 {α:Type}{l:List α}(h:l.length=9):∃a b c d e f g i j,l=[a,b,c,d,e,f,g,i,j]:=by
 match l,h with
 | [a,b,c,d,e,f,g,i,j],_=>exact⟨a,b,c,d,e,f,g,i,j,rfl⟩
variable {ov :Aa}
def Qd (n:Xe.isT (ov cF)=false)(o:Xe.isT (ov aF)=false)(p:Xe.isT (ov aG)=false)(hk:p9 PR U0 ov cCnt nF):RRO PR U0 ov cCos cF:=by
 intro es m k τ F hp xs hs hx;obtain⟨a0,a1,a2,a3,a4,a5,rfl⟩:=len6 (show es.length=6 from m);have k:qN [.int (a0.toI U0),.str (a1.den U0).toStr,.str (a2.den U0).toStr,.lst (a3.toR U0),.str (a4.den U0).toStr,.lst (a5.toR U0)]:=k;obtain⟨s,hs1⟩:=k;have hs:SD PR U0 τ F ⟨[],0,[],6,[]⟩ hp:=hs;have hF:FH F hp:=fun q b h=>⟨hs.frz q b h,hs.flt q b h⟩
 obtain⟨W,v,rfl,w0,hx⟩:=VDL.uncons hx;have u:v=[]:=QP hx.1.symm;subst u;obtain⟨vs,rfl,O,P⟩:=Lv (a0:= .dat 0 (.int (a0.toI U0))) (a1:= .dat 1 (.str (a1.den U0).toStr)) (a2:= .dat 2 (.str (a2.den U0).toStr)) (a3:= .dat 3 (.lst (a3.toR U0))) (a4:= .dat 4 (.str (a4.den U0).toStr)) (a5:= .dat 5 (.lst (a5.toR U0))) hs1 w0;obtain⟨hp',a,b,c,d,e,f,g,z,r,S,T,w,U,V⟩:=Kw n o p hk hF O P;have l:FH F hp':=fun q b h=>by obtain⟨k1,k2⟩:=hF q b h;exact⟨by rw[w q k2];exact k1,by omega⟩
 refine⟨_,F,hp',[.dat 0 (.int a),.dat 1 (.int b),.dat 2 (.int c),.dat 3 (.int d),.dat 4 (.int e),.dat 5 (.int f),.dat 6 (.int g),.dat 7 (.int z),.dat 8 (.int r)],fun _=>none,⟨[],0,[],0,[]⟩,
  [.int .i64 (.dat 0 (.int a)),.int .i64 (.dat 1 (.int b)),.int .i64 (.dat 2 (.int c)),.int .i64 (.dat 3 (.int d)),.int .i64 (.dat 4 (.int e)),.int .i64 (.dat 5 (.int f)),.int .i64 (.dat 6 (.int g)),.int .i64 (.dat 7 (.int z)),.int .i64 (.dat 8 (.int r))],
  [i64 a,i64 b,i64 c,i64 d,i64 e,i64 f,i64 g,i64 z,i64 r],[],S,T,fun _ _ h=>h,fun i y h=>l i y h,w,fun i y _ h=>h,rfl,?_,SD.empty l 0,?_,?_,fun b hb=>by simp at hb,rfl,rfl,?_⟩
 ·show EM [.int (a0.toI U0),.str (a1.den U0).toStr,.str (a2.den U0).toStr,.lst (a3.toR U0),.str (a4.den U0).toStr,.lst (a5.toR U0)] [.int a,.int b,.int c,.int d,.int e,.int f,.int g,.int z,.int r];intro s' t;have es:s'=s:=by obtain⟨e0,A,B,C,D,E⟩:=hs1;obtain⟨k0,k1,k2,k3,Q,R⟩:=t;exact vH (k0.symm.trans e0) (k1.symm.trans A) (k2.symm.trans B) (bG (k3.symm.trans C)) (Q.symm.trans D) (iJ.mp (R.symm.trans E))
  rw[es];exact⟨U,V⟩
 exact⟨_,_,[],rfl,rfl,X9,_,_,[],rfl,rfl,X9,_,_,[],rfl,rfl,X9,_,_,[],rfl,rfl,X9,_,_,[],rfl,rfl,X9,_,_,[],rfl,rfl,X9,_,_,[],rfl,rfl,X9,_,_,[],rfl,rfl,X9,_,_,[],rfl,rfl,X9,rfl,rfl⟩;exact .cons (.int _ _) (.cons (.int _ _) (.cons (.int _ _) (.cons (.int _ _) (.cons (.int _ _) (.cons (.int _ _) (.cons (.int _ _) (.cons (.int _ _) (.cons (.int _ _) TY))))))))
 ·intro τ2 N hg;obtain⟨g0,G,H,I,J,K,L,M,g8,rfl⟩:=len9 (show N.length=9 from hg.1);refine .tup [.agg [g0,G,H,I,J,K,L,M],g8] [_,_] rfl fun i a x j hx=>?_
  match i,j,hx with
  |0,j,hx=>
   cases j;cases hx;refine .agg _ _ rfl fun i a x j hx=>?_
   match i,j,hx with
   |0,j,hx=>exact hg.2 0 a x j hx|1,j,hx=>exact hg.2 1 a x j hx|2,j,hx=>exact hg.2 2 a x j hx|3,j,hx=>exact hg.2 3 a x j hx|4,j,hx=>exact hg.2 4 a x j hx|5,j,hx=>exact hg.2 5 a x j hx|6,j,hx=>exact hg.2 6 a x j hx|7,j,hx=>exact hg.2 7 a x j hx|i+8,j,hx=>simp at hx
  |1,j,hx=>exact hg.2 8 a x j hx|i+2,j,hx=>simp at hx
end Go.D
namespace Go.D
open Go Go.Xe Go.Sx Go.RowKit
open Go.Proofs
def kT :List Kd:=[.int .u8,.str,.str,.sl 101,.str,.sl 30]
def nE :kf PR 30=kT:=by kernel_rfl
def Kh :kf PR 101=[.str,.str]:=by kernel_rfl
def MC :Fb PR 30=true:=by kernel_rfl
def sQ :kf PR 34=[.int .u32,.int .u32]:=by kernel_rfl
def KJ :Fb PR 34=true:=by kernel_rfl
def HU :GH PR fun kd=>inL [101,30] kd=true:=No (by kernel_rfl)
variable {P:Aw}{d:Dat}
def aU (h:DW P .str d):∃s,d= .str s:=by
 cases h with
 |str s _=>exact⟨s,rfl⟩
def GX {k:IntKind}(h:DW P (.int k) d):∃n,d= .int n:=by
 cases h with
 |int k n _=>exact⟨n,rfl⟩
def GY (h:DW P (.int .u32) d):∃n,d= .int n/\U32 n:=by
 cases h with
 |int k n hn=>refine⟨n,rfl,?_⟩;have h1:IntKind.u32.min=0:=rfl;have h2:IntKind.u32.max=4294967295:=rfl;have:=hn.1;have:=hn.2;unfold U32;omega
def GW (h:DW PR (.sl 101) d):∃a:List Att,d= .lst (a.map Att.row):=by
 cases h with
 |sl _ rows hl hz hh=>
  obtain⟨L,_,rfl⟩:=qH Att.row (fun _=>True) (rows:=rows) fun r hr=>by
   have h3:=hz r hr;rw[Kh]at h3 hh;obtain⟨i,hi⟩:=RR.1 hr
   match r,h3,hi with
   | [a,b],_,hi=>obtain⟨x,rfl⟩:=aU (hh i 0 _ .str a hi rfl rfl);obtain⟨y,rfl⟩:=aU (hh i 1 _ .str b hi rfl rfl);exact⟨⟨x,y⟩,trivial,rfl⟩
  exact⟨L,rfl⟩
def Nj {kd:Kd}(h:DW PR kd d):kd= .sl 30-> ∃l:List a9,d= .lst (rows l):=by
 induction h with
 |sl e j hl hz hh g=>
  intro e0;cases e0;rw[nE]at hz hh g;obtain⟨L,_,rfl⟩:=qH a9.row (fun _=>True) (rows:=j) fun r hr=>by
   have h3:=hz r hr;obtain⟨i,hi⟩:=RR.1 hr
   match r,h3,hi with
   | [a,b,c,d,e,f],_,hi=>obtain⟨k,rfl⟩:=GX (hh i 0 _ (.int .u8) a hi rfl rfl);obtain⟨t,rfl⟩:=aU (hh i 1 _ .str b hi rfl rfl);obtain⟨y,rfl⟩:=aU (hh i 2 _ .str c hi rfl rfl);obtain⟨a,rfl⟩:=GW (hh i 3 _ _ d hi rfl rfl);obtain⟨x,rfl⟩:=aU (hh i 4 _ .str e hi rfl rfl);obtain⟨l,rfl⟩:=g i 5 _ _ f hi rfl rfl rfl;exact⟨.mk k t y a x l,trivial,(O2 (.mk k t y a x l)).symm⟩
  exact⟨L,rfl⟩
 |_=>intro h;cases h
def HT (k:Int)(t y:Str)(a:Av)(x:Str)(c:Av):Af:=[.int .u8 k,.string ⟨t.toArray⟩,.string ⟨y.toArray⟩,a,.string ⟨x.toArray⟩,c]
def tSvs (n:Nat)(s:a9):As:=[.int .u8 (.dat n (.int s.k)),.str (.dat (n+1) (.str s.t)),.str (.dat (n+2) (.str s.y)),.lst 101 (.dat (n+3) (.lst (s.a.map Att.row))) false,.str (.dat (n+4) (.str s.x)),.lst 30 (.dat (n+5) (.lst (rows s.c))) false]
variable {w:Bc}{spare:Nat->Bool}{held:Bool}{v:Av}{ps:List MemPlace}{fs:Array Field}{r:Reach}{b:Nat}
def arg_T {H:Type}{enc:Ax×Av->H}{d:DataW H}(ht:PR.underlying 30=some (.struct fs))(hv:Value.okWide PR w r b 30 v)(h:DataW.Trod enc PR w 0 spare held 30 v d ps):∃(x:Av) (s:a9),VR (Be w) x v/\ ∀n,VD PR U0 (fun _=>none) (roF w) (.agg (tSvs n s)) x:=by
 obtain⟨xs,rfl,hx⟩:=Go.WideShapes.okWide_struct ht hv;have f:=Cj HU h MC (by rw[nE];decide);rw[nE]at f;obtain⟨W,Q,e0,b0,r0,q,C⟩:=f 0 _ rfl;obtain⟨X,R,j,N,r1,p1,D⟩:=f 1 _ rfl;obtain⟨Y,S,l,b2,J,p2,E⟩:=f 2 _ rfl;obtain⟨Z,T,m,g,K,u,F⟩:=f 3 _ rfl;obtain⟨v4,U,o,O,L,A,G⟩:=f 4 _ rfl;obtain⟨v5,V,p,b5,M,B,I⟩:=f 5 _ rfl;obtain⟨k,rfl⟩:=GX C;obtain⟨t,rfl⟩:=aU D;obtain⟨y,rfl⟩:=aU E;obtain⟨a,rfl⟩:=GW F;obtain⟨z,rfl⟩:=aU G;obtain⟨c,rfl⟩:=Nj I rfl;cases q;cases p1;cases p2;cases A;have hs:xs.size=6:=by rw[hx,(mJ MC).1,nE];rfl
 refine⟨.agg (HT k t y g z b5).toArray,.mk k t y a z c,?_,fun n=>?_⟩
 ·refine .agg _ _ (by rw[hs];rfl) fun i x y' e hy=>?_;have e:(HT k t y g z b5)[i]? =some x:=by simpa using e
  match i,e,hy with
  |0,e,hy=>cases e;rw[hy]at e0;cases e0;exact W9 r0
  |1,e,hy=>cases e;rw[hy]at j;cases j;exact W9 r1
  |2,e,hy=>cases e;rw[hy]at l;cases l;exact W9 J
  |3,e,hy=>cases e;rw[hy]at m;cases m;exact W9 K
  |4,e,hy=>cases e;rw[hy]at o;cases o;exact W9 L
  |5,e,hy=>cases e;rw[hy]at p;cases p;exact W9 M
  |i+6,e,hy=>simp[HT]at e
 ·have hv:VDL PR U0 (fun _=>none) (roF w) (tSvs n (.mk k t y a z c)) (HT k t y g z b5):=
   TX (.int .u8 (.dat n (.int k))) (TX (.str (.dat (n+1) (.str t))) (TX (.str (.dat (n+2) (.str y))) (TX (.lst _ (.dat (n+3) (.lst (a.map Att.row))) false g u (fun h=>by cases h)) (TX (.str (.dat (n+4) (.str z))) (TX (.lst _ (.dat (n+5) (.lst (rows c))) false b5 B (fun h=>by cases h)) TY)))))
  exact hv.agg
def arg_H {H:Type}{enc:Ax×Av->H}{d:DataW H}(ht:PR.underlying 34=some (.struct fs))(hv:Value.okWide PR w r b 34 v)(h:DataW.Trod enc PR w 0 spare held 34 v d ps):∃(x:Av) (i g:Int),U32 i/\U32 g/\VR (Be w) x v/\ ∀n,VD PR U0 (fun _=>none) (roF w) (.agg [.int .u32 (.dat n (.int i)),.int .u32 (.dat (n+1) (.int g))]) x:=by
 obtain⟨xs,rfl,hx⟩:=Go.WideShapes.okWide_struct ht hv;have c:=Cj HU h KJ (by rw[sQ];decide);rw[sQ]at c;obtain⟨t,q,e0,b0,r0,f,k⟩:=c 0 _ rfl;obtain⟨u,s,e,p,r1,p1,l⟩:=c 1 _ rfl;obtain⟨i,rfl,o⟩:=GY k;obtain⟨g,rfl,m⟩:=GY l;cases f;cases p1;have hs:xs.size=2:=by rw[hx,(mJ KJ).1,sQ];rfl
 refine⟨.agg [Value.int .u32 i,.int .u32 g].toArray,i,g,o,m,?_,fun n=>?_⟩
 ·refine .agg _ _ (by rw[hs];rfl) fun j x y a hy=>?_;have a: [Value.int .u32 i,.int .u32 g][j]? =some x:=by simpa using a
  match j,a,hy with
  |0,a,hy=>cases a;rw[hy]at e0;cases e0;exact W9 r0
  |1,a,hy=>cases a;rw[hy]at e;cases e;exact W9 r1
  |j+2,a,hy=>simp at a
 have hv:VDL PR U0 (fun _=>none) (roF w) [.int .u32 (.dat n (.int i)),.int .u32 (.dat (n+1) (.int g))] [.int .u32 i,.int .u32 g]:=TX (.int .u32 (.dat n (.int i))) (TX (.int .u32 (.dat (n+1) (.int g))) TY);exact hv.agg
def g_cnt :p9 PR U0 LV cCnt nF:=t7 JY (show P7 PR U0 LV (HP 0)from stA3) noX 400 vcCnt_eq vcCnt_ok (G2 rfl)
def CR {d e:Ar}(h:w9 d e):∃r,e= .bool true::r:=by unfold w9 at h;split at h;exact⟨_,by rw[h]⟩;exact h.elim
def mer_walk {H:Type}{enc:Ax×Av->H}{W:Bc}{w:Av}{d e:DataW H}{m:List MemPlace}(hm:PR.follows .mixedOrders=true){f:Array Field}(ht:PR.underlying 30=some (.struct fs))(j:PR.underlying 34=some (.struct f))(hv:Value.okWide PR W r b 30 v)(l:Value.okWide PR W r b 34 w)(h:DataW.Trod enc PR W 0 spare held 30 v d ps)(k:DataW.Trod enc PR W 0 spare held 34 w e m):Calls PR 4 #[v,w] W fun e w'=>e= .returned (.bool true)/\Below W.heap.size W w':=by obtain⟨x,s,h2,h3⟩:=arg_T ht hv h;obtain⟨y,i,g,o,n,k2,k3⟩:=arg_H j l k;exact Fa hm (LV_ok hm) (g_mer (Qd rfl rfl rfl g_cnt)) rfl (fun d e h=>CR h) (es:=[.dat 0 (.int s.k),.dat 1 (.str s.t),.dat 2 (.str s.y),.dat 3 (.lst (s.a.map Att.row)),.dat 4 (.str s.x),.dat 5 (.lst (rows s.c)),.dat 6 (.int i),.dat 7 (.int g),.dat 8 (.lst [])]) rfl ⟨rfl,⟨s,rfl,rfl,rfl,rfl,rfl,rfl⟩,o,n⟩ (R:= .dat 8 (.lst [])) rfl rfl (xs:=[x,y]) (ys:=[v,w]) (TX (h3 0) (TX (k3 6) TY)) (Ub h2 (Ub k2 (Uc _)))
