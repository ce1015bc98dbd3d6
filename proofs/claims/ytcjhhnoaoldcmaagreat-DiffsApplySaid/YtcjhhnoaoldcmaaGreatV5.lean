/- The reference's children: its contract stands (DiffsApply).
  Conditions: none. -/
import Derived.Test.YtcjhhnoaoldcmaaGreatV4
set_option linter.all false
set_option maxRecDepth 10000
noncomputable section
namespace Go.D
open Go Go.Xe Go.Sx Go.RowKit
open Go.C36 (row)
variable {F:FB}{v:Aw}
def PV.arrs {F':FB}(h:∀i b cs,F i=some b->arr b=some cs->F' i=some b){k:Kd}{d:Dat}(p:PV PR F k v d):PV PR F' k v d:=by
 induction p with
 |int k n=>exact .int k n|bool b=>exact .bool b|str s=>exact .str s|nils e=>exact .nils e|vague e=>exact .vague e|sl e i o c b cs n z rows x hF hb hc hn hz hr hx _ a=>exact .sl e i o c b cs n z rows x (h _ _ _ hF hb) hb hc hn hz hr hx a
def RN.arrs {F':FB}(h:∀i b cs,F i=some b->arr b=some cs->F' i=some b){t:a8}{g:Ad}(p:RN F t g):RN F' t g:=by obtain⟨⟨a,b,c,⟨va,d,e⟩,f⟩,vc,j,k⟩:=p;exact⟨⟨a,b,c,⟨va,d,PV.arrs h e⟩,f⟩,vc,j,PV.arrs h k⟩
theorem GH {F0 G:FB}{hp hp1 hp2:Hp}(hF:FH F0 hp)(a:FH G hp1)(fl:Fle F0 G)(kp:l9 hp hp2)(f:hp2.nx=hp1.nx)(same:∀i,hp1.m.get i≠some .dfr->hp2.m.get i=hp1.m.get i):
  ∃H:FB,Fle F0 H/\(∀q b,H q=some b->G q=some b)/\FH H hp2/\ ∀i b c,G i=some b->arr b=some c->H i=some b:=by
 let H:FB:=fun q=>match F0 q with
  |some b=>some b|none=>match G q with
   |some b=>if(arr b).isSome then some b else none
   |none=>none
 have hH:∀q b,H q=some b->F0 q=some b\/(G q=some b/\(arr b).isSome=true):=fun q b h=>by
  have h:(match F0 q with
   |some b=>some b|none=>match G q with
    |some b=>if(arr b).isSome then some b else none
    |none=>none)=some b:=h
  grind
 refine⟨H,fun q b h=>?_,fun q b h=>?_,fun q b h=>?_,fun q b c h1 h2=>?_⟩
 ·grind
 ·rcases hH q b h with h| ⟨h,_⟩
  ·exact fl q b h
  ·exact h
 ·rcases hH q b h with h| ⟨h,h'⟩
  ·obtain⟨k1,k2⟩:=hF q b h;obtain⟨d,g⟩:=a q b (fl _ _ h);refine⟨?_,by omega⟩;by_cases e:hp1.m.get q=some .dfr
   ·rw[d]at e;rw[e]at k1;rw[e];exact kp.dfr q k2 k1
   ·grind
  ·obtain⟨k1,k2⟩:=a q b h;refine⟨?_,by omega⟩;rwa[same q (fun e=>by rw[k1]at e;cases e;cases h')]
 ·show(match F0 q with
   |some b=>some b|none=>match G q with
    |some b=>if(arr b).isSome then some b else none
    |none=>none)=some b
  cases h0:F0 q with
  |some b'=>have:=fl _ _ h0;grind|none=>grind
section
variable {ov :Aa}{hp0:Hp}{F:FB}{m:a8}{s:Stp}{us vs:Af}
theorem ch_ok (o:Go.Xe.isT (ov chF)=false)(hk:g8 PR U0 ov cRchk 15)(hF:FH F hp0)(hs:StpR F s vs)(hw:s.w=4\/s.w=5\/s.w=6)(l:us.length=6)(p:RN F m (fun q=>us[q]?))(hl:m.c.length<=998):∃(hp':Hp) (ws:Af) (F':FB) (x:a8) (e:Int),A4 PR ov chF [.agg us.toArray,.agg vs.toArray] hp0 (.tuple #[.agg ws.toArray,.int .i64 e]) hp'/\AF F F' hp0 hp'/\ws.length=6/\RN F' x (fun q=>ws[q]?)/\match H2 m s with
   | .ok t=>e=0/\x=t| .error n=>e=n:=by
 obtain⟨tm',hp1,A,d,ws,F',x,e,t4,t5,gr,a,z,nw,fl,fh,fz,y,res⟩:=Gu hk hF hs hw l p hl;obtain⟨hp2,u,i,j,f⟩:=bK (args:=[.agg us.toArray,.agg vs.toArray]) ch_fn rfl o ((show 2+(Go.Proofs.Tryz.f73.ntmps-2)=76 from by kernel_rfl)▸A) (.inr rfl) (fun h2 same=>by
  have k:Go.Proofs.Tryz.f73.results.toList=[.cell 4 tN,.tmp 5]:=rfl;rw[k];have g:h2.m.get (hp0.nx+2)=some (.cells d 6 tN 6):=by grind
  have:=aT (nx:=h2.nx) g rfl (by omega) a;simp only[C8,P6,t4,t5,KC];rw[show B0 PR h2 tN (.pointer (some ⟨hp0.nx+2,0,none⟩))=some (.agg ws.toArray)from this])
 obtain⟨H,k1,k2,k3,r⟩:=GH hF fh fl f i j;exact⟨hp2,ws,H,x,e,u,⟨f,k1,k3,fun q b h=>fz q b (k2 q b h),(nw.leave i j f).old⟩,z,y.arrs r,res⟩
end
theorem len18 {α:Type}{l:List α}(h:l.length=18):∃a b c d e f g i j k m n o p q r s t,l=[a,b,c,d,e,f,g,i,j,k,m,n,o,p,q,r,s,t]:=by
 match l,h with
 | [a,b,c,d,e,f,g,i,j,k,m,n,o,p,q,r,s,t],_=>grind
theorem HB {τ:Tau}{s:Stp}{b0 b1 b2 b3 b4 b5 a0 a1 a2 a3 a4 a5:E}(hs:isS s (b0.toI U0) (b1.toR U0) (b2.den U0).toStr (b3.den U0).toStr (b4.toI U0) (b5.toI U0) (a0.toI U0) (a1.den U0).toStr (a2.den U0).toStr (a3.toR U0) (a4.den U0).toStr (a5.toR U0))(h:VD PR U0 τ F (.agg [.int .i64 b0,.lst 3 b1 false,.str b2,.str b3,.int .i64 b4,.int .i64 b5,.int .u8 a0,.str a1,.str a2,.lst tAt a3 false,.str a4,.lst tN a5 false]) v):∃vs:Af,v= .agg vs.toArray/\StpR F s vs:=by
 obtain⟨e0, -, -, -,b,c,t0,t1,t2,t3,t4,t5⟩:=hs;cases h with
 |agg l xs h1 h2=>
 obtain⟨y0,u,y2,w,x,y,x0,q,r,o,t,p,rfl⟩:=DS (h1.symm);have d:=h2 0 _ _ rfl rfl;have e:=h2 4 _ _ rfl rfl;have f:=h2 5 _ _ rfl rfl;have w0:=h2 6 _ _ rfl rfl;have g:=h2 7 _ _ rfl rfl;have i:=h2 8 _ _ rfl rfl;have j:=h2 9 _ _ rfl rfl;have k:=h2 10 _ _ rfl rfl;have n:=h2 11 _ _ rfl rfl;refine⟨_,rfl,rfl,?_,?_,?_,⟨?_,?_,?_,⟨o,rfl,?_⟩,?_⟩,p,rfl,?_⟩
 ·cases d;rw[<-e0];rfl
 ·cases e;rw[<-b];rfl
 ·cases f;rw[<-c];rfl
 ·cases w0;rw[<-t0];rfl
 ·cases g;rw[<-t1];rfl
 ·cases i;rw[<-t2];rfl
 ·cases j with
  |lst _ _ _ _ a _=>grind
 ·cases k;rw[<-t4];rfl
 ·cases n with
  |lst _ _ _ _ a _=>grind
def IX {ov:Aa}(z:Go.Xe.isT (ov chF)=false)(hk:g8 PR U0 ov cRchk 15):g8 PR U0 ov cRch chF:=by
 intro es a c τ F hp xs hs hx;obtain⟨a0,a1,a2,a3,a4,a5,b0,b1,b2,b3,b4,b5,c0,j,k,l,o,p,rfl⟩:=len18 (a);obtain⟨⟨m,hm,hl⟩,s,d,hw⟩:=c;have hF:FH F hp:=fun q b h=>⟨hs.frz q b h,hs.flt q b h⟩
 obtain⟨J,H,rfl,w0,hx⟩:=VDL.uncons hx;obtain⟨K,I,rfl,E,hx⟩:=VDL.uncons hx;have i:=JR hx.1.symm;subst i;obtain⟨us,rfl,x,y⟩:=uq (a0:= .dat 0 (.int (a0.toI U0))) (a1:= .dat 1 (.str (a1.den U0).toStr)) (a2:= .dat 2 (.str (a2.den U0).toStr)) (a3:= .dat 3 (.lst (a3.toR U0))) (a4:= .dat 4 (.str (a4.den U0).toStr)) (a5:= .dat 5 (.lst (a5.toR U0))) hm w0;obtain⟨vs,rfl,A⟩:=HB (b0:= .dat 6 (.int (b0.toI U0))) (b1:= .dat 7 (.lst (b1.toR U0))) (b2:= .dat 8 (.str (b2.den U0).toStr)) (b3:= .dat 9 (.str (b3.den U0).toStr)) (b4:= .dat 10 (.int (b4.toI U0))) (b5:= .dat 11 (.int (b5.toI U0))) (a0:= .dat 12 (.int (c0.toI U0))) (a1:= .dat 13 (.str (j.den U0).toStr)) (a2:= .dat 14 (.str (k.den U0).toStr)) (a3:= .dat 15 (.lst (l.toR U0))) (a4:= .dat 16 (.str (o.den U0).toStr)) (a5:= .dat 17 (.lst (p.toR U0))) d E;obtain⟨hp',ws,F',r,e,C,cm,G,D,res⟩:=ch_ok z hk hF A hw x y hl;refine zA rfl rfl rfl rfl rfl rfl hs C cm G D (⟨⟨r,rfl,rfl,rfl,rfl,rfl,rfl⟩,fun B s' f g=>?_⟩);have u:=mD hm f;have w:=rc g d;subst u;subst w;cases hr:H2 B s' with
 |ok t=>rw[hr]at res;obtain⟨rfl,rfl⟩:=res;exact⟨rfl,rfl,rfl,rfl,rfl,rfl,rfl⟩
 |error n=>rwa[hr]at res
end Go.D
