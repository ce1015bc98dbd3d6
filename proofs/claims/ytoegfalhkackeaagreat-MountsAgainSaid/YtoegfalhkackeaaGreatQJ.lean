/- Mounts: handles are collected (slices.AppendSeq): its regions, by hand.
  Conditions: none. -/
import Derived.Test.YtoegfalhkackeaaGreatQ6
set_option maxRecDepth 10000
set_option linter.all false
noncomputable section
namespace Go.D
open Go Go.Xe Go.Sx
abbrev sF :Ay:=100
def Nx :H9 PR sF=Go.Proofs.Tryz.f100.body.getD .skip:=by kernel_rfl
def s_fn :PR.funcs[sF]? =some Go.Proofs.Tryz.f100:=by kernel_rfl
def s_ok :gA Go.Proofs.Tryz.f100=true:=by kernel_rfl
def Rn :Nat.beq tHs rgT=false:=by kernel_rfl
noncomputable def niHs :Ba:=(PR.info? tHs).getD default
def Pr :PR.info? tHs=some niHs:=by kernel_rfl
def JT :niHs.size=1:=by kernel_rfl
def MM :Nat.ble niH.bytes 1048576=true:=by kernel_rfl
def QR :niH.zero=some zH:=by kernel_rfl
section
variable {ov :Aa}{hp hp1 hp':Hp}{tm:Ao}{x y t i o n e z b:Nat}{cs:Ao}{vs ws:Af}{v a u:Av}{Q:Ao->Hp->Prop}{ar:Ai}
variable {q:Aq}{c:Nat}
def st_Hs {l:Nat}(h:hp.m.get i=some (.cells cs n e z))(hn:o+1<=n):E0 PR hp tHs (.pointer (some ⟨i,o,none⟩)) (.slice q l c)=some {hp with m:=hp.m.set i (some (.cells (fill cs o [.slice q l c]) n e z))}:=by have:(Value.slice q l c).cells.toList=[.slice q l c]:=rfl;have h2: [Value.slice q l c].all Value.oneCell'=true:=rfl;simp only[E0,h,Pr,JT,this,Ue,Vh,TT,t9,Ts hn,h2,Bool.and_self,TE,H3]
theorem Tc (hx:tm.get x=some (.agg ws.toArray))(h2:ws.length=2)(call:i8):xop PR call tm hp (.buildSlice tHs 1 #[(0,.tmp x)])=some (.slice (some ⟨hp.nx,0,none⟩) 1 1,⟨hp.m.set hp.nx (some (.cells (fill .e 0 ws) 2 tHn 2)),hp.nx+1⟩):=by
 have h1:(Value.agg ws.toArray).cells.toList=ws:=rfl;have h3:splice (xrep 1 zH.cells.toList) 0 ws=ws:=by
  refine List.ext_getElem? fun j=>?_;have d:(xrep 1 zH.cells.toList).length=2:=by rw[Xe.xrep_length,qS]
  simp only[splice,List.take_zero,List.nil_append,TT];grind
 have h4:Nat.ble (0*2+2) (xrep 1 zH.cells.toList).length=true:=by rw[Xe.xrep_length,qS];rfl
 simp only[c8,j5,aT,c9,hx,Ud,xnw,Hi,wA,pM,QZ,dH,qS,t9,Bool.and_self];rw[show Nat.ble 1 16777216=true from rfl,show Nat.ble (1*2) 16777216=true from rfl];simp only[Bool.and_self,TE,kR,h1,h2,t9,h4];rw[UU,h3];simp only[L8,Hp.add,Nw.val,I5,h2]
def Tb {w:Av}{d:Array Ax}(ht:d.toList=[tHs,tHs])(hx:tm.get x=some w)(hy:tm.get y=some u)(h:y9 PR hp .append [tHs,tHs] [w,u]=some (v,hp'))(call:i8):xop PR call tm hp (.call ⟨.builtin .append,#[.tmp x,.tmp y],d⟩)=some (v,hp'):=by simp only[c8,j5,Y8,c9,hx,hy,Ud,ht,h]
def Jg (call:i8):xop PR call tm hp (.assign (.const (.slice none 0 0)))=some (.slice none 0 0,hp):=by have h:cst (.slice none 0 0)=true:=rfl;simp only[c8,j5,c9,h,TE,i7]
def SlK (hp:FB)(v:Av)(k:Nat)(us:Af)(q:Ai):Prop:=(k=0/\v= .slice none 0 0/\us=[]/\q=none)\/(1<=k/\ ∃(r:Nat) (c:Ao),v= .slice (some ⟨r,0,none⟩) k (d9 k 0)/\hp r=some (.cells c (k*2) tHn 2)/\j9 c 0 (k*2)=some us/\q=some r)
variable {k:Nat}{us:Af}
def SlK.len {g:FB}{q:Ai}(h:SlK g v k us q):∃p c,v= .slice p k c:=by rcases h with⟨rfl,rfl,_⟩| ⟨_,r,c,rfl,_⟩;exact⟨_,_,rfl⟩;exact⟨_,_,rfl⟩
def Dr {c:Ao}{ws:Af}(h:j9 c 0 k=some us):j9 (fill c k ws) 0 (k+ws.length)=some (us++ws):=by obtain⟨hl,hg⟩:=l9 h;have:=B3 (c:=fill c k ws) (vs:=us++ws) (o:=0) (fun q hq=>by rw[TT,j8];by_cases hk:q<k;rw[TH (by omega),Tu (by omega)];have:=hg q hk;rw[TT]at this;exact this.symm;rw[TO]at hq;rw[TJ ⟨by omega,by omega⟩,Tt (by omega)];congr 1;omega);rwa[TO,hl]at this
def appH {q:Ai}(h:SlK hp.m.get v k us q)(hk:k<=1000000)(hc:hp.m.get c=some (.cells (fill .e 0 ws) 2 tHn 2))(h2:ws.length=2)(B:ws.all Value.oneCell'=true)(hq:∀r,q=some r->r<hp.nx):∃v' hp',y9 PR hp .append [tHs,tHs] [v,.slice (some ⟨c,0,none⟩) 1 1]=some (v',hp')/\hp'.nx=hp.nx+1/\SlK hp'.m.get v' (k+1) (us++ws) (some hp.nx)/\(∀b,b<hp.nx->q≠some b->hp'.m.get b=hp.m.get b)/\ ∀b,q=some b->hp'.m.get b=none:=by
 have hf:z7 hp 2 (.slice (some ⟨c,0,none⟩) 1 1)=some (1,ws):=by simp only[z7,hc,rdC];rw[show Nat.ble (0+1*2) 2=true from rfl,Nat.one_mul,iX h2];rfl
 have hz:Nat.beq 2 2=true:=rfl;rcases h with⟨rfl,rfl,rfl,rfl⟩| ⟨k1,r,d,rfl,hr,hl,rfl⟩;refine⟨.slice (some ⟨hp.nx,0,none⟩) 1 (d9 1 0),hp.new ws tHn 2,?_,rfl,.inr ⟨by omega,hp.nx,fill .e 0 ws,rfl,?_,?_,rfl⟩,fun b hb _=>?_,fun b hb=>by cases hb⟩;simp only[y9,E1,wA,pM,QR,qS,dH,MM,hz,Bool.and_self,TE,hf];rfl;show(hp.m.set hp.nx _).get hp.nx=_;rw[VX,TJ rfl,h2];rw[List.nil_append];exact iX h2;show(hp.m.set hp.nx _).get b=_;rw[VX,TH (by omega)]
 ·have C:=hq r rfl;refine⟨.slice (some ⟨hp.nx,0,none⟩) (k+1) (d9 (k+1) 0),⟨(hp.m.set r none).set hp.nx (some (.cells (fill d (k*2) ws) ((k+1)*2) tHn 2)),hp.nx+1⟩,?_,rfl,.inr ⟨by omega,hp.nx,fill d (k*2) ws,rfl,?_,?_,rfl⟩,fun b hb f=>?_,fun b hb=>?_⟩
  ·have g:Nat.ble (k+1) 67108864=true:=Ts (by omega);have j:Nat.beq 1 0=false:=rfl;have c3:Nat.ble unk (d9 k 0)=true:=Ts (p8 _ _);have l:Nat.ble 1 (F5 (d9 k 0))=false:=by rw[G8 F9];rfl
   have p:Nat.ble (0+k*2) (k*2)=true:=Ts (by omega);have s:Nat.ble (k+1) (P4 (d9 k 0))=false:=by
    rw[I1 F9];cases h:Nat.ble (k+1) k with
    |false=>rfl|true=>have:=To h;omega
   have w:Nat.beq tHn tHn=true:=rfl;have A:Nat.beq 0 0=true:=rfl;simp only[y9,E1,wA,pM,QR,qS,dH,MM,hz,Bool.and_self,TE,hf,hr,g,B,j,TF,c3,l,Bool.false_and,w,p,s,hl,A,VV]
  show((hp.m.set r none).set hp.nx _).get hp.nx=_;rw[VX,TJ rfl];rw[show(k+1)*2=k*2+ws.length by omega];exact Dr hl;show((hp.m.set r none).set hp.nx _).get b=_;rw[VX,TH (by omega),VX,TH (by rintro rfl;exact f rfl)];cases hb;show((hp.m.set r none).set hp.nx _).get r=_;rw[VX,TH (by omega),VX,TJ rfl]
abbrev sR0 :Code:=cdA (H9 PR sF)
abbrev sR1 :Code:=cdA (cdA (cdB (H9 PR sF)))
abbrev sRF :Code:=cdA (cdB (cdA (cdB (H9 PR sF))))
abbrev sR2 :Code:=Jq sRF
abbrev sBo :Code:=Jr sRF
abbrev sR3 :Code:=cdA sBo
abbrev sR4 :Code:=cdA (cdB (cdB (H9 PR sF)))
def SE :H9 PR sF= .seq sR0 (.seq (.seq sR1 (.block 0 (.rangeFunc (.tmp 6) #[7] sR2 sBo))) (.seq sR4 .ret)):=by kernel_rfl
def s_bo :sBo= .block 1 sR3:=by kernel_rfl
def s_0 (h0:tm.get 0=some (.slice none 0 0))(h1:tm.get 1=some v)(k:∀tm1,tm1.get 1=some v->tm1.get 2=some (.pointer (some ⟨hp.nx,0,none⟩))->Q tm1 ⟨hp.m.set hp.nx (some (.cells (fill .e 0 [.slice none 0 0]) 1 tHs 1)),hp.nx+1⟩):YN PR ov ar 13 sR0 tm hp Q:=by unfold sR0;rw[Nx];simp only[Go.Proofs.Tryz.f100,Ud,cdA,cdB];have e:(Value.slice none 0 0).cells.toList=[.slice none 0 0]:=rfl;refine .region (.op rfl rfl (Ct Rn h0) ?_);rw[e];refine .op rfl rfl Jg (.nil ⟨⟨UI _,fun r hr h=>by show(hp.m.set hp.nx _).get r=_;rw[VX,TH (by omega)];exact h⟩,k _ ?_ ?_⟩);simp only[gp];exact h1;simp only[gp];rfl
def s_1 (h1:tm.get 1=some v)(k:∀tm1,(∀x,x≠6->tm1.get x=tm.get x)->tm1.get 6=some v->Q tm1 hp):YN PR ov ar 13 sR1 tm hp Q:=by unfold sR1;rw[Nx];simp only[Go.Proofs.Tryz.f100,Ud,cdA,cdB];exact .region (.op rfl rfl (Jf h1) (.nil ⟨.refl _,k _ (fun x hx=>by rw[gp,TH hx]) (by rw[gp,TJ rfl])⟩))
def s_2 (d:tm.get 7=some (.agg ws.toArray))(h2:ws.length=2)(f:ws.all Value.oneCell'=true)(k:∀tm1,(∀x,x≠5->tm1.get x=tm.get x)->tm1.get 5=some (.pointer (some ⟨hp.nx,0,none⟩))->Q tm1 ⟨(hp.m.set hp.nx (some (.cells zHB 2 tHn 2))).set hp.nx (some (.cells (fill zHB 0 ws) 2 tHn 2)),hp.nx+1⟩):YN PR ov ar 13 sR2 tm hp Q:=by unfold sR2 sRF;rw[Nx];simp only[Go.Proofs.Tryz.f100,Ud,cdA,cdB,Jq];refine .region (.op rfl rfl qK (.op rfl rfl (dU (by simp only[gp];rfl) (by simp only[gp];exact d) (st_H (by rw[VX,TJ rfl]) (by omega) h2 f)) (.nil ⟨⟨UI _,fun r hr h=>?_⟩,k _ (fun x hx=>?_) ?_⟩)));show((hp.m.set hp.nx _).set hp.nx _).get r=_;rw[VX,TH (by omega),VX,TH (by omega)];exact h;simp only[gp,gn];rw[TH hx];simp only[gp,gn];rfl
variable {cw:Ao}
def s_3 {bx:Nat}{cc:Ao}{l m:Nat}(h2:tm.get 2=some (.pointer (some ⟨bx,0,none⟩)))(hb:hp.m.get bx=some (.cells cw 1 tHs 1))(hv:cw.get 0=some v)(g:bx<hp.nx)(h5:tm.get 5=some (.pointer (some ⟨c,0,none⟩)))(hc:hp.m.get c=some (.cells cc 2 tHn 2))(hl:j9 cc 0 2=some ws)(w2:ws.length=2)(f:y9 PR ⟨hp.m.set hp.nx (some (.cells (fill .e 0 ws) 2 tHn 2)),hp.nx+1⟩ .append [tHs,tHs] [v,.slice (some ⟨hp.nx,0,none⟩) 1 1]=some (.slice q l m,hp1))(d:hp1.m.get bx=some (.cells cw 1 tHs 1))(hk:H7 hp hp1)(k:∀tm1,Q tm1 ⟨hp1.m.set bx (some (.cells (fill cw 0 [.slice q l m]) 1 tHs 1)),hp1.nx⟩):YN PR ov ar 13 sR3 tm hp Q:=by unfold sR3 sBo sRF;rw[Nx];simp only[Go.Proofs.Tryz.f100,Ud,cdA,cdB,Jr];refine .region (.op rfl rfl (K4 h2 ((Do Fq hb rfl (by omega)).trans hv)) (.op rfl rfl (K4 (by rw[gp,TH (by decide)];exact h5) (Jz hc rfl (by omega) hl)) (.op rfl rfl (Tc (by simp only[gp];rfl) w2) (.op rfl rfl (Tb rfl (by simp only[gp];rfl) (by simp only[gp];rfl) f) (.op rfl rfl (dU (by simp only[gp];exact h2) (by simp only[gp];rfl) (st_Hs d (by omega))) (.nil ⟨⟨hk.nx,fun r hr h=>?_⟩,k _⟩))))));show(hp1.m.set bx _).get r=_;rw[VX,TH (by rintro rfl;rw[hb]at h;cases h)];exact hk.dfr r hr h
def s_4 {bx:Nat}(h2:tm.get 2=some (.pointer (some ⟨bx,0,none⟩)))(hb:hp.m.get bx=some (.cells cw 1 tHs 1))(hv:cw.get 0=some v)(k:∀tm1,tm1.get 4=some v->Q tm1 hp):YN PR ov ar 13 sR4 tm hp Q:=by unfold sR4;rw[Nx];simp only[Go.Proofs.Tryz.f100,Ud,cdA,cdB];refine .region (.op rfl rfl (K4 h2 ((Do Fq hb rfl (by omega)).trans hv)) (.op rfl rfl (Je (by simp only[gp];rfl)) (.nil ⟨.refl _,k _ ?_⟩)));simp only[gp];rfl
