/- carry, in the executor: the text of a node (DiffsApply).
  Conditions: none. -/
import Derived.Test.YtcjhhnoaoldcmaaGreatT1
set_option linter.all false
set_option maxRecDepth 10000
noncomputable section
namespace Go.D
open Go Go.Xe Go.Sx Go.RowKit
open Go.C36 (row)
abbrev tSp :Ay:=47
abbrev tEd :Ay:=106
section
variable {hp hp':Hp}{tm:Ao}{i o n e z k:Nat}{cs:Ao}{v u:Aw}{vs:Af}{x y t:Nat}
def bd_N (x:Str):R2 PR tN [(0,.int .u8 2),(4,.string ⟨x.toArray⟩)]=some (.agg #[.int .u8 2,.string ⟨#[]⟩,.string ⟨#[]⟩,.slice none 0 0,.string ⟨x.toArray⟩,.slice none 0 0]):=rfl
def bd_E (x y:Str):R2 PR tEd [(0,.string ⟨x.toArray⟩),(2,.string ⟨y.toArray⟩)]=some (.agg #[.string ⟨x.toArray⟩,.bool false,.string ⟨y.toArray⟩]):=rfl
def bd_A (x y:Str):R2 PR tAt [(0,.string ⟨x.toArray⟩),(1,.string ⟨y.toArray⟩)]=some (.agg #[.string ⟨x.toArray⟩,.string ⟨y.toArray⟩]):=rfl
def bd_A0 :R2 PR tAt []=some zvA:=by kernel_rfl
def bG {t:Ay}{ps:Array (Nat×Ba)}{l:List (Nat×Aw)}(hp':K3 tm ps.toList=some l)(h:R2 PR t l=some v)(call:c7):xop PR call tm hp (.build t ps)=some (v,hp):=by simp only[b9,f7,hp',h,c9]
theorem IF {t e:Ay}{zv:Aw}(d:PR.underlying t=some (.slice e))(hs:(PR.info? e).map TypeInfo.size=some k)(hz:D6 PR e=some zv)(a:zv.cells.toList.length=k)(hk:k<=1000)(hx:tm.get x=some (.agg vs.toArray))(hl:vs.length=k)(call:c7):xop PR call tm hp (.buildSlice t 1 #[(0,.tmp x)])=some (.slice (some ⟨hp.nx,0,none⟩) 1 1,⟨hp.m.set hp.nx (some (.cells (fill .e 0 vs) k e k)),hp.nx+1⟩):=by
 cases hi:PR.info? e with
 |none=>grind|some ie=>
  rw[hi]at hs;simp at hs;have h1:(Value.agg vs.toArray).cells.toList=vs:=rfl;have h2:splice (xrep 1 zv.cells.toList) 0 vs=vs:=by
   refine List.ext_getElem? fun j=>?_;have c:(xrep 1 zv.cells.toList).length=k:=by rw[Xe.xrep_length,a,Nat.one_mul]
   simp only[splice,List.take_zero,List.nil_append,Ks];grind
  have h3:Nat.ble (1*k) 16777216=true:=JS (by omega);have h4:Nat.ble (0*k+k) (xrep 1 zv.cells.toList).length=true:=by rw[Xe.xrep_length,a];exact JS (by omega)
  simp only[b9,f7,K3,a9,hx,KC,xnw,sw,d,hi,hz,hs,a,l6,h3,Bool.and_self];rw[show Nat.ble 1 16777216=true from rfl];simp only[Bool.and_self,Kc,dn,h1,hl,l6,h4];rw[Ly,h2];simp only[G9,Hp.add,Nw.val,A0,hl]
variable {f:Az}
theorem B3 {ov:Aa}(hf:(PR.funcs[f]?).map cC=some true){ats:Array Ay}{a:Aw}(hx:tm.get x=some a)(h:A4 PR ov f [a] hp v hp'):XOp PR ov (.call ⟨.value (.func f),#[.tmp x],ats⟩) tm hp v hp':=by
 cases hi:PR.funcs[f]? with
 |none=>grind|some fn=>rw[hi]at hf;simp at hf;exact iR hi hf hx h
variable {b:Aw}
theorem bH {ov:Aa}(hf:(PR.funcs[f]?).map cC=some true){ats:Array Ay}{a:Aw}(hx:tm.get x=some a)(hy:tm.get y=some b)(h:A4 PR ov f [a,b] hp v hp'):XOp PR ov (.call ⟨.value (.func f),#[.tmp x,.tmp y],ats⟩) tm hp v hp':=by
 cases hi:PR.funcs[f]? with
 |none=>grind|some fn=>rw[hi]at hf;simp at hf;exact vS hi hf hx hy h
theorem fp {ov:Aa}(hf:(PR.funcs[f]?).map cC=some true){ats:Array Ay}{w:Nat}{a c:Aw}(hx:tm.get x=some a)(hy:tm.get y=some b)(hw:tm.get w=some c)(h:A4 PR ov f [a,b,c] hp v hp'):XOp PR ov (.call ⟨.value (.func f),#[.tmp x,.tmp y,.tmp w],ats⟩) tm hp v hp':=by
 cases hi:PR.funcs[f]? with
 |none=>grind|some fn=>rw[hi]at hf;simp at hf;exact h.mono fun n k=>by simp only[b9,f7,W3,a9,hx,hy,hw,KC,eu,hi,hf,Kc];exact k
def sF {a:Al}{j:Nat}(hx:tm.get x=some (.tuple a))(h:a.toList[j]? =some v)(call:c7):xop PR call tm hp (.extract (.tmp x) j)=some (v,hp):=by simp only[b9,f7,a9,hx,KC,T8,h,c9]
variable {kd:IntKind}
def eD {a b:Int}{t':Ay}(hx:tm.get x=some (.int kd a))(call:c7):xop PR call tm hp (.binOp .eql t (.tmp x) (.const (.int kd b)) t')=some (.bool (decide (a=b)),hp):=by have h:cst (.int kd b)=true:=rfl;simp only[b9,f7,a9,hx,h,KC,v6,J3,KR,Kc,o7,W2,c9]
def Ga {a b:Int}{t':Ay}(hx:tm.get x=some (.int kd a))(call:c7):xop PR call tm hp (.binOp .neq t (.tmp x) (.const (.int kd b)) t')=some (.bool (!decide (a=b)),hp):=by have h:cst (.int kd b)=true:=rfl;simp only[b9,f7,a9,hx,h,KC,v6,J3,KR,Kc,o7,W2,c9]
def fa_N4 (i o:Nat):i7 PR tN (.pointer (some ⟨i,o,none⟩)) 4=some (.pointer (some ⟨i,o+4,none⟩)):=by kernel_rfl
def fa_N0 (i o:Nat):i7 PR tN (.pointer (some ⟨i,o,none⟩)) 0=some (.pointer (some ⟨i,o+0,none⟩)):=by kernel_rfl
def pq (i o:Nat):i7 PR tSp (.pointer (some ⟨i,o,none⟩)) 0=some (.pointer (some ⟨i,o+0,none⟩)):=by kernel_rfl
def fa_S1 (i o:Nat):i7 PR tSp (.pointer (some ⟨i,o,none⟩)) 1=some (.pointer (some ⟨i,o+1,none⟩)):=by kernel_rfl
def yN (i o:Nat):i7 PR tSp (.pointer (some ⟨i,o,none⟩)) 2=some (.pointer (some ⟨i,o+2,none⟩)):=by kernel_rfl
def yO (i o:Nat):i7 PR tSp (.pointer (some ⟨i,o,none⟩)) 3=some (.pointer (some ⟨i,o+3,none⟩)):=by kernel_rfl
def tE (i o:Nat):i7 PR tSp (.pointer (some ⟨i,o,none⟩)) 4=some (.pointer (some ⟨i,o+4,none⟩)):=by kernel_rfl
def Dq (i o:Nat):i7 PR tSp (.pointer (some ⟨i,o,none⟩)) 5=some (.pointer (some ⟨i,o+5,none⟩)):=by kernel_rfl
def Dr (i o:Nat):i7 PR tSp (.pointer (some ⟨i,o,none⟩)) 6=some (.pointer (some ⟨i,o+6,none⟩)):=by kernel_rfl
def U2 :(PR.underlying 3).map R8=some false:=by kernel_rfl
def wq :(PR.underlying 5).map R8=some false:=by kernel_rfl
def ag_Is :(PR.underlying tI).map R8=some false:=by kernel_rfl
def ym :(PR.underlying tSp).map R8=some true:=by kernel_rfl
def vn :(PR.info? tSp).map TypeInfo.size=some 12:=by kernel_rfl
def yl :(PR.underlying tN).map R8=some true:=by kernel_rfl
def zV :(PR.info? tN).map TypeInfo.size=some 6:=by kernel_rfl
end
abbrev yyF :Az:=35
def yy_fn :PR.funcs[yyF]? =some Go.Proofs.Tryz.f35:=by kernel_rfl
abbrev R5 :Code:=cdA (cdB (cdA (cdB (cdB (cdB (cdB (D2 PR yyF)))))))
structure Cx (F:FB)(s:Stp)(vs:Af)(n:a8)(b3 il ol Nl:Nat)(csl:Ao)(S1:Ah)(tm:Ao)(hp:Hp):Prop where
 t3:tm.get 3=some (.pointer (some ⟨b3,0,none⟩))
 t6:tm.get 6=some (.pointer (some ⟨il,ol,none⟩))
 hb:hp.m.get b3=some (.cells (fill .e 0 vs) 12 tSp 12)
 hs:wl F s vs
 fh:FH F hp
 hw:hp.m.get il=some (.cells csl Nl tN 6)
 hN:ol+6<=Nl
 ilt:il<hp.nx
 blt:b3<hp.nx
 bil:b3≠il
 bS:b3∉S1
 tb:TB hp.m.get S1 n (at6 csl ol)
 ilS:il∉S1
 nd:S1.Nodup
 lt:∀j∈S1,j<hp.nx
 fz:∀q b,F q=some b->q≠il/\q∉S1
structure W7 (hp:Hp)(il ol Nl:Nat)(csl:Ao)(S1:Ah)(n':a8)(hp':Hp):Prop where
 ex:∃csl' S2,hp'.m.get il=some (.cells csl' Nl tN 6)/\(∀q,q<ol\/ol+6<=q->csl'.get q=csl.get q)/\TB hp'.m.get S2 n' (at6 csl' ol)/\il∉S2/\S2.Nodup/\(∀q∈S2,q∈S1\/hp.nx<=q)/\ ∀q∈S2,q<hp'.nx
 nx:hp.nx<=hp'.nx
 old:∀j,j<hp.nx->j≠il->j∉S1->hp'.m.get j=hp.m.get j
section
variable {F :FB}{s:Stp}{vs:Af}{n:a8}{b3 il ol Nl:Nat}{csl:Ao}{S1:Ah}{tm tm':Ao}{hp hp':Hp}
def Cx.new (C:Cx F s vs n b3 il ol Nl csl S1 tm hp)(h:New hp hp')(h3:tm'.get 3=tm.get 3)(a:tm'.get 6=tm.get 6):Cx F s vs n b3 il ol Nl csl S1 tm' hp':=by exact⟨h3.trans C.t3,a.trans C.t6,(h.old _ C.blt).trans C.hb,C.hs,D8 C.fh h,(h.old _ C.ilt).trans C.hw,C.hN,KO C.ilt h.nx,KO C.blt h.nx,C.bil,C.bS,C.tb.frame fun j hj=>h.old j (C.lt j hj),C.ilS,C.nd,fun j hj=>KO (C.lt j hj) h.nx,C.fz⟩
theorem W7.new {hp0:Hp}{n':a8}(h:New hp0 hp)(k:W7 hp il ol Nl csl S1 n' hp'):W7 hp0 il ol Nl csl S1 n' hp':=by obtain⟨⟨csl',S2,k1,k2,k3,c,d,g,l⟩,m,a⟩:=k;have:=h.nx;exact⟨(by grind),by omega,fun j hj h1 h2=>by rw[a j (by omega) h1 h2,h.old j hj]⟩
def Cx.cell (C:Cx F s vs n b3 il ol Nl csl S1 tm hp)(k:Nat):(fill .e 0 vs).get (0+k)=vs[k]? :=by rw[Ks];exact d7
variable {k:Nat}
def qF {w:Aw}:at6 (fill csl (ol+k) [w]) ol k=some w:=by unfold at6;rw[f6,Ki (by simp)];simp
theorem ww {w:Aw}{q:Nat}(h:q≠k):at6 (fill csl (ol+k) [w]) ol q=at6 csl ol q:=by unfold at6;rw[f6,Kg (by grind)]
theorem rJ {w:Aw}{q:Nat}(hk:k<6)(h:q<ol\/ol+6<=q):(fill csl (ol+k) [w]).get q=csl.get q:=by rw[f6,Kg (by grind)]
end
end Go.D
noncomputable section
namespace Go.D
open Go Go.Xe Go.Sx Go.RowKit
open Go.C36 (row)
def xK {x:Str}:z7 (.mk 2 [] [] [] x [])↔A9 x=true:=by
 refine⟨fun h=>?_,fun h=>⟨(B6 _).2 ⟨.inl ⟨rfl,h,rfl,rfl,rfl,rfl⟩,trivial⟩,show 0+1<=64 by decide,show 0+1<=6 by decide⟩⟩;rcases((B6 _).1 h.1).1 with h|h
 ·exact h.2.1
 ·have:=h.1;simp[a8.k]at this
section
variable {ov :Aa}{hp:Hp}{tm:Ao}{Q:Ao->Hp->Prop}{F:FB}{s:Stp}{vs:Af}{n:a8}{b3 il ol Nl:Nat}{csl:Ao}{S1:Ah}
abbrev yyT :Code:=cdA (cdB R5)
theorem If (hk:g8 PR U0 ov cChk 34)(C:Cx F s vs n b3 il ol Nl csl S1 tm hp)(k:∀tm1 hp1 e,(∀x,x<56->tm1.get x=tm.get x)->New hp hp1->tm1.get 60=some (.bool (!decide (e=(0:Int))))->(e=0↔A9 s.v=true)->Q tm1 hp1):YN PR ov 141 (cdA (cdA yyT)) tm hp Q:=by
 have f:RN F (.mk 2 [] [] [] s.v []) (fun q=>[Value.int .u8 2,.string ⟨#[]⟩,.string ⟨#[]⟩,.slice none 0 0,.string ⟨s.v.toArray⟩,.slice none 0 0][q]?):=⟨⟨rfl,rfl,rfl,⟨_,rfl,.nils _⟩,rfl⟩,_,rfl,.nils _⟩
 obtain⟨hp1,e,b,a,d,g⟩:=dL hk C.fh rfl f;unfold yyT R5;refine .region (.o (l7 yO C.t3) (.o (qL (h:=((B7 fI C.hb rfl (by omega)).trans ((C.cell 3).trans C.hs.2.2.2.2.1)))) (.o (bG (by simp only[K3,a9,gp];rfl) (bd_N s.v)) (.c (B3 rfl (by simp only[gp];rfl) b) (.o (aG (by simp only[gp];rfl)) (.nil ⟨a.keeps,k _ _ e (fun x hx=>?_) a ?_ (d.trans xK)⟩))))))
 ·simp only[gp];grind
 ·simp only[gp];rfl
def T_R19 (k:∀tm1,tm1.get 4=some (.int .i64 14)->Q tm1 hp):YR ov 141 (cdA (cdB (cdA yyT))) tm hp Q:=by unfold yyT R5;exact .seq (.region (.o (D5 rfl) (.nil ⟨.refl _,.ret (k _ (by simp only[gp];rfl))⟩)))
theorem T_R20 (C:Cx F s vs n b3 il ol Nl csl S1 tm hp)(k:∀tm1,Q tm1 ⟨hp.m.set il (some (.cells (fill csl (ol+4) [.string ⟨s.v.toArray⟩]) Nl tN 6)),hp.nx⟩):YN PR ov 141 (cdB yyT) tm hp Q:=by have:=C.hN;unfold yyT R5;refine .region (.o (i5 C.t6) (.o (l7 yO (by simp only[gp];exact C.t3)) (.o (qL (h:=((B7 fI C.hb rfl (by omega)).trans ((C.cell 3).trans C.hs.2.2.2.2.1)))) (.o qN (.o (l7 fa_N4 (by simp only[gp];rfl)) (.o (qS (h:=(BZ rfl C.hw (by omega) rfl rfl))) (.nil ⟨d9 (Kj _) (.inr (by rw[C.hw];exact fun h=>by grind)),k _⟩)))))))
theorem Cx.set (C:Cx F s vs n b3 il ol Nl csl S1 tm hp){k:Nat}{w:Aw}{n':a8}(hk:k<6)(h:TB hp.m.get S1 n' (at6 (fill csl (ol+k) [w]) ol)):W7 hp il ol Nl csl S1 n' ⟨hp.m.set il (some (.cells (fill csl (ol+k) [w]) Nl tN 6)),hp.nx⟩ where
 ex:=⟨_,S1,by rw[Mw,Ki rfl],fun q hq=>rJ hk hq,h.frame fun j hj=>by rw[Mw,Kg (fun e=>C.ilS (by grind))],C.ilS,C.nd,fun q hq=>.inl hq,C.lt⟩
 nx:=Kj _
 old:=fun j _ hj _=>by rw[Mw,Kg hj]
theorem CZ (hk:g8 PR U0 ov cChk 34)(C:Cx F s vs n b3 il ol Nl csl S1 tm hp):(A9 s.v=true->YN PR ov 141 yyT tm hp fun _ hp'=>W7 hp il ol Nl csl S1 (xr n s.v) hp')/\(A9 s.v=false->YR ov 141 yyT tm hp fun tm' hp'=>tm'.get 4=some (.int .i64 14)/\New hp hp'):=by
 constructor<;>intro f
 ·refine .seq (.seq (If hk C fun tm1 hp1 e d a b he=>.condF (j9 (by grind)) (.skip ?_)));have C1:=C.new a (d 3 (by omega)) (d 6 (by omega));exact T_R20 C1 fun c=>(C1.set (by omega) (C1.tb.text (fun q hq h4=>ww h4) qF)).new a
 ·refine .seqX (.seq (If hk C fun tm1 hp1 e d a b he=>.condT (j9 (by grind)) (T_R19 fun c h4=>⟨h4,a⟩)))
end
end Go.D
