/- Chapter 16: 'lives' answers true.
  Conditions: none. -/
import Derived.Test.YtoegfalhkackeaaGreatXm3
import Derived.Test.YtoegfalhkackeaaGreatRows
set_option linter.all false
noncomputable section
namespace Go.D
open Go Go.Xe Go.RowKit
def HpG :Hp:=⟨T.m .e 0<|some<|.reg .e 0 rgT 10,1⟩
def SgG :Sg:=⟨λi r=>if i=0/\r=0 then some ⟨0,0,0,0⟩else Option.none⟩
def KQ {i:Nat}{b:Blk}(h:HpG.m.l i=some b):i=0/\b= .reg .e 0 rgT 10:=by have h:(T.m .e 0<|some<|Blk.reg .e 0 rgT 10).l i=some b:=h;rw[ZD]at h;split at h;cases h;exact⟨‹_›,rfl⟩;simp[ZC]at h
def Oq {i r:Nat}{b:Blk}(h:HpG.m.l i=some b)(a:Ix b r):False:=by obtain⟨_,rfl⟩:=KQ h;have a:1<=r/\r<=0:=a;omega
def HR.a (w:Bc):HR (BS.d w) w SgG HpG w:=by refine⟨rfl,rfl,rfl,Xh _,λ_ (h:_<_)=>h,λ_ _=>rfl,λi r (h:1<=i)=>af,λi b r h a=>(Oq h a).elim,λi j b c r s p q h _ a=>(Oq h a).elim,λi b h _=>?_⟩;obtain⟨rfl,_⟩:=KQ h;exact⟨⟨_,rfl⟩,λr d _=>af⟩
def IB {P:Aw}(l:P.follows .mixedOrders=true){i:Aa}(a:∀g t,i g=some t->nE P g t){n f:Nat}(h:yes ((E7 P i n).d f [] HpG)=true)(w:Bc):Calls P f #[] w λe j=>e= .returned (.bool true)/\Below w.heap.size w j:=by unfold yes at h;split at h;rename_i b c m;subst h;refine((Lj l a n).d f [] HpG _ c m (BS.d w) w SgG w [] (ZN _)<|HR.a w).mono λe j k=>?_;obtain⟨o,u,rfl,_,hv,d⟩:=k;cases hv;exact⟨rfl,d.c⟩;cases h
noncomputable abbrev PR :Aw:=Go.Proofs.Tryz.prog
noncomputable def LO :Aa:=Em 119 41 noOv
set_option maxRecDepth 100000 in
def MW :yes ((E7 PR LO 5000).d 20 [] HpG)=true:=by kernel_rfl
