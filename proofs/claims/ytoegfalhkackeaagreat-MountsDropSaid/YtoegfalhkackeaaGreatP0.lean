/- Chapter 16: 'lives' answers true.
  Conditions: none. -/
import Derived.Test.YtoegfalhkackeaaGreatXm3
import Derived.Test.YtoegfalhkackeaaGreatRows
set_option linter.all false
noncomputable section
namespace Go.D
open Go Go.Xe Go.RowKit
def HpG :Hp:=⟨T.set .e 0 (some (.reg .e 0 rgT 10)),1⟩
def SgG :Sg:=⟨λi r=>if i=0/\r=0 then some ⟨0,0,0,0⟩else Option.none⟩
def HM {i:Nat}{b:Blk}(h:HpG.m.get i=some b):i=0/\b= .reg .e 0 rgT 10:=by have h:(T.set .e 0 (some (Blk.reg .e 0 rgT 10))).get i=some b:=h;rw[VF]at h;split at h;cases h;exact⟨‹_›,rfl⟩;simp[VE]at h
def KY {i r:Nat}{b:Blk}(h:HpG.m.get i=some b)(hx:Ix b r):False:=by obtain⟨_,rfl⟩:=HM h;have hx:1<=r/\r<=0:=hx;omega
def HR.startG (w:Bc):HR (BS.below w) w SgG HpG w:=by refine⟨rfl,rfl,rfl,Tq _,λ_ (h:_<_)=>h,λ_ _=>rfl,λi r (h:1<=i)=>Tn (by omega),λi b r h hx=>(KY h hx).elim,λi j b b' r s p q h _ hx=>(KY h hx).elim,λi b h _=>?_⟩;obtain⟨rfl,_⟩:=HM h;exact⟨⟨_,rfl⟩,λr h0 _=>Tn (by omega)⟩
def FU {P:Aw}(hm:P.follows .mixedOrders=true){ov:Aa}(a:∀g t,ov g=some t->kI P g t){n f:Nat}(h:yes ((C6 P ov n).run f [] HpG)=true)(w:Bc):Calls P f #[] w λe w'=>e= .returned (.bool true)/\Below w.heap.size w w':=by unfold yes at h;split at h;rename_i b hp' hx;subst h;refine((Ig hm a n).run f [] HpG _ hp' hx (BS.below w) w SgG w [] (VP _) (HR.startG w)).mono λe w' he=>?_;obtain⟨σ',u,rfl,_,hv,c⟩:=he;cases hv;exact⟨rfl,c.toBelow⟩;cases h
noncomputable abbrev PR :Aw:=Go.Proofs.Tryz.prog
noncomputable def LO :Aa:=BZ 119 41 noOv
set_option maxRecDepth 100000 in
def JL :yes ((C6 PR LO 5000).run 20 [] HpG)=true:=by kernel_rfl
