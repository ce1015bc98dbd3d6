/- Chapter 16: 'lives' answers true.
  Conditions: none. -/
import Derived.Test.YtgmiikiinbaapaaGreatXm3
import Derived.Test.YtgmiikiinbaapaaGreatRows
set_option linter.all false
noncomputable section
namespace Go.D
open Go Go.Xe Go.RowKit
def HpG :Hp:=⟨T.set .e 0 (some (.reg .e 0 rgT 10)),1⟩
def SgG :Sg:=⟨fun i r=>if i=0/\r=0 then some ⟨0,0,0,0⟩else Option.none⟩
def GD {i:Nat}{b:Blk}(h:HpG.m.get i=some b):i=0/\b= .reg .e 0 rgT 10:=by have h:(T.set .e 0 (some (Blk.reg .e 0 rgT 10))).get i=some b:=h;rw[Sa]at h;split at h;cases h;exact⟨‹_›,rfl⟩;simp[RZ]at h
def Jm {i r:Nat}{b:Blk}(h:HpG.m.get i=some b)(hx:Ix b r):False:=by obtain⟨_,rfl⟩:=GD h;have hx:1<=r/\r<=0:=hx;omega
def HR.startG (w:Bc):HR (BS.below w) w SgG HpG w:=by refine⟨rfl,rfl,rfl,PH _,fun _ (h:_<_)=>h,fun _ _=>rfl,fun i r (h:1<=i)=>PE (by omega),fun i b r h hx=>(Jm h hx).elim,fun i j b b' r s p q h _ hx=>(Jm h hx).elim,fun i b h _=>?_⟩;obtain⟨rfl,_⟩:=GD h;exact⟨⟨_,rfl⟩,fun r h0 _=>PE (by omega)⟩
def EE {P:Aw}(hm:P.follows .mixedOrders=true){ov:Aa}(a:∀g t,ov g=some t->iQ P g t){n f:Nat}(h:yes ((G1 P ov n).run f [] HpG)=true)(w:Bc):Calls P f #[] w fun e w'=>e= .returned (.bool true)/\Below w.heap.size w w':=by unfold yes at h;split at h;rename_i b hp' hx;subst h;refine((GS hm a n).run f [] HpG _ hp' hx (BS.below w) w SgG w [] (Sp _) (HR.startG w)).mono fun e w' he=>?_;obtain⟨σ',u,rfl,_,hv,c⟩:=he;cases hv;exact⟨rfl,c.toBelow⟩;cases h
noncomputable abbrev PR :Aw:=Go.Proofs.Tryz.prog
noncomputable def LO :Aa:=AI 115 35 noOv
set_option maxRecDepth 100000 in
def HY :yes ((G1 PR LO 5000).run 20 [] HpG)=true:=by kernel_rfl
