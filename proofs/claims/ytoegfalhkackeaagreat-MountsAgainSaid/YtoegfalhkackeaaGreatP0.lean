/- Chapter 16: 'lives' answers true.
  Conditions: none. -/
import Derived.Test.YtoegfalhkackeaaGreatXm3
import Derived.Test.YtoegfalhkackeaaGreatRows
set_option linter.all false
noncomputable section
namespace Go.D
open Go Go.Xe Go.RowKit
def HpG :Hp:=⟨T.set .e 0 (some (.reg .e 0 rgT 10)),1⟩
def SgG :Sg:=⟨fun i r=>if i=0/\r=0 then some ⟨0,0,0,0⟩else Option.none⟩
def Hw {i:Nat}{b:Blk}(h:HpG.m.get i=some b):i=0/\b= .reg .e 0 rgT 10:=by have h:(T.set .e 0 (some (Blk.reg .e 0 rgT 10))).get i=some b:=h;rw[VX]at h;split at h;cases h;exact⟨‹_›,rfl⟩;simp[VW]at h
def Li {i r:Nat}{b:Blk}(h:HpG.m.get i=some b)(hx:Ix b r):False:=by obtain⟨_,rfl⟩:=Hw h;have hx:1<=r/\r<=0:=hx;omega
def HR.startG (w:Bc):HR (BS.below w) w SgG HpG w:=by refine⟨rfl,rfl,rfl,TK _,fun _ (h:_<_)=>h,fun _ _=>rfl,fun i r (h:1<=i)=>TH (by omega),fun i b r h hx=>(Li h hx).elim,fun i j b b' r s p q h _ hx=>(Li h hx).elim,fun i b h _=>?_⟩;obtain⟨rfl,_⟩:=Hw h;exact⟨⟨_,rfl⟩,fun r h0 _=>TH (by omega)⟩
def Fx {P:Aw}(hm:P.follows .mixedOrders=true){ov:Aa}(a:∀g t,ov g=some t->kV P g t){n f:Nat}(h:yes ((D8 P ov n).run f [] HpG)=true)(w:Bc):Calls P f #[] w fun e w'=>e= .returned (.bool true)/\Below w.heap.size w w':=by unfold yes at h;split at h;rename_i b hp' hx;subst h;refine((HN hm a n).run f [] HpG _ hp' hx (BS.below w) w SgG w [] (Wi _) (HR.startG w)).mono fun e w' he=>?_;obtain⟨σ',u,rfl,_,hv,c⟩:=he;cases hv;exact⟨rfl,c.toBelow⟩;cases h
noncomputable abbrev PR :Aw:=Go.Proofs.Tryz.prog
noncomputable def LO :Aa:=Bp 119 41 noOv
set_option maxRecDepth 100000 in
def JC :yes ((D8 PR LO 5000).run 20 [] HpG)=true:=by kernel_rfl
