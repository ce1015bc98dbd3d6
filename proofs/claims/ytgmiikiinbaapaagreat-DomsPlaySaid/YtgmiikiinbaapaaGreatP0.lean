/- Chapter 16: 'lives' answers true.
  Conditions: none. -/
import Derived.Test.YtgmiikiinbaapaaGreatXm3
import Derived.Test.YtgmiikiinbaapaaGreatRows
import Derived.KernelRfl
set_option linter.all false
noncomputable section
namespace Go.D
open Go Go.Xe Go.RowKit
def HpG :Hp:=⟨T.set .e 0 (some (.reg .e 0 rgT 10)),1⟩
def SgG :Sg:=⟨fun i r=>if i=0/\r=0 then some ⟨0,0,0,0⟩else Option.none⟩
def Ge {i:Nat}{b:Blk}(h:HpG.m.get i=some b):i=0/\b= .reg .e 0 rgT 10:=by
 have h:(T.set .e 0 (some (Blk.reg .e 0 rgT 10))).get i=some b:=h;rw[Rr]at h;split at h
 ·cases h;exact⟨‹_›,rfl⟩
 ·simp[Rq]at h
def IP {i r:Nat}{b:Blk}(h:HpG.m.get i=some b)(hx:Ix b r):False:=by obtain⟨_,rfl⟩:=Ge h;have hx:1<=r/\r<=0:=hx;omega
def HR.startG (w:Bc):HR (BS.below w) w SgG HpG w:=by refine⟨rfl,rfl,rfl,OZ _,fun _ (h:_<_)=>h,fun _ _=>rfl,fun i r (h:1<=i)=>OW (by omega),fun i b r h hx=>(IP h hx).elim,fun i j b b' r s p q h _ hx=>(IP h hx).elim,fun i b h _=>?_⟩;obtain⟨rfl,_⟩:=Ge h;exact⟨⟨_,rfl⟩,fun r h0 _=>OW (by omega)⟩
def Ee {P:Aw}(hm:P.follows .mixedOrders=true){ov:Aa}(a:∀g t,ov g=some t->iH P g t){n f:Nat}(h:yes ((F8 P ov n).run f [] HpG)=true)(w:Bc):Calls P f #[] w fun e w'=>e= .returned (.bool true)/\Below w.heap.size w w':=by
 unfold yes at h;split at h
 ·rename_i b hp' hx;subst h;refine((Gv hm a n).run f [] HpG _ hp' hx (BS.below w) w SgG w [] (RC _) (HR.startG w)).mono fun e w' he=>?_;obtain⟨σ',u,rfl,_,hv,c⟩:=he;cases hv;exact⟨rfl,c.toBelow⟩
 ·cases h
noncomputable abbrev PR :Aw:=Go.Proofs.Tryz.prog
noncomputable def LO :Aa:=zT 115 35 noOv
set_option maxRecDepth 100000 in
def HA :yes ((F8 PR LO 5000).run 20 [] HpG)=true:=by kernel_rfl
end Go.D
