/-
  No cell of these rows narrows 'for every input' (looked for: loops, veiled, ifaces, maps, wideKeys, modest, calm, conditions, laid).
  DERIVED. THE GIVEN ROWS OF THIS SEAT. 6 by the template 'for every input the law returns true; each argument reads behind the call as it read before'; 0 by the template 'total and deterministic' (their statements: YtdhbegidnfapjaaTotals.lean).
  GIVEN WITH THE SEED: the statements are not yours to turn. If you find one false, say at which input.
  Laid BY PROGRAM, IN A SANDBOX (cutbox-rows.mjs): the forced cells as the released guide's own fill.sh prints them over the translation dfa5e900c678495f… (all of the seat's roots in one cut). By AI agents, Wed Nov 11 2026. No macro, syntax, notation, axiom, sorry.
-/
import Derived.Test.YtdhbegidnfapjaaChecked
import GoSem.Claim
import GoSem.ClaimJoined
import GoSem.ClaimMapViews
import Derived.JoinedTies
import Derived.KernelRfl
namespace Go.Proofs.Ytdhbegidnfapjaa
/- THE CELL 'sum', in the pinned program and in every row, IS THE sha256 OF THE DUMP (.gsa) THAT YtdhbegidnfapjaaProg.lean LOADS. Nothing in Lean hashes anything: it is a label: what it is worth is what the hold of that sum in a sandbox is worth. -/
noncomputable def Try.pinned : Pinned := { name := "ytdhbegidnfapjaa", sum := "dfa5e900c678495f76bad6a20ca3a080dbb4e1d10212e47d371e12041bc2ef09", checked := Try.checked }
namespace Rows
def none {H : Type} : Left H := { results := [], args := [] }

/-- 'paternosterlaw15.ArenasKnown': WHATEVER THE INPUT: true; the input reads as it did. -/
def arenasKnownSpec : ChangeSpec := { name := "arenasKnown", fn := fun _ => fun
  | [] => { results := [.lit (.bool true)], args := [] }
  | _ => none }
def arenasKnownRow : OpenClaim := { program := "ytdhbegidnfapjaa", sum := "dfa5e900c678495f76bad6a20ca3a080dbb4e1d10212e47d371e12041bc2ef09", func := "paternoster/paternosterlaw15.ArenasKnown", spec := "arenasKnown", apart := false }
def ArenasKnownSaid : Prop := arenasKnownRow.holds Try.pinned (OpenSpec.ofChange arenasKnownSpec)

/-- ITS FALSE NEIGHBOUR: 'it returns false'. Refute it at one input. -/
def arenasKnownWrong : ChangeSpec := { name := "arenasKnown", fn := fun _ => fun
  | [] => { results := [.lit (.bool false)], args := [] }
  | _ => none }
def ArenasKnownWrongFalsely : Prop := arenasKnownRow.holds Try.pinned (OpenSpec.ofChange arenasKnownWrong)

/-- 'paternosterlaw15.ArenasNever': WHATEVER THE INPUT: true; the input reads as it did. -/
def arenasNeverSpec : ChangeSpec := { name := "arenasNever", fn := fun _ => fun
  | [d] => { results := [.lit (.bool true)], args := [d] }
  | _ => none }
def arenasNeverRow : OpenClaim := { program := "ytdhbegidnfapjaa", sum := "dfa5e900c678495f76bad6a20ca3a080dbb4e1d10212e47d371e12041bc2ef09", func := "paternoster/paternosterlaw15.ArenasNever", spec := "arenasNever", apart := false }
def ArenasNeverSaid : Prop := arenasNeverRow.holds Try.pinned (OpenSpec.ofChange arenasNeverSpec)

/-- ITS FALSE NEIGHBOUR: 'it returns false'. Refute it at one input. -/
def arenasNeverWrong : ChangeSpec := { name := "arenasNever", fn := fun _ => fun
  | [d] => { results := [.lit (.bool false)], args := [d] }
  | _ => none }
def ArenasNeverWrongFalsely : Prop := arenasNeverRow.holds Try.pinned (OpenSpec.ofChange arenasNeverWrong)

/-- 'paternosterlaw15.ArenasPlay': WHATEVER THE INPUT: true; the input reads as it did. -/
def arenasPlaySpec : ChangeSpec := { name := "arenasPlay", fn := fun _ => fun
  | [d] => { results := [.lit (.bool true)], args := [d] }
  | _ => none }
def arenasPlayRow : OpenClaim := { program := "ytdhbegidnfapjaa", sum := "dfa5e900c678495f76bad6a20ca3a080dbb4e1d10212e47d371e12041bc2ef09", func := "paternoster/paternosterlaw15.ArenasPlay", spec := "arenasPlay", apart := false }
def ArenasPlaySaid : Prop := arenasPlayRow.holds Try.pinned (OpenSpec.ofChange arenasPlaySpec)

/-- ITS FALSE NEIGHBOUR: 'it returns false'. Refute it at one input. -/
def arenasPlayWrong : ChangeSpec := { name := "arenasPlay", fn := fun _ => fun
  | [d] => { results := [.lit (.bool false)], args := [d] }
  | _ => none }
def ArenasPlayWrongFalsely : Prop := arenasPlayRow.holds Try.pinned (OpenSpec.ofChange arenasPlayWrong)

/-- 'paternosterlaw15.ArenasBack': WHATEVER THE INPUT: true; the input reads as it did. -/
def arenasBackSpec : ChangeSpec := { name := "arenasBack", fn := fun _ => fun
  | [d1, d2] => { results := [.lit (.bool true)], args := [d1, d2] }
  | _ => none }
def arenasBackRow : OpenClaim := { program := "ytdhbegidnfapjaa", sum := "dfa5e900c678495f76bad6a20ca3a080dbb4e1d10212e47d371e12041bc2ef09", func := "paternoster/paternosterlaw15.ArenasBack", spec := "arenasBack", apart := false }
def ArenasBackSaid : Prop := arenasBackRow.holds Try.pinned (OpenSpec.ofChange arenasBackSpec)

/-- ITS FALSE NEIGHBOUR: 'it returns false'. Refute it at one input. -/
def arenasBackWrong : ChangeSpec := { name := "arenasBack", fn := fun _ => fun
  | [d1, d2] => { results := [.lit (.bool false)], args := [d1, d2] }
  | _ => none }
def ArenasBackWrongFalsely : Prop := arenasBackRow.holds Try.pinned (OpenSpec.ofChange arenasBackWrong)

/-- 'paternosterlaw15.ArenasCopy': WHATEVER THE INPUT: true; the input reads as it did. -/
def arenasCopySpec : ChangeSpec := { name := "arenasCopy", fn := fun _ => fun
  | [d1, d2, d3] => { results := [.lit (.bool true)], args := [d1, d2, d3] }
  | _ => none }
def arenasCopyRow : OpenClaim := { program := "ytdhbegidnfapjaa", sum := "dfa5e900c678495f76bad6a20ca3a080dbb4e1d10212e47d371e12041bc2ef09", func := "paternoster/paternosterlaw15.ArenasCopy", spec := "arenasCopy", apart := false }
def ArenasCopySaid : Prop := arenasCopyRow.holds Try.pinned (OpenSpec.ofChange arenasCopySpec)

/-- ITS FALSE NEIGHBOUR: 'it returns false'. Refute it at one input. -/
def arenasCopyWrong : ChangeSpec := { name := "arenasCopy", fn := fun _ => fun
  | [d1, d2, d3] => { results := [.lit (.bool false)], args := [d1, d2, d3] }
  | _ => none }
def ArenasCopyWrongFalsely : Prop := arenasCopyRow.holds Try.pinned (OpenSpec.ofChange arenasCopyWrong)

/-- 'paternosterlaw15.ArenasNil': WHATEVER THE INPUT: true; the input reads as it did. -/
def arenasNilSpec : ChangeSpec := { name := "arenasNil", fn := fun _ => fun
  | [d] => { results := [.lit (.bool true)], args := [d] }
  | _ => none }
def arenasNilRow : OpenClaim := { program := "ytdhbegidnfapjaa", sum := "dfa5e900c678495f76bad6a20ca3a080dbb4e1d10212e47d371e12041bc2ef09", func := "paternoster/paternosterlaw15.ArenasNil", spec := "arenasNil", apart := false }
def ArenasNilSaid : Prop := arenasNilRow.holds Try.pinned (OpenSpec.ofChange arenasNilSpec)

/-- ITS FALSE NEIGHBOUR: 'it returns false'. Refute it at one input. -/
def arenasNilWrong : ChangeSpec := { name := "arenasNil", fn := fun _ => fun
  | [d] => { results := [.lit (.bool false)], args := [d] }
  | _ => none }
def ArenasNilWrongFalsely : Prop := arenasNilRow.holds Try.pinned (OpenSpec.ofChange arenasNilWrong)

/- THE SECOND FORM. 'bulk': how many values and letters a reading holds, each counted each time it is reached (what is shared counts as often as it is met; a slice's spare places count too). A statement '..UptoSaid' is the law's where the arguments, and the package variables that the reading takes, are together of bulk at most 1048576: NARROWER than '..Said'. Prove '..Said' where nothing that the law and all that it calls make is longer than what came in: it says more and counts as full. Else prove '..UptoSaid'. A law counts once. -/
mutual
def uptoBulk {H : Type} : DataW H → Nat
  | .lit (.string bytes) => bytes.length + 1
  | .lit _ => 1
  | .nil => 1
  | .ptr d => uptoBulk d + 1
  | .slice elems spare => uptoBulkAll elems + uptoBulkAll spare + 1
  | .agg parts => uptoBulkAll parts + 1
  | .iface _ d => uptoBulk d + 1
  | .map entries => uptoBulkEntries entries + 1
  | .held _ => 1
def uptoBulkAll {H : Type} : List (DataW H) → Nat
  | [] => 0
  | d :: r => uptoBulk d + uptoBulkAll r
def uptoBulkEntries {H : Type} : List (Lit × DataW H) → Nat
  | [] => 0
  | x :: r => uptoBulkEntry x + uptoBulkEntries r
def uptoBulkEntry {H : Type} : Lit × DataW H → Nat
  | (.string bytes, d) => bytes.length + uptoBulk d + 1
  | (_, d) => uptoBulk d + 1
 end
def uptoSmall : (H : Type) → List (DataW H) → Bool := fun _ ds => decide (uptoBulkAll ds ≤ 1048576)
def OpenSpec.upto (s : _root_.Go.ChangeSpec) : _root_.Go.OpenSpec := { _root_.Go.OpenSpec.ofChange s with cond := some uptoSmall }

/-- 'paternosterlaw15.ArenasKnown', WHERE WHAT IT READS IS OF BULK AT MOST 1048576: true; the input reads as it did. -/
def arenasKnownUptoRow : OpenClaim := { program := "ytdhbegidnfapjaa", sum := "dfa5e900c678495f76bad6a20ca3a080dbb4e1d10212e47d371e12041bc2ef09", func := "paternoster/paternosterlaw15.ArenasKnown", spec := "arenasKnown", apart := false, narrowed := true }
def ArenasKnownUptoSaid : Prop := arenasKnownUptoRow.holds Try.pinned (OpenSpec.upto arenasKnownSpec)

/-- 'paternosterlaw15.ArenasNever', WHERE WHAT IT READS IS OF BULK AT MOST 1048576: true; the input reads as it did. -/
def arenasNeverUptoRow : OpenClaim := { program := "ytdhbegidnfapjaa", sum := "dfa5e900c678495f76bad6a20ca3a080dbb4e1d10212e47d371e12041bc2ef09", func := "paternoster/paternosterlaw15.ArenasNever", spec := "arenasNever", apart := false, narrowed := true }
def ArenasNeverUptoSaid : Prop := arenasNeverUptoRow.holds Try.pinned (OpenSpec.upto arenasNeverSpec)

/-- 'paternosterlaw15.ArenasPlay', WHERE WHAT IT READS IS OF BULK AT MOST 1048576: true; the input reads as it did. -/
def arenasPlayUptoRow : OpenClaim := { program := "ytdhbegidnfapjaa", sum := "dfa5e900c678495f76bad6a20ca3a080dbb4e1d10212e47d371e12041bc2ef09", func := "paternoster/paternosterlaw15.ArenasPlay", spec := "arenasPlay", apart := false, narrowed := true }
def ArenasPlayUptoSaid : Prop := arenasPlayUptoRow.holds Try.pinned (OpenSpec.upto arenasPlaySpec)

/-- 'paternosterlaw15.ArenasBack', WHERE WHAT IT READS IS OF BULK AT MOST 1048576: true; the input reads as it did. -/
def arenasBackUptoRow : OpenClaim := { program := "ytdhbegidnfapjaa", sum := "dfa5e900c678495f76bad6a20ca3a080dbb4e1d10212e47d371e12041bc2ef09", func := "paternoster/paternosterlaw15.ArenasBack", spec := "arenasBack", apart := false, narrowed := true }
def ArenasBackUptoSaid : Prop := arenasBackUptoRow.holds Try.pinned (OpenSpec.upto arenasBackSpec)

/-- 'paternosterlaw15.ArenasCopy', WHERE WHAT IT READS IS OF BULK AT MOST 1048576: true; the input reads as it did. -/
def arenasCopyUptoRow : OpenClaim := { program := "ytdhbegidnfapjaa", sum := "dfa5e900c678495f76bad6a20ca3a080dbb4e1d10212e47d371e12041bc2ef09", func := "paternoster/paternosterlaw15.ArenasCopy", spec := "arenasCopy", apart := false, narrowed := true }
def ArenasCopyUptoSaid : Prop := arenasCopyUptoRow.holds Try.pinned (OpenSpec.upto arenasCopySpec)

/-- 'paternosterlaw15.ArenasNil', WHERE WHAT IT READS IS OF BULK AT MOST 1048576: true; the input reads as it did. -/
def arenasNilUptoRow : OpenClaim := { program := "ytdhbegidnfapjaa", sum := "dfa5e900c678495f76bad6a20ca3a080dbb4e1d10212e47d371e12041bc2ef09", func := "paternoster/paternosterlaw15.ArenasNil", spec := "arenasNil", apart := false, narrowed := true }
def ArenasNilUptoSaid : Prop := arenasNilUptoRow.holds Try.pinned (OpenSpec.upto arenasNilSpec)

end Rows
end Go.Proofs.Ytdhbegidnfapjaa
