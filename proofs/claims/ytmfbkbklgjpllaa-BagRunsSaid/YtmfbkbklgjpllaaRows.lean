/-
  No cell of these rows narrows 'for every input' (looked for: loops, veiled, ifaces, maps, wideKeys, modest, calm, conditions, laid).
  DERIVED. THE GIVEN ROWS OF THIS SEAT. 4 by the template 'for every input the law returns true; each argument reads behind the call as it read before'; 0 by the template 'total and deterministic' (their statements: YtmfbkbklgjpllaaTotals.lean).
  GIVEN WITH THE SEED: the statements are not yours to turn. If you find one false, say at which input.
  Laid BY PROGRAM, IN A SANDBOX (cutbox-rows.mjs): the forced cells as the released guide's own fill.sh prints them over the translation c015134e997bb76d… (all of the seat's roots in one cut). By AI agents, Wed Nov 11 2026. No macro, syntax, notation, axiom, sorry.
-/
import Derived.Test.YtmfbkbklgjpllaaChecked
import GoSem.Claim
import GoSem.ClaimJoined
import GoSem.ClaimMapViews
import Derived.JoinedTies
import Derived.KernelRfl
namespace Go.Proofs.Ytmfbkbklgjpllaa
/- THE CELL 'sum', in the pinned program and in every row, IS THE sha256 OF THE DUMP (.gsa) THAT YtmfbkbklgjpllaaProg.lean LOADS. Nothing in Lean hashes anything: it is a label: what it is worth is what the hold of that sum in a sandbox is worth. -/
noncomputable def Try.pinned : Pinned := { name := "ytmfbkbklgjpllaa", sum := "c015134e997bb76dc01404295425e625755510fb00856ce834e51827c7a385b8", checked := Try.checked }
namespace Rows
def none {H : Type} : Left H := { results := [], args := [] }

/-- 'catenarylaw13.BagNames': WHATEVER THE INPUT: true; the input reads as it did. -/
def bagNamesSpec : ChangeSpec := { name := "bagNames", fn := fun _ => fun
  | [] => { results := [.lit (.bool true)], args := [] }
  | _ => none }
def bagNamesRow : OpenClaim := { program := "ytmfbkbklgjpllaa", sum := "c015134e997bb76dc01404295425e625755510fb00856ce834e51827c7a385b8", func := "catenary/catenarylaw13.BagNames", spec := "bagNames", apart := false }
def BagNamesSaid : Prop := bagNamesRow.holds Try.pinned (OpenSpec.ofChange bagNamesSpec)

/-- ITS FALSE NEIGHBOUR: 'it returns false'. Refute it at one input. -/
def bagNamesWrong : ChangeSpec := { name := "bagNames", fn := fun _ => fun
  | [] => { results := [.lit (.bool false)], args := [] }
  | _ => none }
def BagNamesWrongFalsely : Prop := bagNamesRow.holds Try.pinned (OpenSpec.ofChange bagNamesWrong)

/-- 'catenarylaw13.BagRuns': WHATEVER THE INPUT: true; the input reads as it did. -/
def bagRunsSpec : ChangeSpec := { name := "bagRuns", fn := fun _ => fun
  | [d] => { results := [.lit (.bool true)], args := [d] }
  | _ => none }
def bagRunsRow : OpenClaim := { program := "ytmfbkbklgjpllaa", sum := "c015134e997bb76dc01404295425e625755510fb00856ce834e51827c7a385b8", func := "catenary/catenarylaw13.BagRuns", spec := "bagRuns", apart := false }
def BagRunsSaid : Prop := bagRunsRow.holds Try.pinned (OpenSpec.ofChange bagRunsSpec)

/-- ITS FALSE NEIGHBOUR: 'it returns false'. Refute it at one input. -/
def bagRunsWrong : ChangeSpec := { name := "bagRuns", fn := fun _ => fun
  | [d] => { results := [.lit (.bool false)], args := [d] }
  | _ => none }
def BagRunsWrongFalsely : Prop := bagRunsRow.holds Try.pinned (OpenSpec.ofChange bagRunsWrong)

/-- 'catenarylaw13.BagAll': WHATEVER THE INPUT: true; the input reads as it did. -/
def bagAllSpec : ChangeSpec := { name := "bagAll", fn := fun _ => fun
  | [d1, d2] => { results := [.lit (.bool true)], args := [d1, d2] }
  | _ => none }
def bagAllRow : OpenClaim := { program := "ytmfbkbklgjpllaa", sum := "c015134e997bb76dc01404295425e625755510fb00856ce834e51827c7a385b8", func := "catenary/catenarylaw13.BagAll", spec := "bagAll", apart := false }
def BagAllSaid : Prop := bagAllRow.holds Try.pinned (OpenSpec.ofChange bagAllSpec)

/-- ITS FALSE NEIGHBOUR: 'it returns false'. Refute it at one input. -/
def bagAllWrong : ChangeSpec := { name := "bagAll", fn := fun _ => fun
  | [d1, d2] => { results := [.lit (.bool false)], args := [d1, d2] }
  | _ => none }
def BagAllWrongFalsely : Prop := bagAllRow.holds Try.pinned (OpenSpec.ofChange bagAllWrong)

/-- 'catenarylaw13.BagCopies': WHATEVER THE INPUT: true; the input reads as it did. -/
def bagCopiesSpec : ChangeSpec := { name := "bagCopies", fn := fun _ => fun
  | [d1, d2] => { results := [.lit (.bool true)], args := [d1, d2] }
  | _ => none }
def bagCopiesRow : OpenClaim := { program := "ytmfbkbklgjpllaa", sum := "c015134e997bb76dc01404295425e625755510fb00856ce834e51827c7a385b8", func := "catenary/catenarylaw13.BagCopies", spec := "bagCopies", apart := false }
def BagCopiesSaid : Prop := bagCopiesRow.holds Try.pinned (OpenSpec.ofChange bagCopiesSpec)

/-- ITS FALSE NEIGHBOUR: 'it returns false'. Refute it at one input. -/
def bagCopiesWrong : ChangeSpec := { name := "bagCopies", fn := fun _ => fun
  | [d1, d2] => { results := [.lit (.bool false)], args := [d1, d2] }
  | _ => none }
def BagCopiesWrongFalsely : Prop := bagCopiesRow.holds Try.pinned (OpenSpec.ofChange bagCopiesWrong)

/- THE SECOND FORM. 'bulk': how many values and letters a reading holds, each counted each time it is reached (what is shared counts as often as it is met; a slice's spare places count too). A statement '..UptoSaid' is the law's where the arguments, and the package variables that the reading takes, are together of bulk at most 1048576: NARROWER than '..Said'. Prove '..Said' where nothing that the law and all that it calls make is longer than what came in: it says more and counts as full. Else prove '..UptoSaid'. A law counts once. -/
mutual
def uptoBulk {H : Type} : DataW H → Nat
  | .lit (.string bytes) => bytes.length + 1
  | .lit _ => 1
  | .nil => 1
  | .ptr d => uptoBulk d + 1
  | .slice elems spare => uptoBulkAll elems + uptoBulkAll spare + 1
  | .agg parts => uptoBulkAll parts + 1
  | .iface _ d => uptoBulk d + 1
  | .map entries => uptoBulkEntries entries + 1
  | .held _ => 1
def uptoBulkAll {H : Type} : List (DataW H) → Nat
  | [] => 0
  | d :: r => uptoBulk d + uptoBulkAll r
def uptoBulkEntries {H : Type} : List (Lit × DataW H) → Nat
  | [] => 0
  | x :: r => uptoBulkEntry x + uptoBulkEntries r
def uptoBulkEntry {H : Type} : Lit × DataW H → Nat
  | (.string bytes, d) => bytes.length + uptoBulk d + 1
  | (_, d) => uptoBulk d + 1
 end
def uptoSmall : (H : Type) → List (DataW H) → Bool := fun _ ds => decide (uptoBulkAll ds ≤ 1048576)
def OpenSpec.upto (s : _root_.Go.ChangeSpec) : _root_.Go.OpenSpec := { _root_.Go.OpenSpec.ofChange s with cond := some uptoSmall }

/-- 'catenarylaw13.BagNames', WHERE WHAT IT READS IS OF BULK AT MOST 1048576: true; the input reads as it did. -/
def bagNamesUptoRow : OpenClaim := { program := "ytmfbkbklgjpllaa", sum := "c015134e997bb76dc01404295425e625755510fb00856ce834e51827c7a385b8", func := "catenary/catenarylaw13.BagNames", spec := "bagNames", apart := false, narrowed := true }
def BagNamesUptoSaid : Prop := bagNamesUptoRow.holds Try.pinned (OpenSpec.upto bagNamesSpec)

/-- 'catenarylaw13.BagRuns', WHERE WHAT IT READS IS OF BULK AT MOST 1048576: true; the input reads as it did. -/
def bagRunsUptoRow : OpenClaim := { program := "ytmfbkbklgjpllaa", sum := "c015134e997bb76dc01404295425e625755510fb00856ce834e51827c7a385b8", func := "catenary/catenarylaw13.BagRuns", spec := "bagRuns", apart := false, narrowed := true }
def BagRunsUptoSaid : Prop := bagRunsUptoRow.holds Try.pinned (OpenSpec.upto bagRunsSpec)

/-- 'catenarylaw13.BagAll', WHERE WHAT IT READS IS OF BULK AT MOST 1048576: true; the input reads as it did. -/
def bagAllUptoRow : OpenClaim := { program := "ytmfbkbklgjpllaa", sum := "c015134e997bb76dc01404295425e625755510fb00856ce834e51827c7a385b8", func := "catenary/catenarylaw13.BagAll", spec := "bagAll", apart := false, narrowed := true }
def BagAllUptoSaid : Prop := bagAllUptoRow.holds Try.pinned (OpenSpec.upto bagAllSpec)

/-- 'catenarylaw13.BagCopies', WHERE WHAT IT READS IS OF BULK AT MOST 1048576: true; the input reads as it did. -/
def bagCopiesUptoRow : OpenClaim := { program := "ytmfbkbklgjpllaa", sum := "c015134e997bb76dc01404295425e625755510fb00856ce834e51827c7a385b8", func := "catenary/catenarylaw13.BagCopies", spec := "bagCopies", apart := false, narrowed := true }
def BagCopiesUptoSaid : Prop := bagCopiesUptoRow.holds Try.pinned (OpenSpec.upto bagCopiesSpec)

end Rows
end Go.Proofs.Ytmfbkbklgjpllaa
