/-
  No cell of these rows narrows 'for every input' (looked for: loops, veiled, ifaces, maps, wideKeys, modest, calm, conditions, laid).
  DERIVED. THE GIVEN ROWS OF THIS SEAT. 5 by the template 'for every input the law returns true; each argument reads behind the call as it read before'; 0 by the template 'total and deterministic' (their statements: YtmogojefpjmhkaaTotals.lean).
  GIVEN WITH THE SEED: the statements are not yours to turn. If you find one false, say at which input.
  Laid BY PROGRAM, IN A SANDBOX (cutbox-rows.mjs): the forced cells as the released guide's own fill.sh prints them over the translation bbe670692f50bd25… (all of the seat's roots in one cut). By AI agents, Wed Nov 11 2026. No macro, syntax, notation, axiom, sorry.
-/
import Derived.Test.YtmogojefpjmhkaaChecked
import GoSem.Claim
import GoSem.ClaimJoined
import GoSem.ClaimMapViews
import Derived.JoinedTies
import Derived.KernelRfl
namespace Go.Proofs.Ytmogojefpjmhkaa
/- THE CELL 'sum', in the pinned program and in every row, IS THE sha256 OF THE DUMP (.gsa) THAT YtmogojefpjmhkaaProg.lean LOADS. Nothing in Lean hashes anything: it is a label: what it is worth is what the hold of that sum in a sandbox is worth. -/
noncomputable def Try.pinned : Pinned := { name := "ytmogojefpjmhkaa", sum := "bbe670692f50bd25c57fdd66789567e08d8b1398a545bffecc8f349b01f93f59", checked := Try.checked }
namespace Rows
def none {H : Type} : Left H := { results := [], args := [] }

/-- 'tallboylaw15.VerbNames': WHATEVER THE INPUT: true; the input reads as it did. -/
def verbNamesSpec : ChangeSpec := { name := "verbNames", fn := fun _ => fun
  | [d1, d2] => { results := [.lit (.bool true)], args := [d1, d2] }
  | _ => none }
def verbNamesRow : OpenClaim := { program := "ytmogojefpjmhkaa", sum := "bbe670692f50bd25c57fdd66789567e08d8b1398a545bffecc8f349b01f93f59", func := "tallboy/tallboylaw15.VerbNames", spec := "verbNames", apart := false }
def VerbNamesSaid : Prop := verbNamesRow.holds Try.pinned (OpenSpec.ofChange verbNamesSpec)

/-- ITS FALSE NEIGHBOUR: 'it returns false'. Refute it at one input. -/
def verbNamesWrong : ChangeSpec := { name := "verbNames", fn := fun _ => fun
  | [d1, d2] => { results := [.lit (.bool false)], args := [d1, d2] }
  | _ => none }
def VerbNamesWrongFalsely : Prop := verbNamesRow.holds Try.pinned (OpenSpec.ofChange verbNamesWrong)

/-- 'tallboylaw15.VerbChecks': WHATEVER THE INPUT: true; the input reads as it did. -/
def verbChecksSpec : ChangeSpec := { name := "verbChecks", fn := fun _ => fun
  | [d] => { results := [.lit (.bool true)], args := [d] }
  | _ => none }
def verbChecksRow : OpenClaim := { program := "ytmogojefpjmhkaa", sum := "bbe670692f50bd25c57fdd66789567e08d8b1398a545bffecc8f349b01f93f59", func := "tallboy/tallboylaw15.VerbChecks", spec := "verbChecks", unfollowed := true, recurses := true, apart := false }
def VerbChecksSaid : Prop := verbChecksRow.holds Try.pinned (OpenSpec.ofChange verbChecksSpec)

/-- ITS FALSE NEIGHBOUR: 'it returns false'. Refute it at one input. -/
def verbChecksWrong : ChangeSpec := { name := "verbChecks", fn := fun _ => fun
  | [d] => { results := [.lit (.bool false)], args := [d] }
  | _ => none }
def VerbChecksWrongFalsely : Prop := verbChecksRow.holds Try.pinned (OpenSpec.ofChange verbChecksWrong)

/-- 'tallboylaw15.VerbBack': WHATEVER THE INPUT: true; the input reads as it did. -/
def verbBackSpec : ChangeSpec := { name := "verbBack", fn := fun _ => fun
  | [d1, d2, d3] => { results := [.lit (.bool true)], args := [d1, d2, d3] }
  | _ => none }
def verbBackRow : OpenClaim := { program := "ytmogojefpjmhkaa", sum := "bbe670692f50bd25c57fdd66789567e08d8b1398a545bffecc8f349b01f93f59", func := "tallboy/tallboylaw15.VerbBack", spec := "verbBack", unfollowed := true, recurses := true, apart := false }
def VerbBackSaid : Prop := verbBackRow.holds Try.pinned (OpenSpec.ofChange verbBackSpec)

/-- ITS FALSE NEIGHBOUR: 'it returns false'. Refute it at one input. -/
def verbBackWrong : ChangeSpec := { name := "verbBack", fn := fun _ => fun
  | [d1, d2, d3] => { results := [.lit (.bool false)], args := [d1, d2, d3] }
  | _ => none }
def VerbBackWrongFalsely : Prop := verbBackRow.holds Try.pinned (OpenSpec.ofChange verbBackWrong)

/-- 'tallboylaw15.VerbStripes': WHATEVER THE INPUT: true; the input reads as it did. -/
def verbStripesSpec : ChangeSpec := { name := "verbStripes", fn := fun _ => fun
  | [d1, d2] => { results := [.lit (.bool true)], args := [d1, d2] }
  | _ => none }
def verbStripesRow : OpenClaim := { program := "ytmogojefpjmhkaa", sum := "bbe670692f50bd25c57fdd66789567e08d8b1398a545bffecc8f349b01f93f59", func := "tallboy/tallboylaw15.VerbStripes", spec := "verbStripes", unfollowed := true, recurses := true, apart := false }
def VerbStripesSaid : Prop := verbStripesRow.holds Try.pinned (OpenSpec.ofChange verbStripesSpec)

/-- ITS FALSE NEIGHBOUR: 'it returns false'. Refute it at one input. -/
def verbStripesWrong : ChangeSpec := { name := "verbStripes", fn := fun _ => fun
  | [d1, d2] => { results := [.lit (.bool false)], args := [d1, d2] }
  | _ => none }
def VerbStripesWrongFalsely : Prop := verbStripesRow.holds Try.pinned (OpenSpec.ofChange verbStripesWrong)

/-- 'tallboylaw15.VerbFields': WHATEVER THE INPUT: true; the input reads as it did. -/
def verbFieldsSpec : ChangeSpec := { name := "verbFields", fn := fun _ => fun
  | [d1, d2] => { results := [.lit (.bool true)], args := [d1, d2] }
  | _ => none }
def verbFieldsRow : OpenClaim := { program := "ytmogojefpjmhkaa", sum := "bbe670692f50bd25c57fdd66789567e08d8b1398a545bffecc8f349b01f93f59", func := "tallboy/tallboylaw15.VerbFields", spec := "verbFields", unfollowed := true, recurses := true, apart := false }
def VerbFieldsSaid : Prop := verbFieldsRow.holds Try.pinned (OpenSpec.ofChange verbFieldsSpec)

/-- ITS FALSE NEIGHBOUR: 'it returns false'. Refute it at one input. -/
def verbFieldsWrong : ChangeSpec := { name := "verbFields", fn := fun _ => fun
  | [d1, d2] => { results := [.lit (.bool false)], args := [d1, d2] }
  | _ => none }
def VerbFieldsWrongFalsely : Prop := verbFieldsRow.holds Try.pinned (OpenSpec.ofChange verbFieldsWrong)

/- THE SECOND FORM. 'bulk': how many values and letters a reading holds, each counted each time it is reached (what is shared counts as often as it is met; a slice's spare places count too). A statement '..UptoSaid' is the law's where the arguments, and the package variables that the reading takes, are together of bulk at most 1048576: NARROWER than '..Said'. Prove '..Said' where nothing that the law and all that it calls make is longer than what came in: it says more and counts as full. Else prove '..UptoSaid'. A law counts once. -/
mutual
def uptoBulk {H : Type} : DataW H → Nat
  | .lit (.string bytes) => bytes.length + 1
  | .lit _ => 1
  | .nil => 1
  | .ptr d => uptoBulk d + 1
  | .slice elems spare => uptoBulkAll elems + uptoBulkAll spare + 1
  | .agg parts => uptoBulkAll parts + 1
  | .iface _ d => uptoBulk d + 1
  | .map entries => uptoBulkEntries entries + 1
  | .held _ => 1
def uptoBulkAll {H : Type} : List (DataW H) → Nat
  | [] => 0
  | d :: r => uptoBulk d + uptoBulkAll r
def uptoBulkEntries {H : Type} : List (Lit × DataW H) → Nat
  | [] => 0
  | x :: r => uptoBulkEntry x + uptoBulkEntries r
def uptoBulkEntry {H : Type} : Lit × DataW H → Nat
  | (.string bytes, d) => bytes.length + uptoBulk d + 1
  | (_, d) => uptoBulk d + 1
 end
def uptoSmall : (H : Type) → List (DataW H) → Bool := fun _ ds => decide (uptoBulkAll ds ≤ 1048576)
def OpenSpec.upto (s : _root_.Go.ChangeSpec) : _root_.Go.OpenSpec := { _root_.Go.OpenSpec.ofChange s with cond := some uptoSmall }

/-- 'tallboylaw15.VerbNames', WHERE WHAT IT READS IS OF BULK AT MOST 1048576: true; the input reads as it did. -/
def verbNamesUptoRow : OpenClaim := { program := "ytmogojefpjmhkaa", sum := "bbe670692f50bd25c57fdd66789567e08d8b1398a545bffecc8f349b01f93f59", func := "tallboy/tallboylaw15.VerbNames", spec := "verbNames", apart := false, narrowed := true }
def VerbNamesUptoSaid : Prop := verbNamesUptoRow.holds Try.pinned (OpenSpec.upto verbNamesSpec)

/-- 'tallboylaw15.VerbChecks', WHERE WHAT IT READS IS OF BULK AT MOST 1048576: true; the input reads as it did. -/
def verbChecksUptoRow : OpenClaim := { program := "ytmogojefpjmhkaa", sum := "bbe670692f50bd25c57fdd66789567e08d8b1398a545bffecc8f349b01f93f59", func := "tallboy/tallboylaw15.VerbChecks", spec := "verbChecks", unfollowed := true, recurses := true, apart := false, narrowed := true }
def VerbChecksUptoSaid : Prop := verbChecksUptoRow.holds Try.pinned (OpenSpec.upto verbChecksSpec)

/-- 'tallboylaw15.VerbBack', WHERE WHAT IT READS IS OF BULK AT MOST 1048576: true; the input reads as it did. -/
def verbBackUptoRow : OpenClaim := { program := "ytmogojefpjmhkaa", sum := "bbe670692f50bd25c57fdd66789567e08d8b1398a545bffecc8f349b01f93f59", func := "tallboy/tallboylaw15.VerbBack", spec := "verbBack", unfollowed := true, recurses := true, apart := false, narrowed := true }
def VerbBackUptoSaid : Prop := verbBackUptoRow.holds Try.pinned (OpenSpec.upto verbBackSpec)

/-- 'tallboylaw15.VerbStripes', WHERE WHAT IT READS IS OF BULK AT MOST 1048576: true; the input reads as it did. -/
def verbStripesUptoRow : OpenClaim := { program := "ytmogojefpjmhkaa", sum := "bbe670692f50bd25c57fdd66789567e08d8b1398a545bffecc8f349b01f93f59", func := "tallboy/tallboylaw15.VerbStripes", spec := "verbStripes", unfollowed := true, recurses := true, apart := false, narrowed := true }
def VerbStripesUptoSaid : Prop := verbStripesUptoRow.holds Try.pinned (OpenSpec.upto verbStripesSpec)

/-- 'tallboylaw15.VerbFields', WHERE WHAT IT READS IS OF BULK AT MOST 1048576: true; the input reads as it did. -/
def verbFieldsUptoRow : OpenClaim := { program := "ytmogojefpjmhkaa", sum := "bbe670692f50bd25c57fdd66789567e08d8b1398a545bffecc8f349b01f93f59", func := "tallboy/tallboylaw15.VerbFields", spec := "verbFields", unfollowed := true, recurses := true, apart := false, narrowed := true }
def VerbFieldsUptoSaid : Prop := verbFieldsUptoRow.holds Try.pinned (OpenSpec.upto verbFieldsSpec)

end Rows
end Go.Proofs.Ytmogojefpjmhkaa
