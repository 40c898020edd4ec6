/-
  No cell of these rows narrows 'for every input' (looked for: loops, veiled, ifaces, maps, wideKeys, modest, calm, conditions, laid).
  DERIVED. THE GIVEN ROWS OF THIS SEAT. 5 by the template 'for every input the law returns true; each argument reads behind the call as it read before'; 0 by the template 'total and deterministic' (their statements: YtecmlfmbmligeaaTotals.lean).
  GIVEN WITH THE SEED: the statements are not yours to turn. If you find one false, say at which input.
  Laid BY PROGRAM, IN A SANDBOX (cutbox-rows.mjs): the forced cells as the released guide's own fill.sh prints them over the translation 7a3bede144b73fc1… (all of the seat's roots in one cut). By AI agents, Wed Nov 11 2026. No macro, syntax, notation, axiom, sorry.
-/
import Derived.Test.YtecmlfmbmligeaaChecked
import GoSem.Claim
import GoSem.ClaimJoined
import GoSem.ClaimMapViews
import Derived.JoinedTies
import Derived.KernelRfl
namespace Go.Proofs.Ytecmlfmbmligeaa
/- THE CELL 'sum', in the pinned program and in every row, IS THE sha256 OF THE DUMP (.gsa) THAT YtecmlfmbmligeaaProg.lean LOADS. Nothing in Lean hashes anything: it is a label: what it is worth is what the hold of that sum in a sandbox is worth. -/
noncomputable def Try.pinned : Pinned := { name := "ytecmlfmbmligeaa", sum := "7a3bede144b73fc1a7d977e6a89477c764f13ec92d47be0f6620fb9d89546542", checked := Try.checked }
namespace Rows
def none {H : Type} : Left H := { results := [], args := [] }

/-- 'dumbwaiterlaw02.GmemHolds': WHATEVER THE INPUT: true; the input reads as it did. -/
def gmemHoldsSpec : ChangeSpec := { name := "gmemHolds", fn := fun _ => fun
  | [d1, d2] => { results := [.lit (.bool true)], args := [d1, d2] }
  | _ => none }
def gmemHoldsRow : OpenClaim := { program := "ytecmlfmbmligeaa", sum := "7a3bede144b73fc1a7d977e6a89477c764f13ec92d47be0f6620fb9d89546542", func := "dumbwaiter/dumbwaiterlaw02.GmemHolds", spec := "gmemHolds", unfollowed := true, recurses := true, apart := false }
def GmemHoldsSaid : Prop := gmemHoldsRow.holds Try.pinned (OpenSpec.ofChange gmemHoldsSpec)

/-- ITS FALSE NEIGHBOUR: 'it returns false'. Refute it at one input. -/
def gmemHoldsWrong : ChangeSpec := { name := "gmemHolds", fn := fun _ => fun
  | [d1, d2] => { results := [.lit (.bool false)], args := [d1, d2] }
  | _ => none }
def GmemHoldsWrongFalsely : Prop := gmemHoldsRow.holds Try.pinned (OpenSpec.ofChange gmemHoldsWrong)

/-- 'dumbwaiterlaw02.GmemNames': WHATEVER THE INPUT: true; the input reads as it did. -/
def gmemNamesSpec : ChangeSpec := { name := "gmemNames", fn := fun _ => fun
  | [] => { results := [.lit (.bool true)], args := [] }
  | _ => none }
def gmemNamesRow : OpenClaim := { program := "ytecmlfmbmligeaa", sum := "7a3bede144b73fc1a7d977e6a89477c764f13ec92d47be0f6620fb9d89546542", func := "dumbwaiter/dumbwaiterlaw02.GmemNames", spec := "gmemNames", unfollowed := true, recurses := true, apart := false }
def GmemNamesSaid : Prop := gmemNamesRow.holds Try.pinned (OpenSpec.ofChange gmemNamesSpec)

/-- ITS FALSE NEIGHBOUR: 'it returns false'. Refute it at one input. -/
def gmemNamesWrong : ChangeSpec := { name := "gmemNames", fn := fun _ => fun
  | [] => { results := [.lit (.bool false)], args := [] }
  | _ => none }
def GmemNamesWrongFalsely : Prop := gmemNamesRow.holds Try.pinned (OpenSpec.ofChange gmemNamesWrong)

/-- 'dumbwaiterlaw02.GmemWords': WHATEVER THE INPUT: true; the input reads as it did. -/
def gmemWordsSpec : ChangeSpec := { name := "gmemWords", fn := fun _ => fun
  | [d1, d2, d3, d4] => { results := [.lit (.bool true)], args := [d1, d2, d3, d4] }
  | _ => none }
def gmemWordsRow : OpenClaim := { program := "ytecmlfmbmligeaa", sum := "7a3bede144b73fc1a7d977e6a89477c764f13ec92d47be0f6620fb9d89546542", func := "dumbwaiter/dumbwaiterlaw02.GmemWords", spec := "gmemWords", unfollowed := true, recurses := true, apart := false }
def GmemWordsSaid : Prop := gmemWordsRow.holds Try.pinned (OpenSpec.ofChange gmemWordsSpec)

/-- ITS FALSE NEIGHBOUR: 'it returns false'. Refute it at one input. -/
def gmemWordsWrong : ChangeSpec := { name := "gmemWords", fn := fun _ => fun
  | [d1, d2, d3, d4] => { results := [.lit (.bool false)], args := [d1, d2, d3, d4] }
  | _ => none }
def GmemWordsWrongFalsely : Prop := gmemWordsRow.holds Try.pinned (OpenSpec.ofChange gmemWordsWrong)

/-- 'dumbwaiterlaw02.GmemScript': WHATEVER THE INPUT: true; the input reads as it did. -/
def gmemScriptSpec : ChangeSpec := { name := "gmemScript", fn := fun _ => fun
  | [d1, d2] => { results := [.lit (.bool true)], args := [d1, d2] }
  | _ => none }
def gmemScriptRow : OpenClaim := { program := "ytecmlfmbmligeaa", sum := "7a3bede144b73fc1a7d977e6a89477c764f13ec92d47be0f6620fb9d89546542", func := "dumbwaiter/dumbwaiterlaw02.GmemScript", spec := "gmemScript", unfollowed := true, recurses := true, apart := false }
def GmemScriptSaid : Prop := gmemScriptRow.holds Try.pinned (OpenSpec.ofChange gmemScriptSpec)

/-- ITS FALSE NEIGHBOUR: 'it returns false'. Refute it at one input. -/
def gmemScriptWrong : ChangeSpec := { name := "gmemScript", fn := fun _ => fun
  | [d1, d2] => { results := [.lit (.bool false)], args := [d1, d2] }
  | _ => none }
def GmemScriptWrongFalsely : Prop := gmemScriptRow.holds Try.pinned (OpenSpec.ofChange gmemScriptWrong)

/-- 'dumbwaiterlaw02.GmemNil': WHATEVER THE INPUT: true; the input reads as it did. -/
def gmemNilSpec : ChangeSpec := { name := "gmemNil", fn := fun _ => fun
  | [d1, d2, d3] => { results := [.lit (.bool true)], args := [d1, d2, d3] }
  | _ => none }
def gmemNilRow : OpenClaim := { program := "ytecmlfmbmligeaa", sum := "7a3bede144b73fc1a7d977e6a89477c764f13ec92d47be0f6620fb9d89546542", func := "dumbwaiter/dumbwaiterlaw02.GmemNil", spec := "gmemNil", unfollowed := true, recurses := true, apart := false }
def GmemNilSaid : Prop := gmemNilRow.holds Try.pinned (OpenSpec.ofChange gmemNilSpec)

/-- ITS FALSE NEIGHBOUR: 'it returns false'. Refute it at one input. -/
def gmemNilWrong : ChangeSpec := { name := "gmemNil", fn := fun _ => fun
  | [d1, d2, d3] => { results := [.lit (.bool false)], args := [d1, d2, d3] }
  | _ => none }
def GmemNilWrongFalsely : Prop := gmemNilRow.holds Try.pinned (OpenSpec.ofChange gmemNilWrong)

/- THE SECOND FORM. 'bulk': how many values and letters a reading holds, each counted each time it is reached (what is shared counts as often as it is met; a slice's spare places count too). A statement '..UptoSaid' is the law's where the arguments, and the package variables that the reading takes, are together of bulk at most 1048576: NARROWER than '..Said'. Prove '..Said' where nothing that the law and all that it calls make is longer than what came in: it says more and counts as full. Else prove '..UptoSaid'. A law counts once. -/
mutual
def uptoBulk {H : Type} : DataW H → Nat
  | .lit (.string bytes) => bytes.length + 1
  | .lit _ => 1
  | .nil => 1
  | .ptr d => uptoBulk d + 1
  | .slice elems spare => uptoBulkAll elems + uptoBulkAll spare + 1
  | .agg parts => uptoBulkAll parts + 1
  | .iface _ d => uptoBulk d + 1
  | .map entries => uptoBulkEntries entries + 1
  | .held _ => 1
def uptoBulkAll {H : Type} : List (DataW H) → Nat
  | [] => 0
  | d :: r => uptoBulk d + uptoBulkAll r
def uptoBulkEntries {H : Type} : List (Lit × DataW H) → Nat
  | [] => 0
  | x :: r => uptoBulkEntry x + uptoBulkEntries r
def uptoBulkEntry {H : Type} : Lit × DataW H → Nat
  | (.string bytes, d) => bytes.length + uptoBulk d + 1
  | (_, d) => uptoBulk d + 1
 end
def uptoSmall : (H : Type) → List (DataW H) → Bool := fun _ ds => decide (uptoBulkAll ds ≤ 1048576)
def OpenSpec.upto (s : _root_.Go.ChangeSpec) : _root_.Go.OpenSpec := { _root_.Go.OpenSpec.ofChange s with cond := some uptoSmall }

/-- 'dumbwaiterlaw02.GmemHolds', WHERE WHAT IT READS IS OF BULK AT MOST 1048576: true; the input reads as it did. -/
def gmemHoldsUptoRow : OpenClaim := { program := "ytecmlfmbmligeaa", sum := "7a3bede144b73fc1a7d977e6a89477c764f13ec92d47be0f6620fb9d89546542", func := "dumbwaiter/dumbwaiterlaw02.GmemHolds", spec := "gmemHolds", unfollowed := true, recurses := true, apart := false, narrowed := true }
def GmemHoldsUptoSaid : Prop := gmemHoldsUptoRow.holds Try.pinned (OpenSpec.upto gmemHoldsSpec)

/-- 'dumbwaiterlaw02.GmemNames', WHERE WHAT IT READS IS OF BULK AT MOST 1048576: true; the input reads as it did. -/
def gmemNamesUptoRow : OpenClaim := { program := "ytecmlfmbmligeaa", sum := "7a3bede144b73fc1a7d977e6a89477c764f13ec92d47be0f6620fb9d89546542", func := "dumbwaiter/dumbwaiterlaw02.GmemNames", spec := "gmemNames", unfollowed := true, recurses := true, apart := false, narrowed := true }
def GmemNamesUptoSaid : Prop := gmemNamesUptoRow.holds Try.pinned (OpenSpec.upto gmemNamesSpec)

/-- 'dumbwaiterlaw02.GmemWords', WHERE WHAT IT READS IS OF BULK AT MOST 1048576: true; the input reads as it did. -/
def gmemWordsUptoRow : OpenClaim := { program := "ytecmlfmbmligeaa", sum := "7a3bede144b73fc1a7d977e6a89477c764f13ec92d47be0f6620fb9d89546542", func := "dumbwaiter/dumbwaiterlaw02.GmemWords", spec := "gmemWords", unfollowed := true, recurses := true, apart := false, narrowed := true }
def GmemWordsUptoSaid : Prop := gmemWordsUptoRow.holds Try.pinned (OpenSpec.upto gmemWordsSpec)

/-- 'dumbwaiterlaw02.GmemScript', WHERE WHAT IT READS IS OF BULK AT MOST 1048576: true; the input reads as it did. -/
def gmemScriptUptoRow : OpenClaim := { program := "ytecmlfmbmligeaa", sum := "7a3bede144b73fc1a7d977e6a89477c764f13ec92d47be0f6620fb9d89546542", func := "dumbwaiter/dumbwaiterlaw02.GmemScript", spec := "gmemScript", unfollowed := true, recurses := true, apart := false, narrowed := true }
def GmemScriptUptoSaid : Prop := gmemScriptUptoRow.holds Try.pinned (OpenSpec.upto gmemScriptSpec)

/-- 'dumbwaiterlaw02.GmemNil', WHERE WHAT IT READS IS OF BULK AT MOST 1048576: true; the input reads as it did. -/
def gmemNilUptoRow : OpenClaim := { program := "ytecmlfmbmligeaa", sum := "7a3bede144b73fc1a7d977e6a89477c764f13ec92d47be0f6620fb9d89546542", func := "dumbwaiter/dumbwaiterlaw02.GmemNil", spec := "gmemNil", unfollowed := true, recurses := true, apart := false, narrowed := true }
def GmemNilUptoSaid : Prop := gmemNilUptoRow.holds Try.pinned (OpenSpec.upto gmemNilSpec)

end Rows
end Go.Proofs.Ytecmlfmbmligeaa
