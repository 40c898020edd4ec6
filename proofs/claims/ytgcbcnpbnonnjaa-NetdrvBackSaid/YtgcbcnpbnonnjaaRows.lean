/-
  No cell of these rows narrows 'for every input' (looked for: loops, veiled, ifaces, maps, wideKeys, modest, calm, conditions, laid).
  DERIVED. THE GIVEN ROWS OF THIS SEAT. 4 by the template 'for every input the law returns true; each argument reads behind the call as it read before'; 0 by the template 'total and deterministic' (their statements: YtgcbcnpbnonnjaaTotals.lean).
  GIVEN WITH THE SEED: the statements are not yours to turn. If you find one false, say at which input.
  Laid BY PROGRAM, IN A SANDBOX (cutbox-rows.mjs): the forced cells as the released guide's own fill.sh prints them over the translation 59803b71a0478f76… (all of the seat's roots in one cut). By AI agents, Wed Nov 11 2026. No macro, syntax, notation, axiom, sorry.
-/
import Derived.Test.YtgcbcnpbnonnjaaChecked
import GoSem.Claim
import GoSem.ClaimJoined
import GoSem.ClaimMapViews
import Derived.JoinedTies
import Derived.KernelRfl
namespace Go.Proofs.Ytgcbcnpbnonnjaa
/- THE CELL 'sum', in the pinned program and in every row, IS THE sha256 OF THE DUMP (.gsa) THAT YtgcbcnpbnonnjaaProg.lean LOADS. Nothing in Lean hashes anything: it is a label: what it is worth is what the hold of that sum in a sandbox is worth. -/
noncomputable def Try.pinned : Pinned := { name := "ytgcbcnpbnonnjaa", sum := "59803b71a0478f764373607f9dbf8922b8cb96d4ca6945bd1b13b461a64779dd", checked := Try.checked }
namespace Rows
def none {H : Type} : Left H := { results := [], args := [] }

/-- 'dumbwaiterlaw26.NetdrvPosts': WHATEVER THE INPUT: true; the input reads as it did. -/
def netdrvPostsSpec : ChangeSpec := { name := "netdrvPosts", fn := fun _ => fun
  | [d1, d2, d3] => { results := [.lit (.bool true)], args := [d1, d2, d3] }
  | _ => none }
def netdrvPostsRow : OpenClaim := { program := "ytgcbcnpbnonnjaa", sum := "59803b71a0478f764373607f9dbf8922b8cb96d4ca6945bd1b13b461a64779dd", func := "dumbwaiter/dumbwaiterlaw26.NetdrvPosts", spec := "netdrvPosts", unfollowed := true, recurses := true, apart := false }
def NetdrvPostsSaid : Prop := netdrvPostsRow.holds Try.pinned (OpenSpec.ofChange netdrvPostsSpec)

/-- ITS FALSE NEIGHBOUR: 'it returns false'. Refute it at one input. -/
def netdrvPostsWrong : ChangeSpec := { name := "netdrvPosts", fn := fun _ => fun
  | [d1, d2, d3] => { results := [.lit (.bool false)], args := [d1, d2, d3] }
  | _ => none }
def NetdrvPostsWrongFalsely : Prop := netdrvPostsRow.holds Try.pinned (OpenSpec.ofChange netdrvPostsWrong)

/-- 'dumbwaiterlaw26.NetdrvSends': WHATEVER THE INPUT: true; the input reads as it did. -/
def netdrvSendsSpec : ChangeSpec := { name := "netdrvSends", fn := fun _ => fun
  | [d1, d2, d3, d4, d5] => { results := [.lit (.bool true)], args := [d1, d2, d3, d4, d5] }
  | _ => none }
def netdrvSendsRow : OpenClaim := { program := "ytgcbcnpbnonnjaa", sum := "59803b71a0478f764373607f9dbf8922b8cb96d4ca6945bd1b13b461a64779dd", func := "dumbwaiter/dumbwaiterlaw26.NetdrvSends", spec := "netdrvSends", unfollowed := true, recurses := true, apart := false }
def NetdrvSendsSaid : Prop := netdrvSendsRow.holds Try.pinned (OpenSpec.ofChange netdrvSendsSpec)

/-- ITS FALSE NEIGHBOUR: 'it returns false'. Refute it at one input. -/
def netdrvSendsWrong : ChangeSpec := { name := "netdrvSends", fn := fun _ => fun
  | [d1, d2, d3, d4, d5] => { results := [.lit (.bool false)], args := [d1, d2, d3, d4, d5] }
  | _ => none }
def NetdrvSendsWrongFalsely : Prop := netdrvSendsRow.holds Try.pinned (OpenSpec.ofChange netdrvSendsWrong)

/-- 'dumbwaiterlaw26.NetdrvBack': WHATEVER THE INPUT: true; the input reads as it did. -/
def netdrvBackSpec : ChangeSpec := { name := "netdrvBack", fn := fun _ => fun
  | [d1, d2, d3, d4] => { results := [.lit (.bool true)], args := [d1, d2, d3, d4] }
  | _ => none }
def netdrvBackRow : OpenClaim := { program := "ytgcbcnpbnonnjaa", sum := "59803b71a0478f764373607f9dbf8922b8cb96d4ca6945bd1b13b461a64779dd", func := "dumbwaiter/dumbwaiterlaw26.NetdrvBack", spec := "netdrvBack", unfollowed := true, recurses := true, apart := false }
def NetdrvBackSaid : Prop := netdrvBackRow.holds Try.pinned (OpenSpec.ofChange netdrvBackSpec)

/-- ITS FALSE NEIGHBOUR: 'it returns false'. Refute it at one input. -/
def netdrvBackWrong : ChangeSpec := { name := "netdrvBack", fn := fun _ => fun
  | [d1, d2, d3, d4] => { results := [.lit (.bool false)], args := [d1, d2, d3, d4] }
  | _ => none }
def NetdrvBackWrongFalsely : Prop := netdrvBackRow.holds Try.pinned (OpenSpec.ofChange netdrvBackWrong)

/-- 'dumbwaiterlaw26.NetdrvCounts': WHATEVER THE INPUT: true; the input reads as it did. -/
def netdrvCountsSpec : ChangeSpec := { name := "netdrvCounts", fn := fun _ => fun
  | [d1, d2, d3, d4] => { results := [.lit (.bool true)], args := [d1, d2, d3, d4] }
  | _ => none }
def netdrvCountsRow : OpenClaim := { program := "ytgcbcnpbnonnjaa", sum := "59803b71a0478f764373607f9dbf8922b8cb96d4ca6945bd1b13b461a64779dd", func := "dumbwaiter/dumbwaiterlaw26.NetdrvCounts", spec := "netdrvCounts", unfollowed := true, recurses := true, apart := false }
def NetdrvCountsSaid : Prop := netdrvCountsRow.holds Try.pinned (OpenSpec.ofChange netdrvCountsSpec)

/-- ITS FALSE NEIGHBOUR: 'it returns false'. Refute it at one input. -/
def netdrvCountsWrong : ChangeSpec := { name := "netdrvCounts", fn := fun _ => fun
  | [d1, d2, d3, d4] => { results := [.lit (.bool false)], args := [d1, d2, d3, d4] }
  | _ => none }
def NetdrvCountsWrongFalsely : Prop := netdrvCountsRow.holds Try.pinned (OpenSpec.ofChange netdrvCountsWrong)

/- THE SECOND FORM. 'bulk': how many values and letters a reading holds, each counted each time it is reached (what is shared counts as often as it is met; a slice's spare places count too). A statement '..UptoSaid' is the law's where the arguments, and the package variables that the reading takes, are together of bulk at most 1048576: NARROWER than '..Said'. Prove '..Said' where nothing that the law and all that it calls make is longer than what came in: it says more and counts as full. Else prove '..UptoSaid'. A law counts once. -/
mutual
def uptoBulk {H : Type} : DataW H → Nat
  | .lit (.string bytes) => bytes.length + 1
  | .lit _ => 1
  | .nil => 1
  | .ptr d => uptoBulk d + 1
  | .slice elems spare => uptoBulkAll elems + uptoBulkAll spare + 1
  | .agg parts => uptoBulkAll parts + 1
  | .iface _ d => uptoBulk d + 1
  | .map entries => uptoBulkEntries entries + 1
  | .held _ => 1
def uptoBulkAll {H : Type} : List (DataW H) → Nat
  | [] => 0
  | d :: r => uptoBulk d + uptoBulkAll r
def uptoBulkEntries {H : Type} : List (Lit × DataW H) → Nat
  | [] => 0
  | x :: r => uptoBulkEntry x + uptoBulkEntries r
def uptoBulkEntry {H : Type} : Lit × DataW H → Nat
  | (.string bytes, d) => bytes.length + uptoBulk d + 1
  | (_, d) => uptoBulk d + 1
 end
def uptoSmall : (H : Type) → List (DataW H) → Bool := fun _ ds => decide (uptoBulkAll ds ≤ 1048576)
def OpenSpec.upto (s : _root_.Go.ChangeSpec) : _root_.Go.OpenSpec := { _root_.Go.OpenSpec.ofChange s with cond := some uptoSmall }

/-- 'dumbwaiterlaw26.NetdrvPosts', WHERE WHAT IT READS IS OF BULK AT MOST 1048576: true; the input reads as it did. -/
def netdrvPostsUptoRow : OpenClaim := { program := "ytgcbcnpbnonnjaa", sum := "59803b71a0478f764373607f9dbf8922b8cb96d4ca6945bd1b13b461a64779dd", func := "dumbwaiter/dumbwaiterlaw26.NetdrvPosts", spec := "netdrvPosts", unfollowed := true, recurses := true, apart := false, narrowed := true }
def NetdrvPostsUptoSaid : Prop := netdrvPostsUptoRow.holds Try.pinned (OpenSpec.upto netdrvPostsSpec)

/-- 'dumbwaiterlaw26.NetdrvSends', WHERE WHAT IT READS IS OF BULK AT MOST 1048576: true; the input reads as it did. -/
def netdrvSendsUptoRow : OpenClaim := { program := "ytgcbcnpbnonnjaa", sum := "59803b71a0478f764373607f9dbf8922b8cb96d4ca6945bd1b13b461a64779dd", func := "dumbwaiter/dumbwaiterlaw26.NetdrvSends", spec := "netdrvSends", unfollowed := true, recurses := true, apart := false, narrowed := true }
def NetdrvSendsUptoSaid : Prop := netdrvSendsUptoRow.holds Try.pinned (OpenSpec.upto netdrvSendsSpec)

/-- 'dumbwaiterlaw26.NetdrvBack', WHERE WHAT IT READS IS OF BULK AT MOST 1048576: true; the input reads as it did. -/
def netdrvBackUptoRow : OpenClaim := { program := "ytgcbcnpbnonnjaa", sum := "59803b71a0478f764373607f9dbf8922b8cb96d4ca6945bd1b13b461a64779dd", func := "dumbwaiter/dumbwaiterlaw26.NetdrvBack", spec := "netdrvBack", unfollowed := true, recurses := true, apart := false, narrowed := true }
def NetdrvBackUptoSaid : Prop := netdrvBackUptoRow.holds Try.pinned (OpenSpec.upto netdrvBackSpec)

/-- 'dumbwaiterlaw26.NetdrvCounts', WHERE WHAT IT READS IS OF BULK AT MOST 1048576: true; the input reads as it did. -/
def netdrvCountsUptoRow : OpenClaim := { program := "ytgcbcnpbnonnjaa", sum := "59803b71a0478f764373607f9dbf8922b8cb96d4ca6945bd1b13b461a64779dd", func := "dumbwaiter/dumbwaiterlaw26.NetdrvCounts", spec := "netdrvCounts", unfollowed := true, recurses := true, apart := false, narrowed := true }
def NetdrvCountsUptoSaid : Prop := netdrvCountsUptoRow.holds Try.pinned (OpenSpec.upto netdrvCountsSpec)

end Rows
end Go.Proofs.Ytgcbcnpbnonnjaa
