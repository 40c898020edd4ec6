/-
  No cell of these rows narrows 'for every input' (looked for: loops, veiled, ifaces, maps, wideKeys, modest, calm, conditions, laid).
  DERIVED. THE GIVEN ROWS OF THIS SEAT. 4 by the template 'for every input the law returns true; each argument reads behind the call as it read before'; 0 by the template 'total and deterministic' (their statements: YtdaijemhibbgeaaTotals.lean).
  GIVEN WITH THE SEED: the statements are not yours to turn. If you find one false, say at which input.
  Laid BY PROGRAM, IN A SANDBOX (cutbox-rows.mjs): the forced cells as the released guide's own fill.sh prints them over the translation 4a76bd537c4dea4e… (all of the seat's roots in one cut). By AI agents, Wed Nov 11 2026. No macro, syntax, notation, axiom, sorry.
-/
import Derived.Test.YtdaijemhibbgeaaChecked
import GoSem.Claim
import GoSem.ClaimJoined
import GoSem.ClaimMapViews
import Derived.JoinedTies
import Derived.KernelRfl
namespace Go.Proofs.Ytdaijemhibbgeaa
/- THE CELL 'sum', in the pinned program and in every row, IS THE sha256 OF THE DUMP (.gsa) THAT YtdaijemhibbgeaaProg.lean LOADS. Nothing in Lean hashes anything: it is a label: what it is worth is what the hold of that sum in a sandbox is worth. -/
noncomputable def Try.pinned : Pinned := { name := "ytdaijemhibbgeaa", sum := "4a76bd537c4dea4e90a1607f0812ee605e1620c6979237454837751f4bdd3202", checked := Try.checked }
namespace Rows
def none {H : Type} : Left H := { results := [], args := [] }

/-- 'dumbwaiterlaw25.NetDelivers': WHATEVER THE INPUT: true; the input reads as it did. -/
def netDeliversSpec : ChangeSpec := { name := "netDelivers", fn := fun _ => fun
  | [d1, d2, d3, d4] => { results := [.lit (.bool true)], args := [d1, d2, d3, d4] }
  | _ => none }
def netDeliversRow : OpenClaim := { program := "ytdaijemhibbgeaa", sum := "4a76bd537c4dea4e90a1607f0812ee605e1620c6979237454837751f4bdd3202", func := "dumbwaiter/dumbwaiterlaw25.NetDelivers", spec := "netDelivers", unfollowed := true, recurses := true, apart := false }
def NetDeliversSaid : Prop := netDeliversRow.holds Try.pinned (OpenSpec.ofChange netDeliversSpec)

/-- ITS FALSE NEIGHBOUR: 'it returns false'. Refute it at one input. -/
def netDeliversWrong : ChangeSpec := { name := "netDelivers", fn := fun _ => fun
  | [d1, d2, d3, d4] => { results := [.lit (.bool false)], args := [d1, d2, d3, d4] }
  | _ => none }
def NetDeliversWrongFalsely : Prop := netDeliversRow.holds Try.pinned (OpenSpec.ofChange netDeliversWrong)

/-- 'dumbwaiterlaw25.NetSums': WHATEVER THE INPUT: true; the input reads as it did. -/
def netSumsSpec : ChangeSpec := { name := "netSums", fn := fun _ => fun
  | [d1, d2] => { results := [.lit (.bool true)], args := [d1, d2] }
  | _ => none }
def netSumsRow : OpenClaim := { program := "ytdaijemhibbgeaa", sum := "4a76bd537c4dea4e90a1607f0812ee605e1620c6979237454837751f4bdd3202", func := "dumbwaiter/dumbwaiterlaw25.NetSums", spec := "netSums", unfollowed := true, recurses := true, apart := false }
def NetSumsSaid : Prop := netSumsRow.holds Try.pinned (OpenSpec.ofChange netSumsSpec)

/-- ITS FALSE NEIGHBOUR: 'it returns false'. Refute it at one input. -/
def netSumsWrong : ChangeSpec := { name := "netSums", fn := fun _ => fun
  | [d1, d2] => { results := [.lit (.bool false)], args := [d1, d2] }
  | _ => none }
def NetSumsWrongFalsely : Prop := netSumsRow.holds Try.pinned (OpenSpec.ofChange netSumsWrong)

/-- 'dumbwaiterlaw25.NetConfigs': WHATEVER THE INPUT: true; the input reads as it did. -/
def netConfigsSpec : ChangeSpec := { name := "netConfigs", fn := fun _ => fun
  | [d1, d2, d3, d4, d5] => { results := [.lit (.bool true)], args := [d1, d2, d3, d4, d5] }
  | _ => none }
def netConfigsRow : OpenClaim := { program := "ytdaijemhibbgeaa", sum := "4a76bd537c4dea4e90a1607f0812ee605e1620c6979237454837751f4bdd3202", func := "dumbwaiter/dumbwaiterlaw25.NetConfigs", spec := "netConfigs", unfollowed := true, recurses := true, apart := false }
def NetConfigsSaid : Prop := netConfigsRow.holds Try.pinned (OpenSpec.ofChange netConfigsSpec)

/-- ITS FALSE NEIGHBOUR: 'it returns false'. Refute it at one input. -/
def netConfigsWrong : ChangeSpec := { name := "netConfigs", fn := fun _ => fun
  | [d1, d2, d3, d4, d5] => { results := [.lit (.bool false)], args := [d1, d2, d3, d4, d5] }
  | _ => none }
def NetConfigsWrongFalsely : Prop := netConfigsRow.holds Try.pinned (OpenSpec.ofChange netConfigsWrong)

/-- 'dumbwaiterlaw25.NetNames': WHATEVER THE INPUT: true; the input reads as it did. -/
def netNamesSpec : ChangeSpec := { name := "netNames", fn := fun _ => fun
  | [] => { results := [.lit (.bool true)], args := [] }
  | _ => none }
def netNamesRow : OpenClaim := { program := "ytdaijemhibbgeaa", sum := "4a76bd537c4dea4e90a1607f0812ee605e1620c6979237454837751f4bdd3202", func := "dumbwaiter/dumbwaiterlaw25.NetNames", spec := "netNames", unfollowed := true, recurses := true, apart := false }
def NetNamesSaid : Prop := netNamesRow.holds Try.pinned (OpenSpec.ofChange netNamesSpec)

/-- ITS FALSE NEIGHBOUR: 'it returns false'. Refute it at one input. -/
def netNamesWrong : ChangeSpec := { name := "netNames", fn := fun _ => fun
  | [] => { results := [.lit (.bool false)], args := [] }
  | _ => none }
def NetNamesWrongFalsely : Prop := netNamesRow.holds Try.pinned (OpenSpec.ofChange netNamesWrong)

/- THE SECOND FORM. 'bulk': how many values and letters a reading holds, each counted each time it is reached (what is shared counts as often as it is met; a slice's spare places count too). A statement '..UptoSaid' is the law's where the arguments, and the package variables that the reading takes, are together of bulk at most 1048576: NARROWER than '..Said'. Prove '..Said' where nothing that the law and all that it calls make is longer than what came in: it says more and counts as full. Else prove '..UptoSaid'. A law counts once. -/
mutual
def uptoBulk {H : Type} : DataW H → Nat
  | .lit (.string bytes) => bytes.length + 1
  | .lit _ => 1
  | .nil => 1
  | .ptr d => uptoBulk d + 1
  | .slice elems spare => uptoBulkAll elems + uptoBulkAll spare + 1
  | .agg parts => uptoBulkAll parts + 1
  | .iface _ d => uptoBulk d + 1
  | .map entries => uptoBulkEntries entries + 1
  | .held _ => 1
def uptoBulkAll {H : Type} : List (DataW H) → Nat
  | [] => 0
  | d :: r => uptoBulk d + uptoBulkAll r
def uptoBulkEntries {H : Type} : List (Lit × DataW H) → Nat
  | [] => 0
  | x :: r => uptoBulkEntry x + uptoBulkEntries r
def uptoBulkEntry {H : Type} : Lit × DataW H → Nat
  | (.string bytes, d) => bytes.length + uptoBulk d + 1
  | (_, d) => uptoBulk d + 1
 end
def uptoSmall : (H : Type) → List (DataW H) → Bool := fun _ ds => decide (uptoBulkAll ds ≤ 1048576)
def OpenSpec.upto (s : _root_.Go.ChangeSpec) : _root_.Go.OpenSpec := { _root_.Go.OpenSpec.ofChange s with cond := some uptoSmall }

/-- 'dumbwaiterlaw25.NetDelivers', WHERE WHAT IT READS IS OF BULK AT MOST 1048576: true; the input reads as it did. -/
def netDeliversUptoRow : OpenClaim := { program := "ytdaijemhibbgeaa", sum := "4a76bd537c4dea4e90a1607f0812ee605e1620c6979237454837751f4bdd3202", func := "dumbwaiter/dumbwaiterlaw25.NetDelivers", spec := "netDelivers", unfollowed := true, recurses := true, apart := false, narrowed := true }
def NetDeliversUptoSaid : Prop := netDeliversUptoRow.holds Try.pinned (OpenSpec.upto netDeliversSpec)

/-- 'dumbwaiterlaw25.NetSums', WHERE WHAT IT READS IS OF BULK AT MOST 1048576: true; the input reads as it did. -/
def netSumsUptoRow : OpenClaim := { program := "ytdaijemhibbgeaa", sum := "4a76bd537c4dea4e90a1607f0812ee605e1620c6979237454837751f4bdd3202", func := "dumbwaiter/dumbwaiterlaw25.NetSums", spec := "netSums", unfollowed := true, recurses := true, apart := false, narrowed := true }
def NetSumsUptoSaid : Prop := netSumsUptoRow.holds Try.pinned (OpenSpec.upto netSumsSpec)

/-- 'dumbwaiterlaw25.NetConfigs', WHERE WHAT IT READS IS OF BULK AT MOST 1048576: true; the input reads as it did. -/
def netConfigsUptoRow : OpenClaim := { program := "ytdaijemhibbgeaa", sum := "4a76bd537c4dea4e90a1607f0812ee605e1620c6979237454837751f4bdd3202", func := "dumbwaiter/dumbwaiterlaw25.NetConfigs", spec := "netConfigs", unfollowed := true, recurses := true, apart := false, narrowed := true }
def NetConfigsUptoSaid : Prop := netConfigsUptoRow.holds Try.pinned (OpenSpec.upto netConfigsSpec)

/-- 'dumbwaiterlaw25.NetNames', WHERE WHAT IT READS IS OF BULK AT MOST 1048576: true; the input reads as it did. -/
def netNamesUptoRow : OpenClaim := { program := "ytdaijemhibbgeaa", sum := "4a76bd537c4dea4e90a1607f0812ee605e1620c6979237454837751f4bdd3202", func := "dumbwaiter/dumbwaiterlaw25.NetNames", spec := "netNames", unfollowed := true, recurses := true, apart := false, narrowed := true }
def NetNamesUptoSaid : Prop := netNamesUptoRow.holds Try.pinned (OpenSpec.upto netNamesSpec)

end Rows
end Go.Proofs.Ytdaijemhibbgeaa
