/-
  No cell of these rows narrows 'for every input' (looked for: loops, veiled, ifaces, maps, wideKeys, modest, calm, conditions, laid).
  DERIVED. THE GIVEN ROWS OF THIS SEAT. 9 by the template 'for every input the law returns true; each argument reads behind the call as it read before'; 0 by the template 'total and deterministic' (their statements: YtokkeikhghanpaaTotals.lean).
  GIVEN WITH THE SEED: the statements are not yours to turn. If you find one false, say at which input.
  Laid BY PROGRAM, IN A SANDBOX (cutbox-rows.mjs): the forced cells as the released guide's own fill.sh prints them over the translation a9596973d5994878… (all of the seat's roots in one cut). By AI agents, Wed Nov 11 2026. No macro, syntax, notation, axiom, sorry.
-/
import Derived.Test.YtokkeikhghanpaaChecked
import GoSem.Claim
import GoSem.ClaimJoined
import GoSem.ClaimMapViews
import Derived.JoinedTies
import Derived.KernelRfl
namespace Go.Proofs.Ytokkeikhghanpaa
/- THE CELL 'sum', in the pinned program and in every row, IS THE sha256 OF THE DUMP (.gsa) THAT YtokkeikhghanpaaProg.lean LOADS. Nothing in Lean hashes anything: it is a label: what it is worth is what the hold of that sum in a sandbox is worth. -/
noncomputable def Try.pinned : Pinned := { name := "ytokkeikhghanpaa", sum := "a9596973d5994878607b84475d8177f1a45eadf6b9e5ca810e747c8dbce88f91", checked := Try.checked }
namespace Rows
def none {H : Type} : Left H := { results := [], args := [] }

/-- 'laws.FnExactChooseAnswer': WHATEVER THE INPUT: true; the input reads as it did. -/
def fnExactChooseAnswerSpec : ChangeSpec := { name := "fnExactChooseAnswer", fn := fun _ => fun
  | [d1, d2, d3] => { results := [.lit (.bool true)], args := [d1, d2, d3] }
  | _ => none }
def fnExactChooseAnswerRow : OpenClaim := { program := "ytokkeikhghanpaa", sum := "a9596973d5994878607b84475d8177f1a45eadf6b9e5ca810e747c8dbce88f91", func := "loop.example/g03000/laws.FnExactChooseAnswer", spec := "fnExactChooseAnswer", unfollowed := true, recurses := true, apart := false }
def FnExactChooseAnswerSaid : Prop := fnExactChooseAnswerRow.holds Try.pinned (OpenSpec.ofChange fnExactChooseAnswerSpec)

/-- ITS FALSE NEIGHBOUR: 'it returns false'. Refute it at one input. -/
def fnExactChooseAnswerWrong : ChangeSpec := { name := "fnExactChooseAnswer", fn := fun _ => fun
  | [d1, d2, d3] => { results := [.lit (.bool false)], args := [d1, d2, d3] }
  | _ => none }
def FnExactChooseAnswerWrongFalsely : Prop := fnExactChooseAnswerRow.holds Try.pinned (OpenSpec.ofChange fnExactChooseAnswerWrong)

/-- 'laws.FnExactLostVersions': WHATEVER THE INPUT: true; the input reads as it did. -/
def fnExactLostVersionsSpec : ChangeSpec := { name := "fnExactLostVersions", fn := fun _ => fun
  | [d1, d2] => { results := [.lit (.bool true)], args := [d1, d2] }
  | _ => none }
def fnExactLostVersionsRow : OpenClaim := { program := "ytokkeikhghanpaa", sum := "a9596973d5994878607b84475d8177f1a45eadf6b9e5ca810e747c8dbce88f91", func := "loop.example/g03000/laws.FnExactLostVersions", spec := "fnExactLostVersions", unfollowed := true, recurses := true, apart := false }
def FnExactLostVersionsSaid : Prop := fnExactLostVersionsRow.holds Try.pinned (OpenSpec.ofChange fnExactLostVersionsSpec)

/-- ITS FALSE NEIGHBOUR: 'it returns false'. Refute it at one input. -/
def fnExactLostVersionsWrong : ChangeSpec := { name := "fnExactLostVersions", fn := fun _ => fun
  | [d1, d2] => { results := [.lit (.bool false)], args := [d1, d2] }
  | _ => none }
def FnExactLostVersionsWrongFalsely : Prop := fnExactLostVersionsRow.holds Try.pinned (OpenSpec.ofChange fnExactLostVersionsWrong)

/-- 'laws.FnExactPassBox': WHATEVER THE INPUT: true; the input reads as it did. -/
def fnExactPassBoxSpec : ChangeSpec := { name := "fnExactPassBox", fn := fun _ => fun
  | [d1, d2] => { results := [.lit (.bool true)], args := [d1, d2] }
  | _ => none }
def fnExactPassBoxRow : OpenClaim := { program := "ytokkeikhghanpaa", sum := "a9596973d5994878607b84475d8177f1a45eadf6b9e5ca810e747c8dbce88f91", func := "loop.example/g03000/laws.FnExactPassBox", spec := "fnExactPassBox", unfollowed := true, recurses := true, apart := false }
def FnExactPassBoxSaid : Prop := fnExactPassBoxRow.holds Try.pinned (OpenSpec.ofChange fnExactPassBoxSpec)

/-- ITS FALSE NEIGHBOUR: 'it returns false'. Refute it at one input. -/
def fnExactPassBoxWrong : ChangeSpec := { name := "fnExactPassBox", fn := fun _ => fun
  | [d1, d2] => { results := [.lit (.bool false)], args := [d1, d2] }
  | _ => none }
def FnExactPassBoxWrongFalsely : Prop := fnExactPassBoxRow.holds Try.pinned (OpenSpec.ofChange fnExactPassBoxWrong)

/-- 'laws.FnExactPassesWhole': WHATEVER THE INPUT: true; the input reads as it did. -/
def fnExactPassesWholeSpec : ChangeSpec := { name := "fnExactPassesWhole", fn := fun _ => fun
  | [d1, d2] => { results := [.lit (.bool true)], args := [d1, d2] }
  | _ => none }
def fnExactPassesWholeRow : OpenClaim := { program := "ytokkeikhghanpaa", sum := "a9596973d5994878607b84475d8177f1a45eadf6b9e5ca810e747c8dbce88f91", func := "loop.example/g03000/laws.FnExactPassesWhole", spec := "fnExactPassesWhole", unfollowed := true, recurses := true, apart := false }
def FnExactPassesWholeSaid : Prop := fnExactPassesWholeRow.holds Try.pinned (OpenSpec.ofChange fnExactPassesWholeSpec)

/-- ITS FALSE NEIGHBOUR: 'it returns false'. Refute it at one input. -/
def fnExactPassesWholeWrong : ChangeSpec := { name := "fnExactPassesWhole", fn := fun _ => fun
  | [d1, d2] => { results := [.lit (.bool false)], args := [d1, d2] }
  | _ => none }
def FnExactPassesWholeWrongFalsely : Prop := fnExactPassesWholeRow.holds Try.pinned (OpenSpec.ofChange fnExactPassesWholeWrong)

/-- 'laws.FnExactPassPath': WHATEVER THE INPUT: true; the input reads as it did. -/
def fnExactPassPathSpec : ChangeSpec := { name := "fnExactPassPath", fn := fun _ => fun
  | [d1, d2] => { results := [.lit (.bool true)], args := [d1, d2] }
  | _ => none }
def fnExactPassPathRow : OpenClaim := { program := "ytokkeikhghanpaa", sum := "a9596973d5994878607b84475d8177f1a45eadf6b9e5ca810e747c8dbce88f91", func := "loop.example/g03000/laws.FnExactPassPath", spec := "fnExactPassPath", unfollowed := true, recurses := true, apart := false }
def FnExactPassPathSaid : Prop := fnExactPassPathRow.holds Try.pinned (OpenSpec.ofChange fnExactPassPathSpec)

/-- ITS FALSE NEIGHBOUR: 'it returns false'. Refute it at one input. -/
def fnExactPassPathWrong : ChangeSpec := { name := "fnExactPassPath", fn := fun _ => fun
  | [d1, d2] => { results := [.lit (.bool false)], args := [d1, d2] }
  | _ => none }
def FnExactPassPathWrongFalsely : Prop := fnExactPassPathRow.holds Try.pinned (OpenSpec.ofChange fnExactPassPathWrong)

/-- 'laws.FnExactLostTags': WHATEVER THE INPUT: true; the input reads as it did. -/
def fnExactLostTagsSpec : ChangeSpec := { name := "fnExactLostTags", fn := fun _ => fun
  | [d1, d2, d3] => { results := [.lit (.bool true)], args := [d1, d2, d3] }
  | _ => none }
def fnExactLostTagsRow : OpenClaim := { program := "ytokkeikhghanpaa", sum := "a9596973d5994878607b84475d8177f1a45eadf6b9e5ca810e747c8dbce88f91", func := "loop.example/g03000/laws.FnExactLostTags", spec := "fnExactLostTags", unfollowed := true, recurses := true, apart := false }
def FnExactLostTagsSaid : Prop := fnExactLostTagsRow.holds Try.pinned (OpenSpec.ofChange fnExactLostTagsSpec)

/-- ITS FALSE NEIGHBOUR: 'it returns false'. Refute it at one input. -/
def fnExactLostTagsWrong : ChangeSpec := { name := "fnExactLostTags", fn := fun _ => fun
  | [d1, d2, d3] => { results := [.lit (.bool false)], args := [d1, d2, d3] }
  | _ => none }
def FnExactLostTagsWrongFalsely : Prop := fnExactLostTagsRow.holds Try.pinned (OpenSpec.ofChange fnExactLostTagsWrong)

/-- 'laws.FnExactFallbackHello': WHATEVER THE INPUT: true; the input reads as it did. -/
def fnExactFallbackHelloSpec : ChangeSpec := { name := "fnExactFallbackHello", fn := fun _ => fun
  | [d1, d2] => { results := [.lit (.bool true)], args := [d1, d2] }
  | _ => none }
def fnExactFallbackHelloRow : OpenClaim := { program := "ytokkeikhghanpaa", sum := "a9596973d5994878607b84475d8177f1a45eadf6b9e5ca810e747c8dbce88f91", func := "loop.example/g03000/laws.FnExactFallbackHello", spec := "fnExactFallbackHello", unfollowed := true, recurses := true, apart := false }
def FnExactFallbackHelloSaid : Prop := fnExactFallbackHelloRow.holds Try.pinned (OpenSpec.ofChange fnExactFallbackHelloSpec)

/-- ITS FALSE NEIGHBOUR: 'it returns false'. Refute it at one input. -/
def fnExactFallbackHelloWrong : ChangeSpec := { name := "fnExactFallbackHello", fn := fun _ => fun
  | [d1, d2] => { results := [.lit (.bool false)], args := [d1, d2] }
  | _ => none }
def FnExactFallbackHelloWrongFalsely : Prop := fnExactFallbackHelloRow.holds Try.pinned (OpenSpec.ofChange fnExactFallbackHelloWrong)

/-- 'laws.FnExactBestDeal': WHATEVER THE INPUT: true; the input reads as it did. -/
def fnExactBestDealSpec : ChangeSpec := { name := "fnExactBestDeal", fn := fun _ => fun
  | [d1, d2, d3] => { results := [.lit (.bool true)], args := [d1, d2, d3] }
  | _ => none }
def fnExactBestDealRow : OpenClaim := { program := "ytokkeikhghanpaa", sum := "a9596973d5994878607b84475d8177f1a45eadf6b9e5ca810e747c8dbce88f91", func := "loop.example/g03000/laws.FnExactBestDeal", spec := "fnExactBestDeal", unfollowed := true, recurses := true, apart := false }
def FnExactBestDealSaid : Prop := fnExactBestDealRow.holds Try.pinned (OpenSpec.ofChange fnExactBestDealSpec)

/-- ITS FALSE NEIGHBOUR: 'it returns false'. Refute it at one input. -/
def fnExactBestDealWrong : ChangeSpec := { name := "fnExactBestDeal", fn := fun _ => fun
  | [d1, d2, d3] => { results := [.lit (.bool false)], args := [d1, d2, d3] }
  | _ => none }
def FnExactBestDealWrongFalsely : Prop := fnExactBestDealRow.holds Try.pinned (OpenSpec.ofChange fnExactBestDealWrong)

/-- 'laws.FnExactHelloFor': WHATEVER THE INPUT: true; the input reads as it did. -/
def fnExactHelloForSpec : ChangeSpec := { name := "fnExactHelloFor", fn := fun _ => fun
  | [d1, d2] => { results := [.lit (.bool true)], args := [d1, d2] }
  | _ => none }
def fnExactHelloForRow : OpenClaim := { program := "ytokkeikhghanpaa", sum := "a9596973d5994878607b84475d8177f1a45eadf6b9e5ca810e747c8dbce88f91", func := "loop.example/g03000/laws.FnExactHelloFor", spec := "fnExactHelloFor", unfollowed := true, recurses := true, apart := false }
def FnExactHelloForSaid : Prop := fnExactHelloForRow.holds Try.pinned (OpenSpec.ofChange fnExactHelloForSpec)

/-- ITS FALSE NEIGHBOUR: 'it returns false'. Refute it at one input. -/
def fnExactHelloForWrong : ChangeSpec := { name := "fnExactHelloFor", fn := fun _ => fun
  | [d1, d2] => { results := [.lit (.bool false)], args := [d1, d2] }
  | _ => none }
def FnExactHelloForWrongFalsely : Prop := fnExactHelloForRow.holds Try.pinned (OpenSpec.ofChange fnExactHelloForWrong)

/- THE SECOND FORM. 'bulk': how many values and letters a reading holds, each counted each time it is reached (what is shared counts as often as it is met; a slice's spare places count too). A statement '..UptoSaid' is the law's where the arguments, and the package variables that the reading takes, are together of bulk at most 1048576: NARROWER than '..Said'. Prove '..Said' where nothing that the law and all that it calls make is longer than what came in: it says more and counts as full. Else prove '..UptoSaid'. A law counts once. -/
mutual
def uptoBulk {H : Type} : DataW H → Nat
  | .lit (.string bytes) => bytes.length + 1
  | .lit _ => 1
  | .nil => 1
  | .ptr d => uptoBulk d + 1
  | .slice elems spare => uptoBulkAll elems + uptoBulkAll spare + 1
  | .agg parts => uptoBulkAll parts + 1
  | .iface _ d => uptoBulk d + 1
  | .map entries => uptoBulkEntries entries + 1
  | .held _ => 1
def uptoBulkAll {H : Type} : List (DataW H) → Nat
  | [] => 0
  | d :: r => uptoBulk d + uptoBulkAll r
def uptoBulkEntries {H : Type} : List (Lit × DataW H) → Nat
  | [] => 0
  | x :: r => uptoBulkEntry x + uptoBulkEntries r
def uptoBulkEntry {H : Type} : Lit × DataW H → Nat
  | (.string bytes, d) => bytes.length + uptoBulk d + 1
  | (_, d) => uptoBulk d + 1
 end
def uptoSmall : (H : Type) → List (DataW H) → Bool := fun _ ds => decide (uptoBulkAll ds ≤ 1048576)
def OpenSpec.upto (s : _root_.Go.ChangeSpec) : _root_.Go.OpenSpec := { _root_.Go.OpenSpec.ofChange s with cond := some uptoSmall }

/-- 'laws.FnExactChooseAnswer', WHERE WHAT IT READS IS OF BULK AT MOST 1048576: true; the input reads as it did. -/
def fnExactChooseAnswerUptoRow : OpenClaim := { program := "ytokkeikhghanpaa", sum := "a9596973d5994878607b84475d8177f1a45eadf6b9e5ca810e747c8dbce88f91", func := "loop.example/g03000/laws.FnExactChooseAnswer", spec := "fnExactChooseAnswer", unfollowed := true, recurses := true, apart := false, narrowed := true }
def FnExactChooseAnswerUptoSaid : Prop := fnExactChooseAnswerUptoRow.holds Try.pinned (OpenSpec.upto fnExactChooseAnswerSpec)

/-- 'laws.FnExactLostVersions', WHERE WHAT IT READS IS OF BULK AT MOST 1048576: true; the input reads as it did. -/
def fnExactLostVersionsUptoRow : OpenClaim := { program := "ytokkeikhghanpaa", sum := "a9596973d5994878607b84475d8177f1a45eadf6b9e5ca810e747c8dbce88f91", func := "loop.example/g03000/laws.FnExactLostVersions", spec := "fnExactLostVersions", unfollowed := true, recurses := true, apart := false, narrowed := true }
def FnExactLostVersionsUptoSaid : Prop := fnExactLostVersionsUptoRow.holds Try.pinned (OpenSpec.upto fnExactLostVersionsSpec)

/-- 'laws.FnExactPassBox', WHERE WHAT IT READS IS OF BULK AT MOST 1048576: true; the input reads as it did. -/
def fnExactPassBoxUptoRow : OpenClaim := { program := "ytokkeikhghanpaa", sum := "a9596973d5994878607b84475d8177f1a45eadf6b9e5ca810e747c8dbce88f91", func := "loop.example/g03000/laws.FnExactPassBox", spec := "fnExactPassBox", unfollowed := true, recurses := true, apart := false, narrowed := true }
def FnExactPassBoxUptoSaid : Prop := fnExactPassBoxUptoRow.holds Try.pinned (OpenSpec.upto fnExactPassBoxSpec)

/-- 'laws.FnExactPassesWhole', WHERE WHAT IT READS IS OF BULK AT MOST 1048576: true; the input reads as it did. -/
def fnExactPassesWholeUptoRow : OpenClaim := { program := "ytokkeikhghanpaa", sum := "a9596973d5994878607b84475d8177f1a45eadf6b9e5ca810e747c8dbce88f91", func := "loop.example/g03000/laws.FnExactPassesWhole", spec := "fnExactPassesWhole", unfollowed := true, recurses := true, apart := false, narrowed := true }
def FnExactPassesWholeUptoSaid : Prop := fnExactPassesWholeUptoRow.holds Try.pinned (OpenSpec.upto fnExactPassesWholeSpec)

/-- 'laws.FnExactPassPath', WHERE WHAT IT READS IS OF BULK AT MOST 1048576: true; the input reads as it did. -/
def fnExactPassPathUptoRow : OpenClaim := { program := "ytokkeikhghanpaa", sum := "a9596973d5994878607b84475d8177f1a45eadf6b9e5ca810e747c8dbce88f91", func := "loop.example/g03000/laws.FnExactPassPath", spec := "fnExactPassPath", unfollowed := true, recurses := true, apart := false, narrowed := true }
def FnExactPassPathUptoSaid : Prop := fnExactPassPathUptoRow.holds Try.pinned (OpenSpec.upto fnExactPassPathSpec)

/-- 'laws.FnExactLostTags', WHERE WHAT IT READS IS OF BULK AT MOST 1048576: true; the input reads as it did. -/
def fnExactLostTagsUptoRow : OpenClaim := { program := "ytokkeikhghanpaa", sum := "a9596973d5994878607b84475d8177f1a45eadf6b9e5ca810e747c8dbce88f91", func := "loop.example/g03000/laws.FnExactLostTags", spec := "fnExactLostTags", unfollowed := true, recurses := true, apart := false, narrowed := true }
def FnExactLostTagsUptoSaid : Prop := fnExactLostTagsUptoRow.holds Try.pinned (OpenSpec.upto fnExactLostTagsSpec)

/-- 'laws.FnExactFallbackHello', WHERE WHAT IT READS IS OF BULK AT MOST 1048576: true; the input reads as it did. -/
def fnExactFallbackHelloUptoRow : OpenClaim := { program := "ytokkeikhghanpaa", sum := "a9596973d5994878607b84475d8177f1a45eadf6b9e5ca810e747c8dbce88f91", func := "loop.example/g03000/laws.FnExactFallbackHello", spec := "fnExactFallbackHello", unfollowed := true, recurses := true, apart := false, narrowed := true }
def FnExactFallbackHelloUptoSaid : Prop := fnExactFallbackHelloUptoRow.holds Try.pinned (OpenSpec.upto fnExactFallbackHelloSpec)

/-- 'laws.FnExactBestDeal', WHERE WHAT IT READS IS OF BULK AT MOST 1048576: true; the input reads as it did. -/
def fnExactBestDealUptoRow : OpenClaim := { program := "ytokkeikhghanpaa", sum := "a9596973d5994878607b84475d8177f1a45eadf6b9e5ca810e747c8dbce88f91", func := "loop.example/g03000/laws.FnExactBestDeal", spec := "fnExactBestDeal", unfollowed := true, recurses := true, apart := false, narrowed := true }
def FnExactBestDealUptoSaid : Prop := fnExactBestDealUptoRow.holds Try.pinned (OpenSpec.upto fnExactBestDealSpec)

/-- 'laws.FnExactHelloFor', WHERE WHAT IT READS IS OF BULK AT MOST 1048576: true; the input reads as it did. -/
def fnExactHelloForUptoRow : OpenClaim := { program := "ytokkeikhghanpaa", sum := "a9596973d5994878607b84475d8177f1a45eadf6b9e5ca810e747c8dbce88f91", func := "loop.example/g03000/laws.FnExactHelloFor", spec := "fnExactHelloFor", unfollowed := true, recurses := true, apart := false, narrowed := true }
def FnExactHelloForUptoSaid : Prop := fnExactHelloForUptoRow.holds Try.pinned (OpenSpec.upto fnExactHelloForSpec)

end Rows
end Go.Proofs.Ytokkeikhghanpaa
