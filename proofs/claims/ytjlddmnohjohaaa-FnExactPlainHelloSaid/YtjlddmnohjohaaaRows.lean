/-
  No cell of these rows narrows 'for every input' (looked for: loops, veiled, ifaces, maps, wideKeys, modest, calm, conditions, laid).
  DERIVED. THE GIVEN ROWS OF THIS SEAT. 6 by the template 'for every input the law returns true; each argument reads behind the call as it read before'; 0 by the template 'total and deterministic' (their statements: YtjlddmnohjohaaaTotals.lean).
  GIVEN WITH THE SEED: the statements are not yours to turn. If you find one false, say at which input.
  Laid BY PROGRAM, IN A SANDBOX (cutbox-rows.mjs): the forced cells as the released guide's own fill.sh prints them over the translation c719919fb9ebed37… (all of the seat's roots in one cut). By AI agents, Wed Nov 11 2026. No macro, syntax, notation, axiom, sorry.
-/
import Derived.Test.YtjlddmnohjohaaaChecked
import GoSem.Claim
import GoSem.ClaimJoined
import GoSem.ClaimMapViews
import Derived.JoinedTies
import Derived.KernelRfl
namespace Go.Proofs.Ytjlddmnohjohaaa
/- THE CELL 'sum', in the pinned program and in every row, IS THE sha256 OF THE DUMP (.gsa) THAT YtjlddmnohjohaaaProg.lean LOADS. Nothing in Lean hashes anything: it is a label: what it is worth is what the hold of that sum in a sandbox is worth. -/
noncomputable def Try.pinned : Pinned := { name := "ytjlddmnohjohaaa", sum := "c719919fb9ebed37829015855173068cd554ba430a584e257059392acb7c5082", checked := Try.checked }
namespace Rows
def none {H : Type} : Left H := { results := [], args := [] }

/-- 'laws.FnExactIsClear': WHATEVER THE INPUT: true; the input reads as it did. -/
def fnExactIsClearSpec : ChangeSpec := { name := "fnExactIsClear", fn := fun _ => fun
  | [d] => { results := [.lit (.bool true)], args := [d] }
  | _ => none }
def fnExactIsClearRow : OpenClaim := { program := "ytjlddmnohjohaaa", sum := "c719919fb9ebed37829015855173068cd554ba430a584e257059392acb7c5082", func := "loop.example/g03000/laws.FnExactIsClear", spec := "fnExactIsClear", apart := false }
def FnExactIsClearSaid : Prop := fnExactIsClearRow.holds Try.pinned (OpenSpec.ofChange fnExactIsClearSpec)

/-- ITS FALSE NEIGHBOUR: 'it returns false'. Refute it at one input. -/
def fnExactIsClearWrong : ChangeSpec := { name := "fnExactIsClear", fn := fun _ => fun
  | [d] => { results := [.lit (.bool false)], args := [d] }
  | _ => none }
def FnExactIsClearWrongFalsely : Prop := fnExactIsClearRow.holds Try.pinned (OpenSpec.ofChange fnExactIsClearWrong)

/-- 'laws.FnExactEqualDeals': WHATEVER THE INPUT: true; the input reads as it did. -/
def fnExactEqualDealsSpec : ChangeSpec := { name := "fnExactEqualDeals", fn := fun _ => fun
  | [d1, d2] => { results := [.lit (.bool true)], args := [d1, d2] }
  | _ => none }
def fnExactEqualDealsRow : OpenClaim := { program := "ytjlddmnohjohaaa", sum := "c719919fb9ebed37829015855173068cd554ba430a584e257059392acb7c5082", func := "loop.example/g03000/laws.FnExactEqualDeals", spec := "fnExactEqualDeals", apart := false }
def FnExactEqualDealsSaid : Prop := fnExactEqualDealsRow.holds Try.pinned (OpenSpec.ofChange fnExactEqualDealsSpec)

/-- ITS FALSE NEIGHBOUR: 'it returns false'. Refute it at one input. -/
def fnExactEqualDealsWrong : ChangeSpec := { name := "fnExactEqualDeals", fn := fun _ => fun
  | [d1, d2] => { results := [.lit (.bool false)], args := [d1, d2] }
  | _ => none }
def FnExactEqualDealsWrongFalsely : Prop := fnExactEqualDealsRow.holds Try.pinned (OpenSpec.ofChange fnExactEqualDealsWrong)

/-- 'laws.FnExactEqualBoxes': WHATEVER THE INPUT: true; the input reads as it did. -/
def fnExactEqualBoxesSpec : ChangeSpec := { name := "fnExactEqualBoxes", fn := fun _ => fun
  | [d1, d2] => { results := [.lit (.bool true)], args := [d1, d2] }
  | _ => none }
def fnExactEqualBoxesRow : OpenClaim := { program := "ytjlddmnohjohaaa", sum := "c719919fb9ebed37829015855173068cd554ba430a584e257059392acb7c5082", func := "loop.example/g03000/laws.FnExactEqualBoxes", spec := "fnExactEqualBoxes", apart := false }
def FnExactEqualBoxesSaid : Prop := fnExactEqualBoxesRow.holds Try.pinned (OpenSpec.ofChange fnExactEqualBoxesSpec)

/-- ITS FALSE NEIGHBOUR: 'it returns false'. Refute it at one input. -/
def fnExactEqualBoxesWrong : ChangeSpec := { name := "fnExactEqualBoxes", fn := fun _ => fun
  | [d1, d2] => { results := [.lit (.bool false)], args := [d1, d2] }
  | _ => none }
def FnExactEqualBoxesWrongFalsely : Prop := fnExactEqualBoxesRow.holds Try.pinned (OpenSpec.ofChange fnExactEqualBoxesWrong)

/-- 'laws.FnExactIsBox': WHATEVER THE INPUT: true; the input reads as it did. -/
def fnExactIsBoxSpec : ChangeSpec := { name := "fnExactIsBox", fn := fun _ => fun
  | [d] => { results := [.lit (.bool true)], args := [d] }
  | _ => none }
def fnExactIsBoxRow : OpenClaim := { program := "ytjlddmnohjohaaa", sum := "c719919fb9ebed37829015855173068cd554ba430a584e257059392acb7c5082", func := "loop.example/g03000/laws.FnExactIsBox", spec := "fnExactIsBox", unfollowed := true, recurses := true, apart := false }
def FnExactIsBoxSaid : Prop := fnExactIsBoxRow.holds Try.pinned (OpenSpec.ofChange fnExactIsBoxSpec)

/-- ITS FALSE NEIGHBOUR: 'it returns false'. Refute it at one input. -/
def fnExactIsBoxWrong : ChangeSpec := { name := "fnExactIsBox", fn := fun _ => fun
  | [d] => { results := [.lit (.bool false)], args := [d] }
  | _ => none }
def FnExactIsBoxWrongFalsely : Prop := fnExactIsBoxRow.holds Try.pinned (OpenSpec.ofChange fnExactIsBoxWrong)

/-- 'laws.FnExactIsTranscript': WHATEVER THE INPUT: true; the input reads as it did. -/
def fnExactIsTranscriptSpec : ChangeSpec := { name := "fnExactIsTranscript", fn := fun _ => fun
  | [d] => { results := [.lit (.bool true)], args := [d] }
  | _ => none }
def fnExactIsTranscriptRow : OpenClaim := { program := "ytjlddmnohjohaaa", sum := "c719919fb9ebed37829015855173068cd554ba430a584e257059392acb7c5082", func := "loop.example/g03000/laws.FnExactIsTranscript", spec := "fnExactIsTranscript", unfollowed := true, recurses := true, apart := false }
def FnExactIsTranscriptSaid : Prop := fnExactIsTranscriptRow.holds Try.pinned (OpenSpec.ofChange fnExactIsTranscriptSpec)

/-- ITS FALSE NEIGHBOUR: 'it returns false'. Refute it at one input. -/
def fnExactIsTranscriptWrong : ChangeSpec := { name := "fnExactIsTranscript", fn := fun _ => fun
  | [d] => { results := [.lit (.bool false)], args := [d] }
  | _ => none }
def FnExactIsTranscriptWrongFalsely : Prop := fnExactIsTranscriptRow.holds Try.pinned (OpenSpec.ofChange fnExactIsTranscriptWrong)

/-- 'laws.FnExactPlainHello': WHATEVER THE INPUT: true; the input reads as it did. -/
def fnExactPlainHelloSpec : ChangeSpec := { name := "fnExactPlainHello", fn := fun _ => fun
  | [d] => { results := [.lit (.bool true)], args := [d] }
  | _ => none }
def fnExactPlainHelloRow : OpenClaim := { program := "ytjlddmnohjohaaa", sum := "c719919fb9ebed37829015855173068cd554ba430a584e257059392acb7c5082", func := "loop.example/g03000/laws.FnExactPlainHello", spec := "fnExactPlainHello", apart := false }
def FnExactPlainHelloSaid : Prop := fnExactPlainHelloRow.holds Try.pinned (OpenSpec.ofChange fnExactPlainHelloSpec)

/-- ITS FALSE NEIGHBOUR: 'it returns false'. Refute it at one input. -/
def fnExactPlainHelloWrong : ChangeSpec := { name := "fnExactPlainHello", fn := fun _ => fun
  | [d] => { results := [.lit (.bool false)], args := [d] }
  | _ => none }
def FnExactPlainHelloWrongFalsely : Prop := fnExactPlainHelloRow.holds Try.pinned (OpenSpec.ofChange fnExactPlainHelloWrong)

/- THE SECOND FORM. 'bulk': how many values and letters a reading holds, each counted each time it is reached (what is shared counts as often as it is met; a slice's spare places count too). A statement '..UptoSaid' is the law's where the arguments, and the package variables that the reading takes, are together of bulk at most 1048576: NARROWER than '..Said'. Prove '..Said' where nothing that the law and all that it calls make is longer than what came in: it says more and counts as full. Else prove '..UptoSaid'. A law counts once. -/
mutual
def uptoBulk {H : Type} : DataW H → Nat
  | .lit (.string bytes) => bytes.length + 1
  | .lit _ => 1
  | .nil => 1
  | .ptr d => uptoBulk d + 1
  | .slice elems spare => uptoBulkAll elems + uptoBulkAll spare + 1
  | .agg parts => uptoBulkAll parts + 1
  | .iface _ d => uptoBulk d + 1
  | .map entries => uptoBulkEntries entries + 1
  | .held _ => 1
def uptoBulkAll {H : Type} : List (DataW H) → Nat
  | [] => 0
  | d :: r => uptoBulk d + uptoBulkAll r
def uptoBulkEntries {H : Type} : List (Lit × DataW H) → Nat
  | [] => 0
  | x :: r => uptoBulkEntry x + uptoBulkEntries r
def uptoBulkEntry {H : Type} : Lit × DataW H → Nat
  | (.string bytes, d) => bytes.length + uptoBulk d + 1
  | (_, d) => uptoBulk d + 1
 end
def uptoSmall : (H : Type) → List (DataW H) → Bool := fun _ ds => decide (uptoBulkAll ds ≤ 1048576)
def OpenSpec.upto (s : _root_.Go.ChangeSpec) : _root_.Go.OpenSpec := { _root_.Go.OpenSpec.ofChange s with cond := some uptoSmall }

/-- 'laws.FnExactIsClear', WHERE WHAT IT READS IS OF BULK AT MOST 1048576: true; the input reads as it did. -/
def fnExactIsClearUptoRow : OpenClaim := { program := "ytjlddmnohjohaaa", sum := "c719919fb9ebed37829015855173068cd554ba430a584e257059392acb7c5082", func := "loop.example/g03000/laws.FnExactIsClear", spec := "fnExactIsClear", apart := false, narrowed := true }
def FnExactIsClearUptoSaid : Prop := fnExactIsClearUptoRow.holds Try.pinned (OpenSpec.upto fnExactIsClearSpec)

/-- 'laws.FnExactEqualDeals', WHERE WHAT IT READS IS OF BULK AT MOST 1048576: true; the input reads as it did. -/
def fnExactEqualDealsUptoRow : OpenClaim := { program := "ytjlddmnohjohaaa", sum := "c719919fb9ebed37829015855173068cd554ba430a584e257059392acb7c5082", func := "loop.example/g03000/laws.FnExactEqualDeals", spec := "fnExactEqualDeals", apart := false, narrowed := true }
def FnExactEqualDealsUptoSaid : Prop := fnExactEqualDealsUptoRow.holds Try.pinned (OpenSpec.upto fnExactEqualDealsSpec)

/-- 'laws.FnExactEqualBoxes', WHERE WHAT IT READS IS OF BULK AT MOST 1048576: true; the input reads as it did. -/
def fnExactEqualBoxesUptoRow : OpenClaim := { program := "ytjlddmnohjohaaa", sum := "c719919fb9ebed37829015855173068cd554ba430a584e257059392acb7c5082", func := "loop.example/g03000/laws.FnExactEqualBoxes", spec := "fnExactEqualBoxes", apart := false, narrowed := true }
def FnExactEqualBoxesUptoSaid : Prop := fnExactEqualBoxesUptoRow.holds Try.pinned (OpenSpec.upto fnExactEqualBoxesSpec)

/-- 'laws.FnExactIsBox', WHERE WHAT IT READS IS OF BULK AT MOST 1048576: true; the input reads as it did. -/
def fnExactIsBoxUptoRow : OpenClaim := { program := "ytjlddmnohjohaaa", sum := "c719919fb9ebed37829015855173068cd554ba430a584e257059392acb7c5082", func := "loop.example/g03000/laws.FnExactIsBox", spec := "fnExactIsBox", unfollowed := true, recurses := true, apart := false, narrowed := true }
def FnExactIsBoxUptoSaid : Prop := fnExactIsBoxUptoRow.holds Try.pinned (OpenSpec.upto fnExactIsBoxSpec)

/-- 'laws.FnExactIsTranscript', WHERE WHAT IT READS IS OF BULK AT MOST 1048576: true; the input reads as it did. -/
def fnExactIsTranscriptUptoRow : OpenClaim := { program := "ytjlddmnohjohaaa", sum := "c719919fb9ebed37829015855173068cd554ba430a584e257059392acb7c5082", func := "loop.example/g03000/laws.FnExactIsTranscript", spec := "fnExactIsTranscript", unfollowed := true, recurses := true, apart := false, narrowed := true }
def FnExactIsTranscriptUptoSaid : Prop := fnExactIsTranscriptUptoRow.holds Try.pinned (OpenSpec.upto fnExactIsTranscriptSpec)

/-- 'laws.FnExactPlainHello', WHERE WHAT IT READS IS OF BULK AT MOST 1048576: true; the input reads as it did. -/
def fnExactPlainHelloUptoRow : OpenClaim := { program := "ytjlddmnohjohaaa", sum := "c719919fb9ebed37829015855173068cd554ba430a584e257059392acb7c5082", func := "loop.example/g03000/laws.FnExactPlainHello", spec := "fnExactPlainHello", apart := false, narrowed := true }
def FnExactPlainHelloUptoSaid : Prop := fnExactPlainHelloUptoRow.holds Try.pinned (OpenSpec.upto fnExactPlainHelloSpec)

end Rows
end Go.Proofs.Ytjlddmnohjohaaa
