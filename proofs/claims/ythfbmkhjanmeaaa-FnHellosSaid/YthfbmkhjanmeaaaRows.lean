/-
  No cell of these rows narrows 'for every input' (looked for: loops, veiled, ifaces, maps, wideKeys, modest, calm, conditions, laid).
  DERIVED. THE GIVEN ROWS OF THIS SEAT. 4 by the template 'for every input the law returns true; each argument reads behind the call as it read before'; 0 by the template 'total and deterministic' (their statements: YthfbmkhjanmeaaaTotals.lean).
  GIVEN WITH THE SEED: the statements are not yours to turn. If you find one false, say at which input.
  Laid BY PROGRAM, IN A SANDBOX (cutbox-rows.mjs): the forced cells as the released guide's own fill.sh prints them over the translation 53cb897eb7e94d2d… (all of the seat's roots in one cut). By AI agents, Wed Nov 11 2026. No macro, syntax, notation, axiom, sorry.
-/
import Derived.Test.YthfbmkhjanmeaaaChecked
import GoSem.Claim
import GoSem.ClaimJoined
import GoSem.ClaimMapViews
import Derived.JoinedTies
import Derived.KernelRfl
namespace Go.Proofs.Ythfbmkhjanmeaaa
/- THE CELL 'sum', in the pinned program and in every row, IS THE sha256 OF THE DUMP (.gsa) THAT YthfbmkhjanmeaaaProg.lean LOADS. Nothing in Lean hashes anything: it is a label: what it is worth is what the hold of that sum in a sandbox is worth. -/
noncomputable def Try.pinned : Pinned := { name := "ythfbmkhjanmeaaa", sum := "53cb897eb7e94d2d5b458ce69bbb365b4a6e929c92f41a0cc784801d90aefad8", checked := Try.checked }
namespace Rows
def none {H : Type} : Left H := { results := [], args := [] }

/-- 'laws.FnBoxes': WHATEVER THE INPUT: true; the input reads as it did. -/
def fnBoxesSpec : ChangeSpec := { name := "fnBoxes", fn := fun _ => fun
  | [d] => { results := [.lit (.bool true)], args := [d] }
  | _ => none }
def fnBoxesRow : OpenClaim := { program := "ythfbmkhjanmeaaa", sum := "53cb897eb7e94d2d5b458ce69bbb365b4a6e929c92f41a0cc784801d90aefad8", func := "loop.example/g03000/laws.FnBoxes", spec := "fnBoxes", unfollowed := true, recurses := true, apart := false }
def FnBoxesSaid : Prop := fnBoxesRow.holds Try.pinned (OpenSpec.ofChange fnBoxesSpec)

/-- ITS FALSE NEIGHBOUR: 'it returns false'. Refute it at one input. -/
def fnBoxesWrong : ChangeSpec := { name := "fnBoxes", fn := fun _ => fun
  | [d] => { results := [.lit (.bool false)], args := [d] }
  | _ => none }
def FnBoxesWrongFalsely : Prop := fnBoxesRow.holds Try.pinned (OpenSpec.ofChange fnBoxesWrong)

/-- 'laws.FnFallback': WHATEVER THE INPUT: true; the input reads as it did. -/
def fnFallbackSpec : ChangeSpec := { name := "fnFallback", fn := fun _ => fun
  | [d] => { results := [.lit (.bool true)], args := [d] }
  | _ => none }
def fnFallbackRow : OpenClaim := { program := "ythfbmkhjanmeaaa", sum := "53cb897eb7e94d2d5b458ce69bbb365b4a6e929c92f41a0cc784801d90aefad8", func := "loop.example/g03000/laws.FnFallback", spec := "fnFallback", unfollowed := true, recurses := true, apart := false }
def FnFallbackSaid : Prop := fnFallbackRow.holds Try.pinned (OpenSpec.ofChange fnFallbackSpec)

/-- ITS FALSE NEIGHBOUR: 'it returns false'. Refute it at one input. -/
def fnFallbackWrong : ChangeSpec := { name := "fnFallback", fn := fun _ => fun
  | [d] => { results := [.lit (.bool false)], args := [d] }
  | _ => none }
def FnFallbackWrongFalsely : Prop := fnFallbackRow.holds Try.pinned (OpenSpec.ofChange fnFallbackWrong)

/-- 'laws.FnProbes': WHATEVER THE INPUT: true; the input reads as it did. -/
def fnProbesSpec : ChangeSpec := { name := "fnProbes", fn := fun _ => fun
  | [d] => { results := [.lit (.bool true)], args := [d] }
  | _ => none }
def fnProbesRow : OpenClaim := { program := "ythfbmkhjanmeaaa", sum := "53cb897eb7e94d2d5b458ce69bbb365b4a6e929c92f41a0cc784801d90aefad8", func := "loop.example/g03000/laws.FnProbes", spec := "fnProbes", unfollowed := true, recurses := true, apart := false }
def FnProbesSaid : Prop := fnProbesRow.holds Try.pinned (OpenSpec.ofChange fnProbesSpec)

/-- ITS FALSE NEIGHBOUR: 'it returns false'. Refute it at one input. -/
def fnProbesWrong : ChangeSpec := { name := "fnProbes", fn := fun _ => fun
  | [d] => { results := [.lit (.bool false)], args := [d] }
  | _ => none }
def FnProbesWrongFalsely : Prop := fnProbesRow.holds Try.pinned (OpenSpec.ofChange fnProbesWrong)

/-- 'laws.FnHellos': WHATEVER THE INPUT: true; the input reads as it did. -/
def fnHellosSpec : ChangeSpec := { name := "fnHellos", fn := fun _ => fun
  | [d] => { results := [.lit (.bool true)], args := [d] }
  | _ => none }
def fnHellosRow : OpenClaim := { program := "ythfbmkhjanmeaaa", sum := "53cb897eb7e94d2d5b458ce69bbb365b4a6e929c92f41a0cc784801d90aefad8", func := "loop.example/g03000/laws.FnHellos", spec := "fnHellos", unfollowed := true, recurses := true, apart := false }
def FnHellosSaid : Prop := fnHellosRow.holds Try.pinned (OpenSpec.ofChange fnHellosSpec)

/-- ITS FALSE NEIGHBOUR: 'it returns false'. Refute it at one input. -/
def fnHellosWrong : ChangeSpec := { name := "fnHellos", fn := fun _ => fun
  | [d] => { results := [.lit (.bool false)], args := [d] }
  | _ => none }
def FnHellosWrongFalsely : Prop := fnHellosRow.holds Try.pinned (OpenSpec.ofChange fnHellosWrong)

/- THE SECOND FORM. 'bulk': how many values and letters a reading holds, each counted each time it is reached (what is shared counts as often as it is met; a slice's spare places count too). A statement '..UptoSaid' is the law's where the arguments, and the package variables that the reading takes, are together of bulk at most 1048576: NARROWER than '..Said'. Prove '..Said' where nothing that the law and all that it calls make is longer than what came in: it says more and counts as full. Else prove '..UptoSaid'. A law counts once. -/
mutual
def uptoBulk {H : Type} : DataW H → Nat
  | .lit (.string bytes) => bytes.length + 1
  | .lit _ => 1
  | .nil => 1
  | .ptr d => uptoBulk d + 1
  | .slice elems spare => uptoBulkAll elems + uptoBulkAll spare + 1
  | .agg parts => uptoBulkAll parts + 1
  | .iface _ d => uptoBulk d + 1
  | .map entries => uptoBulkEntries entries + 1
  | .held _ => 1
def uptoBulkAll {H : Type} : List (DataW H) → Nat
  | [] => 0
  | d :: r => uptoBulk d + uptoBulkAll r
def uptoBulkEntries {H : Type} : List (Lit × DataW H) → Nat
  | [] => 0
  | x :: r => uptoBulkEntry x + uptoBulkEntries r
def uptoBulkEntry {H : Type} : Lit × DataW H → Nat
  | (.string bytes, d) => bytes.length + uptoBulk d + 1
  | (_, d) => uptoBulk d + 1
 end
def uptoSmall : (H : Type) → List (DataW H) → Bool := fun _ ds => decide (uptoBulkAll ds ≤ 1048576)
def OpenSpec.upto (s : _root_.Go.ChangeSpec) : _root_.Go.OpenSpec := { _root_.Go.OpenSpec.ofChange s with cond := some uptoSmall }

/-- 'laws.FnBoxes', WHERE WHAT IT READS IS OF BULK AT MOST 1048576: true; the input reads as it did. -/
def fnBoxesUptoRow : OpenClaim := { program := "ythfbmkhjanmeaaa", sum := "53cb897eb7e94d2d5b458ce69bbb365b4a6e929c92f41a0cc784801d90aefad8", func := "loop.example/g03000/laws.FnBoxes", spec := "fnBoxes", unfollowed := true, recurses := true, apart := false, narrowed := true }
def FnBoxesUptoSaid : Prop := fnBoxesUptoRow.holds Try.pinned (OpenSpec.upto fnBoxesSpec)

/-- 'laws.FnFallback', WHERE WHAT IT READS IS OF BULK AT MOST 1048576: true; the input reads as it did. -/
def fnFallbackUptoRow : OpenClaim := { program := "ythfbmkhjanmeaaa", sum := "53cb897eb7e94d2d5b458ce69bbb365b4a6e929c92f41a0cc784801d90aefad8", func := "loop.example/g03000/laws.FnFallback", spec := "fnFallback", unfollowed := true, recurses := true, apart := false, narrowed := true }
def FnFallbackUptoSaid : Prop := fnFallbackUptoRow.holds Try.pinned (OpenSpec.upto fnFallbackSpec)

/-- 'laws.FnProbes', WHERE WHAT IT READS IS OF BULK AT MOST 1048576: true; the input reads as it did. -/
def fnProbesUptoRow : OpenClaim := { program := "ythfbmkhjanmeaaa", sum := "53cb897eb7e94d2d5b458ce69bbb365b4a6e929c92f41a0cc784801d90aefad8", func := "loop.example/g03000/laws.FnProbes", spec := "fnProbes", unfollowed := true, recurses := true, apart := false, narrowed := true }
def FnProbesUptoSaid : Prop := fnProbesUptoRow.holds Try.pinned (OpenSpec.upto fnProbesSpec)

/-- 'laws.FnHellos', WHERE WHAT IT READS IS OF BULK AT MOST 1048576: true; the input reads as it did. -/
def fnHellosUptoRow : OpenClaim := { program := "ythfbmkhjanmeaaa", sum := "53cb897eb7e94d2d5b458ce69bbb365b4a6e929c92f41a0cc784801d90aefad8", func := "loop.example/g03000/laws.FnHellos", spec := "fnHellos", unfollowed := true, recurses := true, apart := false, narrowed := true }
def FnHellosUptoSaid : Prop := fnHellosUptoRow.holds Try.pinned (OpenSpec.upto fnHellosSpec)

end Rows
end Go.Proofs.Ythfbmkhjanmeaaa
