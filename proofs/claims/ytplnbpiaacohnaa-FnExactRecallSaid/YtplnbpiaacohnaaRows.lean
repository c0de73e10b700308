/-
  No cell of these rows narrows 'for every input' (looked for: loops, veiled, ifaces, maps, wideKeys, modest, calm, conditions, laid).
  DERIVED. THE GIVEN ROWS OF THIS SEAT. 11 by the template 'for every input the law returns true; each argument reads behind the call as it read before'; 0 by the template 'total and deterministic' (their statements: YtplnbpiaacohnaaTotals.lean).
  GIVEN WITH THE SEED: the statements are not yours to turn. If you find one false, say at which input.
  Laid BY PROGRAM, IN A SANDBOX (cutbox-rows.mjs): the forced cells as the released guide's own fill.sh prints them over the translation 535fd7897e7e9cf9… (all of the seat's roots in one cut). By AI agents, Wed Nov 11 2026. No macro, syntax, notation, axiom, sorry.
-/
import Derived.Test.YtplnbpiaacohnaaChecked
import GoSem.Claim
import GoSem.ClaimJoined
import GoSem.ClaimMapViews
import Derived.JoinedTies
import Derived.KernelRfl
namespace Go.Proofs.Ytplnbpiaacohnaa
/- THE CELL 'sum', in the pinned program and in every row, IS THE sha256 OF THE DUMP (.gsa) THAT YtplnbpiaacohnaaProg.lean LOADS. Nothing in Lean hashes anything: it is a label: what it is worth is what the hold of that sum in a sandbox is worth. -/
noncomputable def Try.pinned : Pinned := { name := "ytplnbpiaacohnaa", sum := "535fd7897e7e9cf948846396e8599ad64e0cfae9e9cf17ad26ee0cae68e9aca1", checked := Try.checked }
namespace Rows
def none {H : Type} : Left H := { results := [], args := [] }

/-- 'laws.FnExactSameTranscripts': WHATEVER THE INPUT: true; the input reads as it did. -/
def fnExactSameTranscriptsSpec : ChangeSpec := { name := "fnExactSameTranscripts", fn := fun _ => fun
  | [d1, d2] => { results := [.lit (.bool true)], args := [d1, d2] }
  | _ => none }
def fnExactSameTranscriptsRow : OpenClaim := { program := "ytplnbpiaacohnaa", sum := "535fd7897e7e9cf948846396e8599ad64e0cfae9e9cf17ad26ee0cae68e9aca1", func := "loop.example/g03000/laws.FnExactSameTranscripts", spec := "fnExactSameTranscripts", unfollowed := true, recurses := true, apart := false }
def FnExactSameTranscriptsSaid : Prop := fnExactSameTranscriptsRow.holds Try.pinned (OpenSpec.ofChange fnExactSameTranscriptsSpec)

/-- ITS FALSE NEIGHBOUR: 'it returns false'. Refute it at one input. -/
def fnExactSameTranscriptsWrong : ChangeSpec := { name := "fnExactSameTranscripts", fn := fun _ => fun
  | [d1, d2] => { results := [.lit (.bool false)], args := [d1, d2] }
  | _ => none }
def FnExactSameTranscriptsWrongFalsely : Prop := fnExactSameTranscriptsRow.holds Try.pinned (OpenSpec.ofChange fnExactSameTranscriptsWrong)

/-- 'laws.FnExactEqualDialed': WHATEVER THE INPUT: true; the input reads as it did. -/
def fnExactEqualDialedSpec : ChangeSpec := { name := "fnExactEqualDialed", fn := fun _ => fun
  | [d1, d2] => { results := [.lit (.bool true)], args := [d1, d2] }
  | _ => none }
def fnExactEqualDialedRow : OpenClaim := { program := "ytplnbpiaacohnaa", sum := "535fd7897e7e9cf948846396e8599ad64e0cfae9e9cf17ad26ee0cae68e9aca1", func := "loop.example/g03000/laws.FnExactEqualDialed", spec := "fnExactEqualDialed", apart := false }
def FnExactEqualDialedSaid : Prop := fnExactEqualDialedRow.holds Try.pinned (OpenSpec.ofChange fnExactEqualDialedSpec)

/-- ITS FALSE NEIGHBOUR: 'it returns false'. Refute it at one input. -/
def fnExactEqualDialedWrong : ChangeSpec := { name := "fnExactEqualDialed", fn := fun _ => fun
  | [d1, d2] => { results := [.lit (.bool false)], args := [d1, d2] }
  | _ => none }
def FnExactEqualDialedWrongFalsely : Prop := fnExactEqualDialedRow.holds Try.pinned (OpenSpec.ofChange fnExactEqualDialedWrong)

/-- 'laws.FnExactIsMemory': WHATEVER THE INPUT: true; the input reads as it did. -/
def fnExactIsMemorySpec : ChangeSpec := { name := "fnExactIsMemory", fn := fun _ => fun
  | [d1, d2] => { results := [.lit (.bool true)], args := [d1, d2] }
  | _ => none }
def fnExactIsMemoryRow : OpenClaim := { program := "ytplnbpiaacohnaa", sum := "535fd7897e7e9cf948846396e8599ad64e0cfae9e9cf17ad26ee0cae68e9aca1", func := "loop.example/g03000/laws.FnExactIsMemory", spec := "fnExactIsMemory", unfollowed := true, recurses := true, apart := false }
def FnExactIsMemorySaid : Prop := fnExactIsMemoryRow.holds Try.pinned (OpenSpec.ofChange fnExactIsMemorySpec)

/-- ITS FALSE NEIGHBOUR: 'it returns false'. Refute it at one input. -/
def fnExactIsMemoryWrong : ChangeSpec := { name := "fnExactIsMemory", fn := fun _ => fun
  | [d1, d2] => { results := [.lit (.bool false)], args := [d1, d2] }
  | _ => none }
def FnExactIsMemoryWrongFalsely : Prop := fnExactIsMemoryRow.holds Try.pinned (OpenSpec.ofChange fnExactIsMemoryWrong)

/-- 'laws.FnExactIsClearPath': WHATEVER THE INPUT: true; the input reads as it did. -/
def fnExactIsClearPathSpec : ChangeSpec := { name := "fnExactIsClearPath", fn := fun _ => fun
  | [d] => { results := [.lit (.bool true)], args := [d] }
  | _ => none }
def fnExactIsClearPathRow : OpenClaim := { program := "ytplnbpiaacohnaa", sum := "535fd7897e7e9cf948846396e8599ad64e0cfae9e9cf17ad26ee0cae68e9aca1", func := "loop.example/g03000/laws.FnExactIsClearPath", spec := "fnExactIsClearPath", unfollowed := true, recurses := true, apart := false }
def FnExactIsClearPathSaid : Prop := fnExactIsClearPathRow.holds Try.pinned (OpenSpec.ofChange fnExactIsClearPathSpec)

/-- ITS FALSE NEIGHBOUR: 'it returns false'. Refute it at one input. -/
def fnExactIsClearPathWrong : ChangeSpec := { name := "fnExactIsClearPath", fn := fun _ => fun
  | [d] => { results := [.lit (.bool false)], args := [d] }
  | _ => none }
def FnExactIsClearPathWrongFalsely : Prop := fnExactIsClearPathRow.holds Try.pinned (OpenSpec.ofChange fnExactIsClearPathWrong)

/-- 'laws.FnExactCountStates': WHATEVER THE INPUT: true; the input reads as it did. -/
def fnExactCountStatesSpec : ChangeSpec := { name := "fnExactCountStates", fn := fun _ => fun
  | [d] => { results := [.lit (.bool true)], args := [d] }
  | _ => none }
def fnExactCountStatesRow : OpenClaim := { program := "ytplnbpiaacohnaa", sum := "535fd7897e7e9cf948846396e8599ad64e0cfae9e9cf17ad26ee0cae68e9aca1", func := "loop.example/g03000/laws.FnExactCountStates", spec := "fnExactCountStates", unfollowed := true, recurses := true, apart := false }
def FnExactCountStatesSaid : Prop := fnExactCountStatesRow.holds Try.pinned (OpenSpec.ofChange fnExactCountStatesSpec)

/-- ITS FALSE NEIGHBOUR: 'it returns false'. Refute it at one input. -/
def fnExactCountStatesWrong : ChangeSpec := { name := "fnExactCountStates", fn := fun _ => fun
  | [d] => { results := [.lit (.bool false)], args := [d] }
  | _ => none }
def FnExactCountStatesWrongFalsely : Prop := fnExactCountStatesRow.holds Try.pinned (OpenSpec.ofChange fnExactCountStatesWrong)

/-- 'laws.FnExactTranscriptHash': WHATEVER THE INPUT: true; the input reads as it did. -/
def fnExactTranscriptHashSpec : ChangeSpec := { name := "fnExactTranscriptHash", fn := fun _ => fun
  | [d] => { results := [.lit (.bool true)], args := [d] }
  | _ => none }
def fnExactTranscriptHashRow : OpenClaim := { program := "ytplnbpiaacohnaa", sum := "535fd7897e7e9cf948846396e8599ad64e0cfae9e9cf17ad26ee0cae68e9aca1", func := "loop.example/g03000/laws.FnExactTranscriptHash", spec := "fnExactTranscriptHash", unfollowed := true, recurses := true, apart := false }
def FnExactTranscriptHashSaid : Prop := fnExactTranscriptHashRow.holds Try.pinned (OpenSpec.ofChange fnExactTranscriptHashSpec)

/-- ITS FALSE NEIGHBOUR: 'it returns false'. Refute it at one input. -/
def fnExactTranscriptHashWrong : ChangeSpec := { name := "fnExactTranscriptHash", fn := fun _ => fun
  | [d] => { results := [.lit (.bool false)], args := [d] }
  | _ => none }
def FnExactTranscriptHashWrongFalsely : Prop := fnExactTranscriptHashRow.holds Try.pinned (OpenSpec.ofChange fnExactTranscriptHashWrong)

/-- 'laws.FnExactRecall': WHATEVER THE INPUT: true; the input reads as it did. -/
def fnExactRecallSpec : ChangeSpec := { name := "fnExactRecall", fn := fun _ => fun
  | [d1, d2, d3] => { results := [.lit (.bool true)], args := [d1, d2, d3] }
  | _ => none }
def fnExactRecallRow : OpenClaim := { program := "ytplnbpiaacohnaa", sum := "535fd7897e7e9cf948846396e8599ad64e0cfae9e9cf17ad26ee0cae68e9aca1", func := "loop.example/g03000/laws.FnExactRecall", spec := "fnExactRecall", unfollowed := true, recurses := true, apart := false }
def FnExactRecallSaid : Prop := fnExactRecallRow.holds Try.pinned (OpenSpec.ofChange fnExactRecallSpec)

/-- ITS FALSE NEIGHBOUR: 'it returns false'. Refute it at one input. -/
def fnExactRecallWrong : ChangeSpec := { name := "fnExactRecall", fn := fun _ => fun
  | [d1, d2, d3] => { results := [.lit (.bool false)], args := [d1, d2, d3] }
  | _ => none }
def FnExactRecallWrongFalsely : Prop := fnExactRecallRow.holds Try.pinned (OpenSpec.ofChange fnExactRecallWrong)

/-- 'laws.FnExactIsAnswer': WHATEVER THE INPUT: true; the input reads as it did. -/
def fnExactIsAnswerSpec : ChangeSpec := { name := "fnExactIsAnswer", fn := fun _ => fun
  | [d] => { results := [.lit (.bool true)], args := [d] }
  | _ => none }
def fnExactIsAnswerRow : OpenClaim := { program := "ytplnbpiaacohnaa", sum := "535fd7897e7e9cf948846396e8599ad64e0cfae9e9cf17ad26ee0cae68e9aca1", func := "loop.example/g03000/laws.FnExactIsAnswer", spec := "fnExactIsAnswer", unfollowed := true, recurses := true, apart := false }
def FnExactIsAnswerSaid : Prop := fnExactIsAnswerRow.holds Try.pinned (OpenSpec.ofChange fnExactIsAnswerSpec)

/-- ITS FALSE NEIGHBOUR: 'it returns false'. Refute it at one input. -/
def fnExactIsAnswerWrong : ChangeSpec := { name := "fnExactIsAnswer", fn := fun _ => fun
  | [d] => { results := [.lit (.bool false)], args := [d] }
  | _ => none }
def FnExactIsAnswerWrongFalsely : Prop := fnExactIsAnswerRow.holds Try.pinned (OpenSpec.ofChange fnExactIsAnswerWrong)

/-- 'laws.FnExactEqualHellos': WHATEVER THE INPUT: true; the input reads as it did. -/
def fnExactEqualHellosSpec : ChangeSpec := { name := "fnExactEqualHellos", fn := fun _ => fun
  | [d1, d2] => { results := [.lit (.bool true)], args := [d1, d2] }
  | _ => none }
def fnExactEqualHellosRow : OpenClaim := { program := "ytplnbpiaacohnaa", sum := "535fd7897e7e9cf948846396e8599ad64e0cfae9e9cf17ad26ee0cae68e9aca1", func := "loop.example/g03000/laws.FnExactEqualHellos", spec := "fnExactEqualHellos", unfollowed := true, recurses := true, apart := false }
def FnExactEqualHellosSaid : Prop := fnExactEqualHellosRow.holds Try.pinned (OpenSpec.ofChange fnExactEqualHellosSpec)

/-- ITS FALSE NEIGHBOUR: 'it returns false'. Refute it at one input. -/
def fnExactEqualHellosWrong : ChangeSpec := { name := "fnExactEqualHellos", fn := fun _ => fun
  | [d1, d2] => { results := [.lit (.bool false)], args := [d1, d2] }
  | _ => none }
def FnExactEqualHellosWrongFalsely : Prop := fnExactEqualHellosRow.holds Try.pinned (OpenSpec.ofChange fnExactEqualHellosWrong)

/-- 'laws.FnExactForgetOld': WHATEVER THE INPUT: true; the input reads as it did. -/
def fnExactForgetOldSpec : ChangeSpec := { name := "fnExactForgetOld", fn := fun _ => fun
  | [d1, d2] => { results := [.lit (.bool true)], args := [d1, d2] }
  | _ => none }
def fnExactForgetOldRow : OpenClaim := { program := "ytplnbpiaacohnaa", sum := "535fd7897e7e9cf948846396e8599ad64e0cfae9e9cf17ad26ee0cae68e9aca1", func := "loop.example/g03000/laws.FnExactForgetOld", spec := "fnExactForgetOld", unfollowed := true, recurses := true, apart := false }
def FnExactForgetOldSaid : Prop := fnExactForgetOldRow.holds Try.pinned (OpenSpec.ofChange fnExactForgetOldSpec)

/-- ITS FALSE NEIGHBOUR: 'it returns false'. Refute it at one input. -/
def fnExactForgetOldWrong : ChangeSpec := { name := "fnExactForgetOld", fn := fun _ => fun
  | [d1, d2] => { results := [.lit (.bool false)], args := [d1, d2] }
  | _ => none }
def FnExactForgetOldWrongFalsely : Prop := fnExactForgetOldRow.holds Try.pinned (OpenSpec.ofChange fnExactForgetOldWrong)

/-- 'laws.FnExactRemember': WHATEVER THE INPUT: true; the input reads as it did. -/
def fnExactRememberSpec : ChangeSpec := { name := "fnExactRemember", fn := fun _ => fun
  | [d1, d2, d3, d4] => { results := [.lit (.bool true)], args := [d1, d2, d3, d4] }
  | _ => none }
def fnExactRememberRow : OpenClaim := { program := "ytplnbpiaacohnaa", sum := "535fd7897e7e9cf948846396e8599ad64e0cfae9e9cf17ad26ee0cae68e9aca1", func := "loop.example/g03000/laws.FnExactRemember", spec := "fnExactRemember", unfollowed := true, recurses := true, apart := false }
def FnExactRememberSaid : Prop := fnExactRememberRow.holds Try.pinned (OpenSpec.ofChange fnExactRememberSpec)

/-- ITS FALSE NEIGHBOUR: 'it returns false'. Refute it at one input. -/
def fnExactRememberWrong : ChangeSpec := { name := "fnExactRemember", fn := fun _ => fun
  | [d1, d2, d3, d4] => { results := [.lit (.bool false)], args := [d1, d2, d3, d4] }
  | _ => none }
def FnExactRememberWrongFalsely : Prop := fnExactRememberRow.holds Try.pinned (OpenSpec.ofChange fnExactRememberWrong)

/- THE SECOND FORM. 'bulk': how many values and letters a reading holds, each counted each time it is reached (what is shared counts as often as it is met; a slice's spare places count too). A statement '..UptoSaid' is the law's where the arguments, and the package variables that the reading takes, are together of bulk at most 1048576: NARROWER than '..Said'. Prove '..Said' where nothing that the law and all that it calls make is longer than what came in: it says more and counts as full. Else prove '..UptoSaid'. A law counts once. -/
mutual
def uptoBulk {H : Type} : DataW H → Nat
  | .lit (.string bytes) => bytes.length + 1
  | .lit _ => 1
  | .nil => 1
  | .ptr d => uptoBulk d + 1
  | .slice elems spare => uptoBulkAll elems + uptoBulkAll spare + 1
  | .agg parts => uptoBulkAll parts + 1
  | .iface _ d => uptoBulk d + 1
  | .map entries => uptoBulkEntries entries + 1
  | .held _ => 1
def uptoBulkAll {H : Type} : List (DataW H) → Nat
  | [] => 0
  | d :: r => uptoBulk d + uptoBulkAll r
def uptoBulkEntries {H : Type} : List (Lit × DataW H) → Nat
  | [] => 0
  | x :: r => uptoBulkEntry x + uptoBulkEntries r
def uptoBulkEntry {H : Type} : Lit × DataW H → Nat
  | (.string bytes, d) => bytes.length + uptoBulk d + 1
  | (_, d) => uptoBulk d + 1
 end
def uptoSmall : (H : Type) → List (DataW H) → Bool := fun _ ds => decide (uptoBulkAll ds ≤ 1048576)
def OpenSpec.upto (s : _root_.Go.ChangeSpec) : _root_.Go.OpenSpec := { _root_.Go.OpenSpec.ofChange s with cond := some uptoSmall }

/-- 'laws.FnExactSameTranscripts', WHERE WHAT IT READS IS OF BULK AT MOST 1048576: true; the input reads as it did. -/
def fnExactSameTranscriptsUptoRow : OpenClaim := { program := "ytplnbpiaacohnaa", sum := "535fd7897e7e9cf948846396e8599ad64e0cfae9e9cf17ad26ee0cae68e9aca1", func := "loop.example/g03000/laws.FnExactSameTranscripts", spec := "fnExactSameTranscripts", unfollowed := true, recurses := true, apart := false, narrowed := true }
def FnExactSameTranscriptsUptoSaid : Prop := fnExactSameTranscriptsUptoRow.holds Try.pinned (OpenSpec.upto fnExactSameTranscriptsSpec)

/-- 'laws.FnExactEqualDialed', WHERE WHAT IT READS IS OF BULK AT MOST 1048576: true; the input reads as it did. -/
def fnExactEqualDialedUptoRow : OpenClaim := { program := "ytplnbpiaacohnaa", sum := "535fd7897e7e9cf948846396e8599ad64e0cfae9e9cf17ad26ee0cae68e9aca1", func := "loop.example/g03000/laws.FnExactEqualDialed", spec := "fnExactEqualDialed", apart := false, narrowed := true }
def FnExactEqualDialedUptoSaid : Prop := fnExactEqualDialedUptoRow.holds Try.pinned (OpenSpec.upto fnExactEqualDialedSpec)

/-- 'laws.FnExactIsMemory', WHERE WHAT IT READS IS OF BULK AT MOST 1048576: true; the input reads as it did. -/
def fnExactIsMemoryUptoRow : OpenClaim := { program := "ytplnbpiaacohnaa", sum := "535fd7897e7e9cf948846396e8599ad64e0cfae9e9cf17ad26ee0cae68e9aca1", func := "loop.example/g03000/laws.FnExactIsMemory", spec := "fnExactIsMemory", unfollowed := true, recurses := true, apart := false, narrowed := true }
def FnExactIsMemoryUptoSaid : Prop := fnExactIsMemoryUptoRow.holds Try.pinned (OpenSpec.upto fnExactIsMemorySpec)

/-- 'laws.FnExactIsClearPath', WHERE WHAT IT READS IS OF BULK AT MOST 1048576: true; the input reads as it did. -/
def fnExactIsClearPathUptoRow : OpenClaim := { program := "ytplnbpiaacohnaa", sum := "535fd7897e7e9cf948846396e8599ad64e0cfae9e9cf17ad26ee0cae68e9aca1", func := "loop.example/g03000/laws.FnExactIsClearPath", spec := "fnExactIsClearPath", unfollowed := true, recurses := true, apart := false, narrowed := true }
def FnExactIsClearPathUptoSaid : Prop := fnExactIsClearPathUptoRow.holds Try.pinned (OpenSpec.upto fnExactIsClearPathSpec)

/-- 'laws.FnExactCountStates', WHERE WHAT IT READS IS OF BULK AT MOST 1048576: true; the input reads as it did. -/
def fnExactCountStatesUptoRow : OpenClaim := { program := "ytplnbpiaacohnaa", sum := "535fd7897e7e9cf948846396e8599ad64e0cfae9e9cf17ad26ee0cae68e9aca1", func := "loop.example/g03000/laws.FnExactCountStates", spec := "fnExactCountStates", unfollowed := true, recurses := true, apart := false, narrowed := true }
def FnExactCountStatesUptoSaid : Prop := fnExactCountStatesUptoRow.holds Try.pinned (OpenSpec.upto fnExactCountStatesSpec)

/-- 'laws.FnExactTranscriptHash', WHERE WHAT IT READS IS OF BULK AT MOST 1048576: true; the input reads as it did. -/
def fnExactTranscriptHashUptoRow : OpenClaim := { program := "ytplnbpiaacohnaa", sum := "535fd7897e7e9cf948846396e8599ad64e0cfae9e9cf17ad26ee0cae68e9aca1", func := "loop.example/g03000/laws.FnExactTranscriptHash", spec := "fnExactTranscriptHash", unfollowed := true, recurses := true, apart := false, narrowed := true }
def FnExactTranscriptHashUptoSaid : Prop := fnExactTranscriptHashUptoRow.holds Try.pinned (OpenSpec.upto fnExactTranscriptHashSpec)

/-- 'laws.FnExactRecall', WHERE WHAT IT READS IS OF BULK AT MOST 1048576: true; the input reads as it did. -/
def fnExactRecallUptoRow : OpenClaim := { program := "ytplnbpiaacohnaa", sum := "535fd7897e7e9cf948846396e8599ad64e0cfae9e9cf17ad26ee0cae68e9aca1", func := "loop.example/g03000/laws.FnExactRecall", spec := "fnExactRecall", unfollowed := true, recurses := true, apart := false, narrowed := true }
def FnExactRecallUptoSaid : Prop := fnExactRecallUptoRow.holds Try.pinned (OpenSpec.upto fnExactRecallSpec)

/-- 'laws.FnExactIsAnswer', WHERE WHAT IT READS IS OF BULK AT MOST 1048576: true; the input reads as it did. -/
def fnExactIsAnswerUptoRow : OpenClaim := { program := "ytplnbpiaacohnaa", sum := "535fd7897e7e9cf948846396e8599ad64e0cfae9e9cf17ad26ee0cae68e9aca1", func := "loop.example/g03000/laws.FnExactIsAnswer", spec := "fnExactIsAnswer", unfollowed := true, recurses := true, apart := false, narrowed := true }
def FnExactIsAnswerUptoSaid : Prop := fnExactIsAnswerUptoRow.holds Try.pinned (OpenSpec.upto fnExactIsAnswerSpec)

/-- 'laws.FnExactEqualHellos', WHERE WHAT IT READS IS OF BULK AT MOST 1048576: true; the input reads as it did. -/
def fnExactEqualHellosUptoRow : OpenClaim := { program := "ytplnbpiaacohnaa", sum := "535fd7897e7e9cf948846396e8599ad64e0cfae9e9cf17ad26ee0cae68e9aca1", func := "loop.example/g03000/laws.FnExactEqualHellos", spec := "fnExactEqualHellos", unfollowed := true, recurses := true, apart := false, narrowed := true }
def FnExactEqualHellosUptoSaid : Prop := fnExactEqualHellosUptoRow.holds Try.pinned (OpenSpec.upto fnExactEqualHellosSpec)

/-- 'laws.FnExactForgetOld', WHERE WHAT IT READS IS OF BULK AT MOST 1048576: true; the input reads as it did. -/
def fnExactForgetOldUptoRow : OpenClaim := { program := "ytplnbpiaacohnaa", sum := "535fd7897e7e9cf948846396e8599ad64e0cfae9e9cf17ad26ee0cae68e9aca1", func := "loop.example/g03000/laws.FnExactForgetOld", spec := "fnExactForgetOld", unfollowed := true, recurses := true, apart := false, narrowed := true }
def FnExactForgetOldUptoSaid : Prop := fnExactForgetOldUptoRow.holds Try.pinned (OpenSpec.upto fnExactForgetOldSpec)

/-- 'laws.FnExactRemember', WHERE WHAT IT READS IS OF BULK AT MOST 1048576: true; the input reads as it did. -/
def fnExactRememberUptoRow : OpenClaim := { program := "ytplnbpiaacohnaa", sum := "535fd7897e7e9cf948846396e8599ad64e0cfae9e9cf17ad26ee0cae68e9aca1", func := "loop.example/g03000/laws.FnExactRemember", spec := "fnExactRemember", unfollowed := true, recurses := true, apart := false, narrowed := true }
def FnExactRememberUptoSaid : Prop := fnExactRememberUptoRow.holds Try.pinned (OpenSpec.upto fnExactRememberSpec)

end Rows
end Go.Proofs.Ytplnbpiaacohnaa
