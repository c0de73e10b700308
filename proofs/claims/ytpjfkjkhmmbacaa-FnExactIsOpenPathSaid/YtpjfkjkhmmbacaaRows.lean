/-
  No cell of these rows narrows 'for every input' (looked for: loops, veiled, ifaces, maps, wideKeys, modest, calm, conditions, laid).
  DERIVED. THE GIVEN ROWS OF THIS SEAT. 12 by the template 'for every input the law returns true; each argument reads behind the call as it read before'; 0 by the template 'total and deterministic' (their statements: YtpjfkjkhmmbacaaTotals.lean).
  GIVEN WITH THE SEED: the statements are not yours to turn. If you find one false, say at which input.
  Laid BY PROGRAM, IN A SANDBOX (cutbox-rows.mjs): the forced cells as the released guide's own fill.sh prints them over the translation 7a714af3b722ae75… (all of the seat's roots in one cut). By AI agents, Wed Nov 11 2026. No macro, syntax, notation, axiom, sorry.
-/
import Derived.Test.YtpjfkjkhmmbacaaChecked
import GoSem.Claim
import GoSem.ClaimJoined
import GoSem.ClaimMapViews
import Derived.JoinedTies
import Derived.KernelRfl
namespace Go.Proofs.Ytpjfkjkhmmbacaa
/- THE CELL 'sum', in the pinned program and in every row, IS THE sha256 OF THE DUMP (.gsa) THAT YtpjfkjkhmmbacaaProg.lean LOADS. Nothing in Lean hashes anything: it is a label: what it is worth is what the hold of that sum in a sandbox is worth. -/
noncomputable def Try.pinned : Pinned := { name := "ytpjfkjkhmmbacaa", sum := "7a714af3b722ae75ec0eef6acbb34186b5ddd7129783ee283fa54ab838ffd1cb", checked := Try.checked }
namespace Rows
def none {H : Type} : Left H := { results := [], args := [] }

/-- 'laws.FnExactIsHello': WHATEVER THE INPUT: true; the input reads as it did. -/
def fnExactIsHelloSpec : ChangeSpec := { name := "fnExactIsHello", fn := fun _ => fun
  | [d] => { results := [.lit (.bool true)], args := [d] }
  | _ => none }
def fnExactIsHelloRow : OpenClaim := { program := "ytpjfkjkhmmbacaa", sum := "7a714af3b722ae75ec0eef6acbb34186b5ddd7129783ee283fa54ab838ffd1cb", func := "loop.example/g03000/laws.FnExactIsHello", spec := "fnExactIsHello", unfollowed := true, recurses := true, apart := false }
def FnExactIsHelloSaid : Prop := fnExactIsHelloRow.holds Try.pinned (OpenSpec.ofChange fnExactIsHelloSpec)

/-- ITS FALSE NEIGHBOUR: 'it returns false'. Refute it at one input. -/
def fnExactIsHelloWrong : ChangeSpec := { name := "fnExactIsHello", fn := fun _ => fun
  | [d] => { results := [.lit (.bool false)], args := [d] }
  | _ => none }
def FnExactIsHelloWrongFalsely : Prop := fnExactIsHelloRow.holds Try.pinned (OpenSpec.ofChange fnExactIsHelloWrong)

/-- 'laws.FnExactFinishOf': WHATEVER THE INPUT: true; the input reads as it did. -/
def fnExactFinishOfSpec : ChangeSpec := { name := "fnExactFinishOf", fn := fun _ => fun
  | [d1, d2, d3] => { results := [.lit (.bool true)], args := [d1, d2, d3] }
  | _ => none }
def fnExactFinishOfRow : OpenClaim := { program := "ytpjfkjkhmmbacaa", sum := "7a714af3b722ae75ec0eef6acbb34186b5ddd7129783ee283fa54ab838ffd1cb", func := "loop.example/g03000/laws.FnExactFinishOf", spec := "fnExactFinishOf", unfollowed := true, recurses := true, apart := false }
def FnExactFinishOfSaid : Prop := fnExactFinishOfRow.holds Try.pinned (OpenSpec.ofChange fnExactFinishOfSpec)

/-- ITS FALSE NEIGHBOUR: 'it returns false'. Refute it at one input. -/
def fnExactFinishOfWrong : ChangeSpec := { name := "fnExactFinishOf", fn := fun _ => fun
  | [d1, d2, d3] => { results := [.lit (.bool false)], args := [d1, d2, d3] }
  | _ => none }
def FnExactFinishOfWrongFalsely : Prop := fnExactFinishOfRow.holds Try.pinned (OpenSpec.ofChange fnExactFinishOfWrong)

/-- 'laws.FnExactChecksOut': WHATEVER THE INPUT: true; the input reads as it did. -/
def fnExactChecksOutSpec : ChangeSpec := { name := "fnExactChecksOut", fn := fun _ => fun
  | [d1, d2, d3, d4] => { results := [.lit (.bool true)], args := [d1, d2, d3, d4] }
  | _ => none }
def fnExactChecksOutRow : OpenClaim := { program := "ytpjfkjkhmmbacaa", sum := "7a714af3b722ae75ec0eef6acbb34186b5ddd7129783ee283fa54ab838ffd1cb", func := "loop.example/g03000/laws.FnExactChecksOut", spec := "fnExactChecksOut", unfollowed := true, recurses := true, apart := false }
def FnExactChecksOutSaid : Prop := fnExactChecksOutRow.holds Try.pinned (OpenSpec.ofChange fnExactChecksOutSpec)

/-- ITS FALSE NEIGHBOUR: 'it returns false'. Refute it at one input. -/
def fnExactChecksOutWrong : ChangeSpec := { name := "fnExactChecksOut", fn := fun _ => fun
  | [d1, d2, d3, d4] => { results := [.lit (.bool false)], args := [d1, d2, d3, d4] }
  | _ => none }
def FnExactChecksOutWrongFalsely : Prop := fnExactChecksOutRow.holds Try.pinned (OpenSpec.ofChange fnExactChecksOutWrong)

/-- 'laws.FnExactIsPartOf': WHATEVER THE INPUT: true; the input reads as it did. -/
def fnExactIsPartOfSpec : ChangeSpec := { name := "fnExactIsPartOf", fn := fun _ => fun
  | [d1, d2] => { results := [.lit (.bool true)], args := [d1, d2] }
  | _ => none }
def fnExactIsPartOfRow : OpenClaim := { program := "ytpjfkjkhmmbacaa", sum := "7a714af3b722ae75ec0eef6acbb34186b5ddd7129783ee283fa54ab838ffd1cb", func := "loop.example/g03000/laws.FnExactIsPartOf", spec := "fnExactIsPartOf", unfollowed := true, recurses := true, apart := false }
def FnExactIsPartOfSaid : Prop := fnExactIsPartOfRow.holds Try.pinned (OpenSpec.ofChange fnExactIsPartOfSpec)

/-- ITS FALSE NEIGHBOUR: 'it returns false'. Refute it at one input. -/
def fnExactIsPartOfWrong : ChangeSpec := { name := "fnExactIsPartOf", fn := fun _ => fun
  | [d1, d2] => { results := [.lit (.bool false)], args := [d1, d2] }
  | _ => none }
def FnExactIsPartOfWrongFalsely : Prop := fnExactIsPartOfRow.holds Try.pinned (OpenSpec.ofChange fnExactIsPartOfWrong)

/-- 'laws.FnExactGivenUp': WHATEVER THE INPUT: true; the input reads as it did. -/
def fnExactGivenUpSpec : ChangeSpec := { name := "fnExactGivenUp", fn := fun _ => fun
  | [d1, d2] => { results := [.lit (.bool true)], args := [d1, d2] }
  | _ => none }
def fnExactGivenUpRow : OpenClaim := { program := "ytpjfkjkhmmbacaa", sum := "7a714af3b722ae75ec0eef6acbb34186b5ddd7129783ee283fa54ab838ffd1cb", func := "loop.example/g03000/laws.FnExactGivenUp", spec := "fnExactGivenUp", apart := false }
def FnExactGivenUpSaid : Prop := fnExactGivenUpRow.holds Try.pinned (OpenSpec.ofChange fnExactGivenUpSpec)

/-- ITS FALSE NEIGHBOUR: 'it returns false'. Refute it at one input. -/
def fnExactGivenUpWrong : ChangeSpec := { name := "fnExactGivenUp", fn := fun _ => fun
  | [d1, d2] => { results := [.lit (.bool false)], args := [d1, d2] }
  | _ => none }
def FnExactGivenUpWrongFalsely : Prop := fnExactGivenUpRow.holds Try.pinned (OpenSpec.ofChange fnExactGivenUpWrong)

/-- 'laws.FnExactAnswerBytes': WHATEVER THE INPUT: true; the input reads as it did. -/
def fnExactAnswerBytesSpec : ChangeSpec := { name := "fnExactAnswerBytes", fn := fun _ => fun
  | [d] => { results := [.lit (.bool true)], args := [d] }
  | _ => none }
def fnExactAnswerBytesRow : OpenClaim := { program := "ytpjfkjkhmmbacaa", sum := "7a714af3b722ae75ec0eef6acbb34186b5ddd7129783ee283fa54ab838ffd1cb", func := "loop.example/g03000/laws.FnExactAnswerBytes", spec := "fnExactAnswerBytes", unfollowed := true, recurses := true, apart := false }
def FnExactAnswerBytesSaid : Prop := fnExactAnswerBytesRow.holds Try.pinned (OpenSpec.ofChange fnExactAnswerBytesSpec)

/-- ITS FALSE NEIGHBOUR: 'it returns false'. Refute it at one input. -/
def fnExactAnswerBytesWrong : ChangeSpec := { name := "fnExactAnswerBytes", fn := fun _ => fun
  | [d] => { results := [.lit (.bool false)], args := [d] }
  | _ => none }
def FnExactAnswerBytesWrongFalsely : Prop := fnExactAnswerBytesRow.holds Try.pinned (OpenSpec.ofChange fnExactAnswerBytesWrong)

/-- 'laws.FnExactEditAnswer': WHATEVER THE INPUT: true; the input reads as it did. -/
def fnExactEditAnswerSpec : ChangeSpec := { name := "fnExactEditAnswer", fn := fun _ => fun
  | [d1, d2] => { results := [.lit (.bool true)], args := [d1, d2] }
  | _ => none }
def fnExactEditAnswerRow : OpenClaim := { program := "ytpjfkjkhmmbacaa", sum := "7a714af3b722ae75ec0eef6acbb34186b5ddd7129783ee283fa54ab838ffd1cb", func := "loop.example/g03000/laws.FnExactEditAnswer", spec := "fnExactEditAnswer", unfollowed := true, recurses := true, apart := false }
def FnExactEditAnswerSaid : Prop := fnExactEditAnswerRow.holds Try.pinned (OpenSpec.ofChange fnExactEditAnswerSpec)

/-- ITS FALSE NEIGHBOUR: 'it returns false'. Refute it at one input. -/
def fnExactEditAnswerWrong : ChangeSpec := { name := "fnExactEditAnswer", fn := fun _ => fun
  | [d1, d2] => { results := [.lit (.bool false)], args := [d1, d2] }
  | _ => none }
def FnExactEditAnswerWrongFalsely : Prop := fnExactEditAnswerRow.holds Try.pinned (OpenSpec.ofChange fnExactEditAnswerWrong)

/-- 'laws.FnExactReadHello': WHATEVER THE INPUT: true; the input reads as it did. -/
def fnExactReadHelloSpec : ChangeSpec := { name := "fnExactReadHello", fn := fun _ => fun
  | [d] => { results := [.lit (.bool true)], args := [d] }
  | _ => none }
def fnExactReadHelloRow : OpenClaim := { program := "ytpjfkjkhmmbacaa", sum := "7a714af3b722ae75ec0eef6acbb34186b5ddd7129783ee283fa54ab838ffd1cb", func := "loop.example/g03000/laws.FnExactReadHello", spec := "fnExactReadHello", unfollowed := true, recurses := true, apart := false }
def FnExactReadHelloSaid : Prop := fnExactReadHelloRow.holds Try.pinned (OpenSpec.ofChange fnExactReadHelloSpec)

/-- ITS FALSE NEIGHBOUR: 'it returns false'. Refute it at one input. -/
def fnExactReadHelloWrong : ChangeSpec := { name := "fnExactReadHello", fn := fun _ => fun
  | [d] => { results := [.lit (.bool false)], args := [d] }
  | _ => none }
def FnExactReadHelloWrongFalsely : Prop := fnExactReadHelloRow.holds Try.pinned (OpenSpec.ofChange fnExactReadHelloWrong)

/-- 'laws.FnExactFitsHello': WHATEVER THE INPUT: true; the input reads as it did. -/
def fnExactFitsHelloSpec : ChangeSpec := { name := "fnExactFitsHello", fn := fun _ => fun
  | [d1, d2] => { results := [.lit (.bool true)], args := [d1, d2] }
  | _ => none }
def fnExactFitsHelloRow : OpenClaim := { program := "ytpjfkjkhmmbacaa", sum := "7a714af3b722ae75ec0eef6acbb34186b5ddd7129783ee283fa54ab838ffd1cb", func := "loop.example/g03000/laws.FnExactFitsHello", spec := "fnExactFitsHello", unfollowed := true, recurses := true, apart := false }
def FnExactFitsHelloSaid : Prop := fnExactFitsHelloRow.holds Try.pinned (OpenSpec.ofChange fnExactFitsHelloSpec)

/-- ITS FALSE NEIGHBOUR: 'it returns false'. Refute it at one input. -/
def fnExactFitsHelloWrong : ChangeSpec := { name := "fnExactFitsHello", fn := fun _ => fun
  | [d1, d2] => { results := [.lit (.bool false)], args := [d1, d2] }
  | _ => none }
def FnExactFitsHelloWrongFalsely : Prop := fnExactFitsHelloRow.holds Try.pinned (OpenSpec.ofChange fnExactFitsHelloWrong)

/-- 'laws.FnExactHelloBytes': WHATEVER THE INPUT: true; the input reads as it did. -/
def fnExactHelloBytesSpec : ChangeSpec := { name := "fnExactHelloBytes", fn := fun _ => fun
  | [d] => { results := [.lit (.bool true)], args := [d] }
  | _ => none }
def fnExactHelloBytesRow : OpenClaim := { program := "ytpjfkjkhmmbacaa", sum := "7a714af3b722ae75ec0eef6acbb34186b5ddd7129783ee283fa54ab838ffd1cb", func := "loop.example/g03000/laws.FnExactHelloBytes", spec := "fnExactHelloBytes", unfollowed := true, recurses := true, apart := false }
def FnExactHelloBytesSaid : Prop := fnExactHelloBytesRow.holds Try.pinned (OpenSpec.ofChange fnExactHelloBytesSpec)

/-- ITS FALSE NEIGHBOUR: 'it returns false'. Refute it at one input. -/
def fnExactHelloBytesWrong : ChangeSpec := { name := "fnExactHelloBytes", fn := fun _ => fun
  | [d] => { results := [.lit (.bool false)], args := [d] }
  | _ => none }
def FnExactHelloBytesWrongFalsely : Prop := fnExactHelloBytesRow.holds Try.pinned (OpenSpec.ofChange fnExactHelloBytesWrong)

/-- 'laws.FnExactPartHello': WHATEVER THE INPUT: true; the input reads as it did. -/
def fnExactPartHelloSpec : ChangeSpec := { name := "fnExactPartHello", fn := fun _ => fun
  | [d1, d2, d3] => { results := [.lit (.bool true)], args := [d1, d2, d3] }
  | _ => none }
def fnExactPartHelloRow : OpenClaim := { program := "ytpjfkjkhmmbacaa", sum := "7a714af3b722ae75ec0eef6acbb34186b5ddd7129783ee283fa54ab838ffd1cb", func := "loop.example/g03000/laws.FnExactPartHello", spec := "fnExactPartHello", unfollowed := true, recurses := true, apart := false }
def FnExactPartHelloSaid : Prop := fnExactPartHelloRow.holds Try.pinned (OpenSpec.ofChange fnExactPartHelloSpec)

/-- ITS FALSE NEIGHBOUR: 'it returns false'. Refute it at one input. -/
def fnExactPartHelloWrong : ChangeSpec := { name := "fnExactPartHello", fn := fun _ => fun
  | [d1, d2, d3] => { results := [.lit (.bool false)], args := [d1, d2, d3] }
  | _ => none }
def FnExactPartHelloWrongFalsely : Prop := fnExactPartHelloRow.holds Try.pinned (OpenSpec.ofChange fnExactPartHelloWrong)

/-- 'laws.FnExactIsOpenPath': WHATEVER THE INPUT: true; the input reads as it did. -/
def fnExactIsOpenPathSpec : ChangeSpec := { name := "fnExactIsOpenPath", fn := fun _ => fun
  | [d1, d2] => { results := [.lit (.bool true)], args := [d1, d2] }
  | _ => none }
def fnExactIsOpenPathRow : OpenClaim := { program := "ytpjfkjkhmmbacaa", sum := "7a714af3b722ae75ec0eef6acbb34186b5ddd7129783ee283fa54ab838ffd1cb", func := "loop.example/g03000/laws.FnExactIsOpenPath", spec := "fnExactIsOpenPath", unfollowed := true, recurses := true, apart := false }
def FnExactIsOpenPathSaid : Prop := fnExactIsOpenPathRow.holds Try.pinned (OpenSpec.ofChange fnExactIsOpenPathSpec)

/-- ITS FALSE NEIGHBOUR: 'it returns false'. Refute it at one input. -/
def fnExactIsOpenPathWrong : ChangeSpec := { name := "fnExactIsOpenPath", fn := fun _ => fun
  | [d1, d2] => { results := [.lit (.bool false)], args := [d1, d2] }
  | _ => none }
def FnExactIsOpenPathWrongFalsely : Prop := fnExactIsOpenPathRow.holds Try.pinned (OpenSpec.ofChange fnExactIsOpenPathWrong)

/- THE SECOND FORM. 'bulk': how many values and letters a reading holds, each counted each time it is reached (what is shared counts as often as it is met; a slice's spare places count too). A statement '..UptoSaid' is the law's where the arguments, and the package variables that the reading takes, are together of bulk at most 1048576: NARROWER than '..Said'. Prove '..Said' where nothing that the law and all that it calls make is longer than what came in: it says more and counts as full. Else prove '..UptoSaid'. A law counts once. -/
mutual
def uptoBulk {H : Type} : DataW H → Nat
  | .lit (.string bytes) => bytes.length + 1
  | .lit _ => 1
  | .nil => 1
  | .ptr d => uptoBulk d + 1
  | .slice elems spare => uptoBulkAll elems + uptoBulkAll spare + 1
  | .agg parts => uptoBulkAll parts + 1
  | .iface _ d => uptoBulk d + 1
  | .map entries => uptoBulkEntries entries + 1
  | .held _ => 1
def uptoBulkAll {H : Type} : List (DataW H) → Nat
  | [] => 0
  | d :: r => uptoBulk d + uptoBulkAll r
def uptoBulkEntries {H : Type} : List (Lit × DataW H) → Nat
  | [] => 0
  | x :: r => uptoBulkEntry x + uptoBulkEntries r
def uptoBulkEntry {H : Type} : Lit × DataW H → Nat
  | (.string bytes, d) => bytes.length + uptoBulk d + 1
  | (_, d) => uptoBulk d + 1
 end
def uptoSmall : (H : Type) → List (DataW H) → Bool := fun _ ds => decide (uptoBulkAll ds ≤ 1048576)
def OpenSpec.upto (s : _root_.Go.ChangeSpec) : _root_.Go.OpenSpec := { _root_.Go.OpenSpec.ofChange s with cond := some uptoSmall }

/-- 'laws.FnExactIsHello', WHERE WHAT IT READS IS OF BULK AT MOST 1048576: true; the input reads as it did. -/
def fnExactIsHelloUptoRow : OpenClaim := { program := "ytpjfkjkhmmbacaa", sum := "7a714af3b722ae75ec0eef6acbb34186b5ddd7129783ee283fa54ab838ffd1cb", func := "loop.example/g03000/laws.FnExactIsHello", spec := "fnExactIsHello", unfollowed := true, recurses := true, apart := false, narrowed := true }
def FnExactIsHelloUptoSaid : Prop := fnExactIsHelloUptoRow.holds Try.pinned (OpenSpec.upto fnExactIsHelloSpec)

/-- 'laws.FnExactFinishOf', WHERE WHAT IT READS IS OF BULK AT MOST 1048576: true; the input reads as it did. -/
def fnExactFinishOfUptoRow : OpenClaim := { program := "ytpjfkjkhmmbacaa", sum := "7a714af3b722ae75ec0eef6acbb34186b5ddd7129783ee283fa54ab838ffd1cb", func := "loop.example/g03000/laws.FnExactFinishOf", spec := "fnExactFinishOf", unfollowed := true, recurses := true, apart := false, narrowed := true }
def FnExactFinishOfUptoSaid : Prop := fnExactFinishOfUptoRow.holds Try.pinned (OpenSpec.upto fnExactFinishOfSpec)

/-- 'laws.FnExactChecksOut', WHERE WHAT IT READS IS OF BULK AT MOST 1048576: true; the input reads as it did. -/
def fnExactChecksOutUptoRow : OpenClaim := { program := "ytpjfkjkhmmbacaa", sum := "7a714af3b722ae75ec0eef6acbb34186b5ddd7129783ee283fa54ab838ffd1cb", func := "loop.example/g03000/laws.FnExactChecksOut", spec := "fnExactChecksOut", unfollowed := true, recurses := true, apart := false, narrowed := true }
def FnExactChecksOutUptoSaid : Prop := fnExactChecksOutUptoRow.holds Try.pinned (OpenSpec.upto fnExactChecksOutSpec)

/-- 'laws.FnExactIsPartOf', WHERE WHAT IT READS IS OF BULK AT MOST 1048576: true; the input reads as it did. -/
def fnExactIsPartOfUptoRow : OpenClaim := { program := "ytpjfkjkhmmbacaa", sum := "7a714af3b722ae75ec0eef6acbb34186b5ddd7129783ee283fa54ab838ffd1cb", func := "loop.example/g03000/laws.FnExactIsPartOf", spec := "fnExactIsPartOf", unfollowed := true, recurses := true, apart := false, narrowed := true }
def FnExactIsPartOfUptoSaid : Prop := fnExactIsPartOfUptoRow.holds Try.pinned (OpenSpec.upto fnExactIsPartOfSpec)

/-- 'laws.FnExactGivenUp', WHERE WHAT IT READS IS OF BULK AT MOST 1048576: true; the input reads as it did. -/
def fnExactGivenUpUptoRow : OpenClaim := { program := "ytpjfkjkhmmbacaa", sum := "7a714af3b722ae75ec0eef6acbb34186b5ddd7129783ee283fa54ab838ffd1cb", func := "loop.example/g03000/laws.FnExactGivenUp", spec := "fnExactGivenUp", apart := false, narrowed := true }
def FnExactGivenUpUptoSaid : Prop := fnExactGivenUpUptoRow.holds Try.pinned (OpenSpec.upto fnExactGivenUpSpec)

/-- 'laws.FnExactAnswerBytes', WHERE WHAT IT READS IS OF BULK AT MOST 1048576: true; the input reads as it did. -/
def fnExactAnswerBytesUptoRow : OpenClaim := { program := "ytpjfkjkhmmbacaa", sum := "7a714af3b722ae75ec0eef6acbb34186b5ddd7129783ee283fa54ab838ffd1cb", func := "loop.example/g03000/laws.FnExactAnswerBytes", spec := "fnExactAnswerBytes", unfollowed := true, recurses := true, apart := false, narrowed := true }
def FnExactAnswerBytesUptoSaid : Prop := fnExactAnswerBytesUptoRow.holds Try.pinned (OpenSpec.upto fnExactAnswerBytesSpec)

/-- 'laws.FnExactEditAnswer', WHERE WHAT IT READS IS OF BULK AT MOST 1048576: true; the input reads as it did. -/
def fnExactEditAnswerUptoRow : OpenClaim := { program := "ytpjfkjkhmmbacaa", sum := "7a714af3b722ae75ec0eef6acbb34186b5ddd7129783ee283fa54ab838ffd1cb", func := "loop.example/g03000/laws.FnExactEditAnswer", spec := "fnExactEditAnswer", unfollowed := true, recurses := true, apart := false, narrowed := true }
def FnExactEditAnswerUptoSaid : Prop := fnExactEditAnswerUptoRow.holds Try.pinned (OpenSpec.upto fnExactEditAnswerSpec)

/-- 'laws.FnExactReadHello', WHERE WHAT IT READS IS OF BULK AT MOST 1048576: true; the input reads as it did. -/
def fnExactReadHelloUptoRow : OpenClaim := { program := "ytpjfkjkhmmbacaa", sum := "7a714af3b722ae75ec0eef6acbb34186b5ddd7129783ee283fa54ab838ffd1cb", func := "loop.example/g03000/laws.FnExactReadHello", spec := "fnExactReadHello", unfollowed := true, recurses := true, apart := false, narrowed := true }
def FnExactReadHelloUptoSaid : Prop := fnExactReadHelloUptoRow.holds Try.pinned (OpenSpec.upto fnExactReadHelloSpec)

/-- 'laws.FnExactFitsHello', WHERE WHAT IT READS IS OF BULK AT MOST 1048576: true; the input reads as it did. -/
def fnExactFitsHelloUptoRow : OpenClaim := { program := "ytpjfkjkhmmbacaa", sum := "7a714af3b722ae75ec0eef6acbb34186b5ddd7129783ee283fa54ab838ffd1cb", func := "loop.example/g03000/laws.FnExactFitsHello", spec := "fnExactFitsHello", unfollowed := true, recurses := true, apart := false, narrowed := true }
def FnExactFitsHelloUptoSaid : Prop := fnExactFitsHelloUptoRow.holds Try.pinned (OpenSpec.upto fnExactFitsHelloSpec)

/-- 'laws.FnExactHelloBytes', WHERE WHAT IT READS IS OF BULK AT MOST 1048576: true; the input reads as it did. -/
def fnExactHelloBytesUptoRow : OpenClaim := { program := "ytpjfkjkhmmbacaa", sum := "7a714af3b722ae75ec0eef6acbb34186b5ddd7129783ee283fa54ab838ffd1cb", func := "loop.example/g03000/laws.FnExactHelloBytes", spec := "fnExactHelloBytes", unfollowed := true, recurses := true, apart := false, narrowed := true }
def FnExactHelloBytesUptoSaid : Prop := fnExactHelloBytesUptoRow.holds Try.pinned (OpenSpec.upto fnExactHelloBytesSpec)

/-- 'laws.FnExactPartHello', WHERE WHAT IT READS IS OF BULK AT MOST 1048576: true; the input reads as it did. -/
def fnExactPartHelloUptoRow : OpenClaim := { program := "ytpjfkjkhmmbacaa", sum := "7a714af3b722ae75ec0eef6acbb34186b5ddd7129783ee283fa54ab838ffd1cb", func := "loop.example/g03000/laws.FnExactPartHello", spec := "fnExactPartHello", unfollowed := true, recurses := true, apart := false, narrowed := true }
def FnExactPartHelloUptoSaid : Prop := fnExactPartHelloUptoRow.holds Try.pinned (OpenSpec.upto fnExactPartHelloSpec)

/-- 'laws.FnExactIsOpenPath', WHERE WHAT IT READS IS OF BULK AT MOST 1048576: true; the input reads as it did. -/
def fnExactIsOpenPathUptoRow : OpenClaim := { program := "ytpjfkjkhmmbacaa", sum := "7a714af3b722ae75ec0eef6acbb34186b5ddd7129783ee283fa54ab838ffd1cb", func := "loop.example/g03000/laws.FnExactIsOpenPath", spec := "fnExactIsOpenPath", unfollowed := true, recurses := true, apart := false, narrowed := true }
def FnExactIsOpenPathUptoSaid : Prop := fnExactIsOpenPathUptoRow.holds Try.pinned (OpenSpec.upto fnExactIsOpenPathSpec)

end Rows
end Go.Proofs.Ytpjfkjkhmmbacaa
