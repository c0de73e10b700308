/- The value machine, part 1: code read as work on values, and its soundness over memory. -/
import GoSem.Core.Code
import GoSem.Core.View
import Derived.Below
import Derived.Calls
import Derived.Orders
import Derived.Tactics
set_option maxHeartbeats 4000000
set_option maxRecDepth 10000
set_option linter.unusedVariables false
set_option linter.unusedSimpArgs false
section
namespace Go.Vm
inductive VA (α : Type) where
 | int (k : IntKind) (n : Int)
 | bool (b : Bool)
 | str (s : ByteArray)
 | row (t : α) (es : List (List (VA α)))
 | ptr (t : α) (cs : List (VA α))
 | fn (g : Nat) (caps : List (VA α))
 deriving Inhabited
abbrev V := VA Unit
inductive Ck where
 | own | grn | chg | spn
 deriving DecidableEq, Inhabited
inductive Fl where
 | sc | sp (a c : Nat) | sh | nl | ow (g : Bool) | nw (g : Bool) | os (n : Bool) | mp (i : Nat)
 | cp (m : Ck) (s c : Nat) (ix : Option Nat) | ap (s c ix : Nat) | fr | no | dd
 deriving DecidableEq, Inhabited
structure Cell (α : Type) where
 v : VA α
 f : Fl
 deriving Inhabited
inductive Kd (α : Type) where
 | dead | und | val | agg
 | box (t : α)
 | tup (shape : List (Bool × Nat))
 | ptr (root off : Nat)
 | ept (t : α) (src : Option (Nat × Nat)) (ix : Nat)
 | clo (g : Nat) (roots : List Nat)
 deriving Inhabited
structure Sl (α : Type) where
 k : Kd α
 cs : List (Cell α)
 deriving Inhabited
abbrev SU := Sl Unit
abbrev St := List SU
def dead : SU := ⟨.dead, []⟩
inductive Opd where
 | t (i : Nat)
 | c (agg : Bool) (cs : List V)
 | f (g : Nat)
 deriving Inhabited
inductive Ir where
 | move (x : Opd)
 | assign (x : Opd)
 | clear
 | pick (c a b : Opd)
 | alloc (zs : List V)
 | box (x : Opd)
 | build (zs : List V) (parts : List (Nat × Nat × Opd))
 | bslice (z : List V) (len : Nat) (parts : List (Nat × Opd))
 | load (agg : Bool) (n : Nat) (a : Opd)
 | store (n : Nat) (a x : Opd)
 | rstore (n : Nat) (a x : Opd)
 | bin (op : BinOp) (x y : Opd)
 | beq (neg : Bool) (x y : Opd)
 | un (op : UnOp) (x : Opd)
 | conv (k : IntKind) (x : Opd)
 | call (g : Nat) (args : List Opd)
 | callv (f : Opd) (args : List Opd)
 | len (ofStr : Bool) (x : Opd)
 | append (k : Nat) (x y : Opd)
 | min (x y : Opd)
 | max (x y : Opd)
 | slice (k : Nat) (x : Opd) (lo hi : Option Opd)
 | faddr (off : Nat) (x : Opd)
 | iaddr (k : Nat) (x i : Opd)
 | field (agg : Bool) (off n : Nat) (x : Opd)
 | index (x i : Opd)
 | extract (i : Nat) (x : Opd)
 | nilchk (x : Opd)
 | mkfn (g : Nat) (caps : List Nat)
 | mkslice (z : List V) (l c : Opd)
 | bad
 deriving Inhabited
structure Io where
 dst : Option Nat
 op : Ir
 guard : Option (Nat × Bool)
 anc : List Nat
 deriving Inhabited
inductive Cd where
 | skip
 | region (draw : Bool) (kill0 kill1 : List Nat) (ops : List Io)
 | seq (a b : Cd)
 | cond (x : Opd) (a b : Cd)
 | block (id : Nat) (c : Cd)
 | loop (c : Cd)
 | exit (id : Nat)
 | ret
 | bad
 deriving Inhabited
inductive Pm where
 | val | mrow | mbox
 deriving DecidableEq, Inhabited
structure FnIr where
 sp : Nat := 0
 np : Nat
 ntmps : Nat
 res : List (Nat × Option (Bool × Nat))
 modes : List Pm
 body : Cd
 deriving Inhabited
inductive FM (α : Type) where
 | ret (a : α)
 | get (i : Nat) (k : SU → FM α)
 | set (i : Nat) (s : SU) (k : FM α)
 | fail
def FM.bind {α β : Type} : FM α → (α → FM β) → FM β
 | .ret a, f => f a
 | .get i k, f => .get i fun s => (k s).bind f
 | .set i s k, f => .set i s (k.bind f)
 | .fail, _ => .fail
instance : Monad FM where
 pure := FM.ret
 bind := FM.bind
def FM.run {α : Type} : FM α → St → Option (α × St)
 | .ret a, st => some (a, st)
 | .get i k, st => match st[i]? with | some s => (k s).run st | none => none
 | .set i s k, st => if i < st.length then k.run (st.set i s) else none
 | .fail, _ => none
def FM.log {α : Type} : FM α → St → List Nat × List Nat
 | .ret _, _ => ([], [])
 | .get i k, st => match st[i]? with | some s => (i :: ((k s).log st).1, ((k s).log st).2) | none => ([], [])
 | .set i s k, st => if i < st.length then (i :: (k.log (st.set i s)).1, i :: (k.log (st.set i s)).2) else ([], [])
 | .fail, _ => ([], [])
def getS (i : Nat) : FM SU := .get i .ret
def setS (i : Nat) (s : SU) : FM Unit := .set i s (.ret ())
def opt {α : Type} : Option α → FM α
 | some a => .ret a
 | none => .fail
def isRow {α : Type} : VA α → Bool
 | .row _ _ => true
 | _ => false
def scal {α : Type} : VA α → Bool
 | .int _ _ | .bool _ | .str _ => true
 | _ => false
def allScal {α : Type} (es : List (List (VA α))) : Bool := es.all fun e => e.all scal
def vals {α : Type} (cs : List (Cell α)) : List (VA α) := cs.map (·.v)
def constCell (v : V) : Cell Unit := ⟨v, if isRow v then .nl else .sc⟩
def opd : Opd → FM SU
 | .t i => getS i
 | .c agg cs => .ret ⟨if agg then .agg else .val, cs.map constCell⟩
 | .f g => .ret ⟨.val, [⟨.fn g [], .sh⟩]⟩
def cpy (s c : Nat) (x : Cell Unit) : Cell Unit :=
 match x.f with
 | .ow false | .nw false => ⟨x.v, .cp .own s c none⟩
 | .ow true | .nw true => ⟨x.v, .cp .grn s c none⟩
 | .mp _ => ⟨x.v, .cp .chg s c none⟩
 | .os _ => ⟨x.v, .cp .spn s c none⟩
 | _ => x
def cpys (s : Nat) : Nat → List (Cell Unit) → List (Cell Unit)
 | _, [] => []
 | c, x :: xs => cpy s c x :: cpys s (c + 1) xs
def setFl (s : SU) (c : Nat) (f : Fl) : SU :=
 match s.cs[c]? with
 | some x => ⟨s.k, s.cs.set c ⟨x.v, f⟩⟩
 | none => s
def giveUp (s c : Nat) (f : Fl) : FM Unit := (getS s).bind fun sl => setS s (setFl sl c f)
def flAt (sl : SU) (c : Nat) : Option Fl := (sl.cs[c]?).map (·.f)
def leftFl (g : Bool) : Fl := if g then .no else .fr
def ckFl : Ck → Fl
 | .own => .fr
 | _ => .no
def takeCell (s c : Nat) (x : Cell Unit) : FM (Cell Unit) :=
 match x.f with
 | .ow g | .nw g => (giveUp s c (leftFl g)).bind fun _ => .ret ⟨x.v, .ow g⟩
 | .mp i => (giveUp s c .no).bind fun _ => .ret ⟨x.v, .mp i⟩
 | .os _ => (giveUp s c .no).bind fun _ => .ret ⟨x.v, .os false⟩
 | .cp .chg _ _ _ => .ret ⟨x.v, .no⟩
 | .cp m s' c' none => (getS s').bind fun sl =>
  match flAt sl c' with
  | some (.ow g) => (setS s' (setFl sl c' (leftFl g))).bind fun _ => .ret ⟨x.v, .ow g⟩
  | some (.os false) => (setS s' (setFl sl c' .no)).bind fun _ => .ret ⟨x.v, .os false⟩
  | _ => .ret ⟨x.v, ckFl m⟩
 | .cp m _ _ _ => .ret ⟨x.v, ckFl m⟩
 | .ap _ _ _ | .dd => .fail
 | _ => .ret x
def takeCells (s : Nat) : Nat → Nat → FM (List (Cell Unit))
 | 0, _ => .ret []
 | n + 1, c => (getS s).bind fun sl =>
  match sl.cs[c]? with
  | some x => (takeCell s c x).bind fun y => (takeCells s n (c + 1)).bind fun ys => .ret (y :: ys)
  | none => .fail
def take (x : Opd) : FM (Bool × List (Cell Unit)) :=
 (opd x).bind fun sl =>
 (match x with | .t i => takeCells i sl.cs.length 0 | _ => .ret sl.cs).bind fun cs =>
 match sl.k with
 | .val => .ret (false, cs)
 | .agg => .ret (true, cs)
 | _ => .fail
def one (x : Opd) : FM (Cell Unit) :=
 (opd x).bind fun sl =>
 match sl.k, sl.cs with
 | .val, [c] => if c.f = .dd then .fail else .ret c
 | _, _ => .fail
def rowOf (x : Opd) : FM (List (List V) × Fl) :=
 (one x).bind fun c => match c.v, c.f with
 | .row _ _, .ap _ _ _ => .fail
 | .row _ es, f => .ret (es, f)
 | _, _ => .fail
def intOf' (x : Opd) : FM (IntKind × Int) :=
 (one x).bind fun c => match c.v with
 | .int k n => .ret (k, n)
 | _ => .fail
def boolOf' (x : Opd) : FM Bool :=
 (one x).bind fun c => match c.v with
 | .bool b => .ret b
 | _ => .fail
def sval (v : V) : SU := ⟨.val, [⟨v, .sc⟩]⟩
def binInt (op : BinOp) (k : IntKind) (x y : Int) : Option V :=
 match op with
 | .add => some (.int k (k.wrap (x + y)))
 | .sub => some (.int k (k.wrap (x - y)))
 | .mul => some (.int k (k.wrap (x * y)))
 | .quo => if y = 0 then none else some (.int k (k.wrap (x.tdiv y)))
 | .rem => if y = 0 then none else some (.int k (x.tmod y))
 | .and => some (.int k (k.wrap ((BitVec.ofInt k.bits x &&& BitVec.ofInt k.bits y).toNat)))
 | .or => some (.int k (k.wrap ((BitVec.ofInt k.bits x ||| BitVec.ofInt k.bits y).toNat)))
 | .xor => some (.int k (k.wrap ((BitVec.ofInt k.bits x ^^^ BitVec.ofInt k.bits y).toNat)))
 | .andNot => some (.int k (k.wrap ((BitVec.ofInt k.bits x &&& ~~~ BitVec.ofInt k.bits y).toNat)))
 | .eql => some (.bool (x == y))
 | .neq => some (.bool (x != y))
 | .lss => some (.bool (x < y))
 | .leq => some (.bool (x ≤ y))
 | .gtr => some (.bool (x > y))
 | .geq => some (.bool (x ≥ y))
 | .shl | .shr => none
def shiftV (op : BinOp) (k : IntKind) (x y : Int) : Option V :=
 if y < 0 then none
 else match op with
  | .shl => some (.int k (k.wrap (x * 2 ^ (Nat.min y.toNat k.bits))))
  | .shr => some (.int k (x.fdiv (2 ^ (Nat.min y.toNat k.bits))))
  | _ => none
def binV (op : BinOp) (a b : V) : Option V :=
 match a, b with
 | .int k x, .int k' y => match op with
  | .shl => shiftV .shl k x y
  | .shr => shiftV .shr k x y
  | op => if k = k' then binInt op k x y else none
 | _, _ => none
def unV (op : UnOp) (v : V) : Option V :=
 match op, v with
 | .neg, .int k n => some (.int k (k.wrap (0 - n)))
 | .not, .bool b => some (.bool !b)
 | _, _ => none
def splice {α : Type} (cs : List α) (off : Nat) : List α → List α
 | [] => cs
 | x :: xs => splice (cs.set off x) (off + 1) xs
def buildParts : List (Nat × Nat × Opd) → List (Cell Unit) → FM (List (Cell Unit))
 | [], cs => .ret cs
 | (off, n, x) :: ps, cs => (take x).bind fun y =>
  if y.2.length = n ∧ off + n ≤ cs.length then buildParts ps (splice cs off y.2) else .fail
def ownedCell (c : Cell Unit) : Bool := match c.f with
 | .sc | .nl | .ow false => true
 | _ => false
def owned (cs : List (Cell Unit)) : Bool := cs.all ownedCell
inductive Lv where
 | own | fre | any
 deriving DecidableEq, Inhabited
def Lv.and : Lv → Lv → Lv
 | .own, y => y
 | .fre, .any => .any
 | .fre, _ => .fre
 | .any, _ => .any
def freCell (c : Cell Unit) : Bool := match c.f with
 | .sc | .nl | .ow false | .fr | .os _ => true
 | _ => false
def lvOf (cs : List (Cell Unit)) : Lv := if owned cs then .own else if cs.all freCell then .fre else .any
def readable (c : Cell Unit) : Bool := (isRow c.v || scal c.v) && c.f != .dd && !(match c.f with | .mp _ | .ap _ _ _ => true | _ => false)
def sliceParts (k : Nat) : List (Nat × Opd) → List (List V) → Lv → FM (List (List V) × Lv)
 | [], es, ok => .ret (es, ok)
 | (i, x) :: ps, es, ok => (take x).bind fun y =>
  if y.2.length = k ∧ i < es.length ∧ y.2.all readable then sliceParts k ps (es.set i (vals y.2)) (ok.and (lvOf y.2)) else .fail
def partFl : Fl → Fl
 | .sp _ _ | .sh => .sh
 | .ow false | .nw false | .cp .own _ _ _ | .fr => .fr
 | _ => .no
def sliceFl : Fl → Fl
 | .sp _ _ | .sh => .sh
 | .nl => .nl
 | _ => .no
def elemCell (f : Fl) (v : V) : Cell Unit := ⟨v, if isRow v then partFl f else if scal v then .sc else .dd⟩
def elemFl (s c : Nat) : Nat → List (Cell Unit) → Option (List (Cell Unit))
 | _, [] => some []
 | ix, x :: xs => match elemFl s c (ix + 1) xs with
  | none => none
  | some r => if isRow x.v then (match x.f with
    | .fr => some (⟨x.v, .cp .own s c (some ix)⟩ :: r)
    | .no | .sh => some (⟨x.v, .cp .chg s c (some ix)⟩ :: r)
    | _ => none)
   else some (x :: r)
def owns : Fl → Bool
 | .ow _ | .nw _ | .mp _ => true
 | _ => false
def isOs : Fl → Bool
 | .os _ => true
 | _ => false
def hold (f : Fl) : Bool := owns f || isOs f
def ptrCell (v : V) : Cell Unit := ⟨v, if scal v then .sc else .sh⟩
def readCells (a : Opd) (n : Nat) : FM (List (Cell Unit)) :=
 (opd a).bind fun sl =>
 match sl.k with
 | .ptr r off => (getS r).bind fun b =>
  match b.k with
  | .box _ => if off + n ≤ b.cs.length then .ret (cpys r off ((b.cs.drop off).take n)) else .fail
  | _ => .fail
 | .ept _ none _ => if n ≤ sl.cs.length ∧ (sl.cs.all fun c => !hold c.f) then .ret (sl.cs.take n) else .fail
 | .ept _ (some (s, c)) ix => if n ≤ sl.cs.length then opt (elemFl s c ix (sl.cs.take n)) else .fail
 | .val => match sl.cs with
  | [⟨.ptr _ cs, .sh⟩] => if n ≤ cs.length ∧ n ≠ 0 then .ret ((cs.take n).map ptrCell) else .fail
  | _ => .fail
 | _ => .fail
def loadS (agg : Bool) (cs : List (Cell Unit)) : FM SU :=
 match agg with
 | true => .ret ⟨.agg, cs⟩
 | false => match cs with
  | [c] => .ret ⟨.val, [c]⟩
  | _ => .fail
def idx (n : Nat) (i : Int) : Option Nat := if 0 ≤ i ∧ i < n then some i.toNat else none
def bound (n : Nat) (d : Nat) : Option Opd → FM Nat
 | none => .ret d
 | some x => (intOf' x).bind fun y => if 0 ≤ y.2 ∧ y.2 ≤ n then .ret y.2.toNat else .fail
def lim : Nat := 1099511627776
def extractAt : List (Bool × Nat) → Nat → Nat → Option (Bool × Nat × Nat)
 | [], _, _ => none
 | (b, n) :: _, 0, off => some (b, off, n)
 | (_, n) :: r, i + 1, off => extractAt r i (off + n)
def rootsOf : List Nat → FM (List Nat)
 | [] => .ret []
 | i :: is => (getS i).bind fun sl =>
  match sl.k with
  | .ptr r 0 => (rootsOf is).bind fun rs => .ret (r :: rs)
  | _ => .fail
def takeElems (es : List (List V)) (y : Opd) : FM (List (List V) × Lv) :=
 if allScal es then .ret (es, .own)
 else (take y).bind fun z => match z with
  | (false, [⟨.row _ es', .ow false⟩]) => .ret (es', .own)
  | (false, [⟨.row _ es', .os _⟩]) => .ret (es', .fre)
  | _ => .ret (es, .any)
def rowFl : Lv → Fl
 | .own => .ow false
 | .fre => .os false
 | .any => .no
def rowsOf (k : Nat) (es : List (List V)) : Bool := es.all fun e => e.length = k
def append1 (k : Nat) (ok : Lv) (es ys : List (List V)) (f : Fl) : FM SU :=
 if rowsOf k es ∧ rowsOf k ys ∧ es.length + ys.length ≤ lim then
  match f with
  | .ow false => .ret ⟨.val, [⟨.row () (es ++ ys), rowFl ok⟩]⟩
  | .ow true => if k = 1 ∧ allScal ys then .ret ⟨.val, [⟨.row () (es ++ ys), .ow (match ys with | [] => true | _ :: _ => false)⟩]⟩ else .fail
  | .nl => .ret ⟨.val, [⟨.row () (es ++ ys), match ys with | [] => .nl | _ :: _ => rowFl ok⟩]⟩
  | .os _ => .ret ⟨.val, [⟨.row () (es ++ ys), rowFl (Lv.and .fre ok)⟩]⟩
  | _ => .fail
 else .fail
def lockS (nt : Nat) : Nat := 2 * nt
def evalIr (nt : Nat) : Ir → FM SU
 | .move x => (opd x).bind fun sl =>
  match sl.k, x with
  | .val, .t i => .ret ⟨.val, cpys i 0 sl.cs⟩
  | .agg, .t i => .ret ⟨.agg, cpys i 0 sl.cs⟩
  | .tup sh, .t i => .ret ⟨.tup sh, cpys i 0 sl.cs⟩
  | .val, _ => .ret sl
  | .agg, _ => .ret sl
  | .ptr _ _, _ => .ret sl
  | .clo _ _, _ => .ret sl
  | _, _ => .fail
 | .pick c a b => (boolOf' c).bind fun c =>
  if c then (boolOf' a).bind fun v => .ret (sval (.bool v)) else (boolOf' b).bind fun v => .ret (sval (.bool v))
 | .alloc zs => .ret ⟨.box (), zs.map constCell⟩
 | .box x => (take x).bind fun y => .ret ⟨.box (), y.2⟩
 | .build zs parts => (buildParts parts (zs.map constCell)).bind fun cs => .ret ⟨.agg, cs⟩
 | .bslice z len parts =>
  if z.isEmpty then .fail else
  (sliceParts z.length parts (List.replicate len z) .own).bind fun y => .ret ⟨.val, [⟨.row () y.1, rowFl y.2⟩]⟩
 | .load agg n a => (readCells a n).bind fun cs => loadS agg cs
 | .bin op x y => (one x).bind fun a => (one y).bind fun b => (opt (binV op a.v b.v)).bind fun v => .ret (sval v)
 | .beq neg x y => (boolOf' x).bind fun a => (boolOf' y).bind fun b => .ret (sval (.bool (if neg then !(a == b) else a == b)))
 | .un op x => (one x).bind fun a => (opt (unV op a.v)).bind fun v => .ret (sval v)
 | .conv k x => (intOf' x).bind fun y => .ret (sval (.int k (k.wrap y.2)))
 | .len ofStr x => (one x).bind fun c =>
  match ofStr, c.v with
  | false, .row _ es => .ret (sval (.int .i64 es.length))
  | true, .str s => .ret (sval (.int .i64 s.size))
  | _, _ => .fail
 | .min x y => (intOf' x).bind fun a => (intOf' y).bind fun b => .ret (sval (.int a.1 (if b.2 < a.2 then b.2 else a.2)))
 | .max x y => (intOf' x).bind fun a => (intOf' y).bind fun b => .ret (sval (.int a.1 (if b.2 > a.2 then b.2 else a.2)))
 | .append k x y => (rowOf y).bind fun ys =>
  if k = 0 then .fail else
   (one x).bind fun c =>
   match c.v, c.f with
   | .row _ es, .cp .own s' c' (some ix) =>
    (getS s').bind fun sl =>
    (getS (lockS nt)).bind fun l =>
    match flAt sl c', l.k with
    | some (.ow false), .dead =>
     if allScal es ∧ allScal ys.1 ∧ rowsOf k es ∧ rowsOf k ys.1 ∧ es.length + ys.1.length ≤ lim then
      (setS (lockS nt) ⟨.und, []⟩).bind fun _ => .ret ⟨.val, [⟨.row () (es ++ ys.1), .ap s' c' ix⟩]⟩
     else .fail
    | _, _ => .fail
   | _, _ =>
    (take x).bind fun xs =>
    (takeElems ys.1 y).bind fun z =>
    match xs with
    | (false, [⟨.row _ es, f⟩]) => append1 k z.2 es z.1 f
    | _ => .fail
 | .slice k x lo hi => (rowOf x).bind fun r =>
  (bound r.1.length r.1.length hi).bind fun h => (bound h 0 lo).bind fun l =>
  if r.1.all (fun e => e.length = k) then .ret ⟨.val, [⟨.row () ((r.1.take h).drop l), sliceFl r.2⟩]⟩ else .fail
 | .faddr off x => (opd x).bind fun sl =>
  match sl.k with
  | .ptr r o => .ret ⟨.ptr r (o + off), []⟩
  | .ept _ src ix => if sl.cs.all fun c => !hold c.f then .ret ⟨.ept () src (ix + off), sl.cs.drop off⟩ else .fail
  | .val => match sl.cs with
   | [⟨.ptr _ cs, .sh⟩] => if off < cs.length then .ret ⟨.val, [⟨.ptr () (cs.drop off), .sh⟩]⟩ else .fail
   | _ => .fail
  | _ => .fail
 | .iaddr k x i => (rowOf x).bind fun r => (intOf' i).bind fun n =>
  (opt (idx r.1.length n.2)).bind fun j => (opt r.1[j]?).bind fun e =>
  if k ≠ 0 ∧ e.length = k ∧ r.1.all (fun e => e.length = k) then
   .ret ⟨.ept () (match r.2 with | .cp _ s c none => some (s, c) | _ => none) (j * k), e.map (elemCell r.2)⟩
  else .fail
 | .field agg off n x => (opd x).bind fun sl =>
  match sl.k, x with
  | .agg, .t i => if off + n ≤ sl.cs.length then loadS agg (cpys i off ((sl.cs.drop off).take n)) else .fail
  | _, _ => .fail
 | .index x i => (intOf' i).bind fun n => (one x).bind fun c =>
  match c.v with
  | .str s => match (if 0 ≤ n.2 then s[n.2.toNat]? else none) with
   | some b => .ret (sval (.int .u8 b.toNat))
   | none => .fail
  | _ => .fail
 | .extract i x => (opd x).bind fun sl =>
  match sl.k, x with
  | .tup sh, .t s => match extractAt sh i 0 with
   | some (agg, off, n) => if agg || n = 1 && off < sl.cs.length then .ret ⟨if agg then .agg else .val, cpys s off ((sl.cs.drop off).take n)⟩ else .fail
   | none => .fail
  | _, _ => .fail
 | .nilchk x => (opd x).bind fun sl =>
  match sl.k with
  | .ptr _ _ => .ret sl
  | _ => .fail
 | .mkfn g caps => (rootsOf caps).bind fun rs => .ret ⟨.clo g rs, []⟩
 | .mkslice z l c => (intOf' l).bind fun n => (intOf' c).bind fun m =>
  if n.2 = m.2 ∧ 0 ≤ n.2 ∧ n.2 ≤ lim ∧ !z.isEmpty then .ret ⟨.val, [⟨.row () (List.replicate n.2.toNat z), .ow false⟩]⟩ else .fail
 | _ => .fail
def cutRef (ks : List Nat) (s : SU) : SU := match s.k with
 | .ptr r _ => if ks.contains r then dead else s
 | .clo _ rs => if rs.any ks.contains then dead else s
 | _ => s
def settleCell (x : Cell Unit) : Cell Unit :=
 match x.f with
 | .cp m _ _ _ => ⟨x.v, ckFl m⟩
 | .ap _ _ _ => ⟨x.v, .dd⟩
 | .nw g => ⟨x.v, .ow g⟩
 | .os _ => ⟨x.v, .os false⟩
 | _ => x
def settleS (s : SU) : SU := ⟨match s.k with | .ept t _ ix => .ept t none ix | k => k, s.cs.map settleCell⟩
def killIn (ks : List Nat) : Nat → St → St
 | _, [] => []
 | i, s :: r => (if ks.contains i then dead else cutRef ks (settleS s)) :: killIn ks (i + 1) r
def killAll (nt : Nat) (ks : List Nat) (st : St) : St := killIn (lockS nt :: ks) 0 st
def loseCell (x : Cell Unit) : Cell Unit :=
 match x.f with
 | .cp _ _ _ _ | .ap _ _ _ | .fr | .no | .os _ => ⟨x.v, .dd⟩
 | _ => x
def loseS (s : SU) : SU := match s.k with
 | .ept _ _ _ => dead
 | _ => ⟨s.k, s.cs.map loseCell⟩
def lose (st : St) : St := st.map loseS
def splitIx {α : Type} : Nat → List (List α) → Option (Nat × Nat)
 | _, [] => none
 | ix, e :: es => if ix < e.length then some (0, ix) else (splitIx (ix - e.length) es).map fun p => (p.1 + 1, p.2)
def setFlat {α : Type} (es : List (List α)) (ix : Nat) : List α → Option (List (List α))
 | [] => some es
 | v :: vs => match splitIx ix es with
  | some (i, j) => match es[i]? with
   | some e => setFlat (es.set i (e.set j v)) (ix + 1) vs
   | none => none
  | none => none
def flatAt (es : List (List V)) (ix : Nat) : Option V := es.flatten[ix]?
def runFM {α : Type} (p : FM α) (st : St) (k : α → St → Option St) : Option St :=
 match p.run st with
 | some (a, st') => k a st'
 | none => none
def takeAp (s c ix : Nat) (x : Opd) : FM (List (Cell Unit)) :=
 (opd x).bind fun sl =>
 match sl.k, sl.cs with
 | .val, [⟨v, .ap s' c' ix'⟩] => (getS s).bind fun sl =>
  match flAt sl c with
  | some (.ow false) => if s' = s ∧ c' = c ∧ ix' = ix then .ret [⟨v, .ow false⟩] else .fail
  | _ => .fail
 | _, _ => (take x).bind fun y => .ret y.2
def newCell (x : Cell Unit) : Cell Unit := match x.f with | .ow g => ⟨x.v, .nw g⟩ | .os _ => ⟨x.v, .os true⟩ | _ => x
def rowsStay : List (Cell Unit) → List (Cell Unit) → Bool
 | [], _ => true
 | x :: xs, [] => !isRow x.v && rowsStay xs []
 | x :: xs, y :: ys => (!isRow x.v || isRow y.v) && rowsStay xs ys
def noMp (cs : List (Cell Unit)) : Bool := cs.all fun c => match c.f with | .mp _ => false | _ => true
def evalAssign (nt d : Nat) (x : Opd) : FM Unit :=
 if nt ≤ d then .fail else
 (opd x).bind fun sl =>
  match sl.k with
  | .val | .agg => (take x).bind fun y => (getS d).bind fun old =>
   if rowsStay old.cs y.2 ∧ noMp y.2 then setS d ⟨if y.1 then .agg else .val, y.2.map newCell⟩ else .fail
  | .ptr _ _ | .clo _ _ => (getS d).bind fun old => if rowsStay old.cs [] then setS d sl else .fail
  | _ => .fail
def evalStore (n : Nat) (a x : Opd) : FM Unit :=
 (opd a).bind fun sl =>
 match sl.k with
 | .ptr r off => (take x).bind fun y => (getS r).bind fun b =>
  match b.k with
  | .box t => if y.2.length = n ∧ off + n ≤ b.cs.length ∧ rowsStay (b.cs.drop off) (y.2 ++ (b.cs.drop (off + n))) ∧ noMp y.2 then setS r ⟨.box t, splice b.cs off (y.2.map newCell)⟩ else .fail
  | _ => .fail
 | _ => .fail
def rowAt (st : St) (s c : Nat) : Option (List (List V) × Fl) :=
 match st[s]? with
 | some sl => match sl.cs[c]? with
  | some ⟨.row _ es, .ow false⟩ => some (es, .ow false)
  | some ⟨.row _ es, .mp i⟩ => some (es, .mp i)
  | _ => none
 | none => none
def setRow (st : St) (s c : Nat) (v : V) : St :=
 match st[s]? with
 | some sl => match sl.cs[c]? with
  | some x => st.set s ⟨sl.k, sl.cs.set c ⟨v, x.f⟩⟩
  | none => st
 | none => st
def storeS (n : Nat) (a x : Opd) (st : St) : Option St :=
 runFM (opd a) st fun sl st =>
 match sl.k with
 | .ept _ (some (s, c)) ix =>
  runFM (takeAp s c ix x) st fun cs st =>
   if n ≠ 0 ∧ cs.length = n ∧ owned cs then
    match rowAt (lose st) s c with
    | some (es, _) => match setFlat es ix (vals cs) with
     | some es' => some (setRow (lose st) s c (.row () es'))
     | none => none
    | none => none
   else none
 | _ => none
structure Ret where
 res : List SU
 outs : List V
 obox : Option (List V)
 deriving Inhabited
def mapO {α β : Type} (f : α → Option β) : List α → Option (List β)
 | [] => some []
 | x :: xs => match f x, mapO f xs with
  | some y, some ys => some (y :: ys)
  | _, _ => none
def argCell (a c : Nat) (x : Cell Unit) : Option (Cell Unit) :=
 match x.f with
 | .dd | .ap _ _ _ => none
 | .sc | .nl => some x
 | _ => some (match x.v with
  | .row _ _ => ⟨x.v, .sp a c⟩
  | _ => ⟨x.v, if scal x.v then .sc else .sh⟩)
def argCells (a : Nat) : Nat → List (Cell Unit) → Option (List (Cell Unit))
 | _, [] => some []
 | c, x :: xs => match argCell a c x, argCells a (c + 1) xs with
  | some y, some ys => some (y :: ys)
  | _, _ => none
def boxVals (b : SU) : Option (List V) :=
 match b.k with
 | .box _ => if b.cs.all (fun c => match c.f with | .dd | .ap _ _ _ => false | _ => true) then some (vals b.cs) else none
 | _ => none
def capsOf : List Nat → FM (List V)
 | [] => .ret []
 | r :: rs => (getS r).bind fun b => (opt (boxVals b)).bind fun vs => (capsOf rs).bind fun ps => .ret (VA.ptr () vs :: ps)
def argV (a : Nat) (sl : SU) : FM SU :=
 match sl.k with
 | .val => (opt (argCells a 0 sl.cs)).bind fun cs => .ret ⟨.val, cs⟩
 | .agg => (opt (argCells a 0 sl.cs)).bind fun cs => .ret ⟨.agg, cs⟩
 | .clo g roots => (capsOf roots).bind fun ps => .ret ⟨.val, [⟨.fn g ps, .sh⟩]⟩
 | _ => .fail
def argVs : Nat → List Opd → FM (List SU)
 | _, [] => .ret []
 | a, x :: xs => (opd x).bind fun s => (argV a s).bind fun y => (argVs (a + 1) xs).bind fun ss => .ret (y :: ss)
def capSlots (caps : List V) : List SU := caps.map fun p => ⟨.val, [⟨p, .sh⟩]⟩
def retSl : List SU → SU
 | [s] => s
 | ss => ⟨.tup (ss.map fun s => (match s.k with | .agg => true | _ => false, s.cs.length)), ss.flatMap (·.cs)⟩
abbrev Orac := Nat → List SU → Option Ret
abbrev Modes := Nat → List Pm
def isMut (m : List Pm) : Bool := m.any (· ≠ .val)
def plainCell (c : Cell Unit) : Bool := match c.f with
 | .sc | .nl | .sp _ _ | .sh | .no | .fr => true
 | _ => false
def plainBox (bs : List (Cell Unit)) : Bool := bs.all plainCell
def rootOf (x : Opd) : FM Nat :=
 (opd x).bind fun sl =>
 match sl.k with
 | .ptr r 0 => .ret r
 | _ => .fail
def boxArg (b : SU) : Option SU := (argCells 0 0 b.cs).map fun cs => ⟨.box (), cs⟩
def reBox : List V → List (Cell Unit) → Option (List (Cell Unit))
 | [], [] => some []
 | v :: vs, c :: cs => match reBox vs cs with
  | some r => some ((if scal c.v then ⟨v, .sc⟩ else c) :: r)
  | none => none
 | _, _ => none
def opds : List Opd → FM (List SU)
 | [] => .ret []
 | x :: xs => (opd x).bind fun s => (opds xs).bind fun ss => .ret (s :: ss)
def noCaps (s : SU) : Bool := s.cs.all fun c => match c.v with | .fn _ (_ :: _) => false | _ => true
def noNo (s : SU) : Bool := s.cs.all fun c => c.f ≠ .no
def callBox (orac : Orac) (g : Nat) (xs : List Opd) (r : Nat) (b : SU) : FM SU :=
 match b.k with
 | .box t => if plainBox b.cs then
   (opt (boxArg b)).bind fun b' =>
   (argVs 1 xs).bind fun as =>
    if !as.all noCaps then .fail else
    match orac g (b' :: as) with
    | some ⟨rs, [], some cs⟩ => (opt (reBox cs b.cs)).bind fun cs' => (setS r ⟨.box t, cs'⟩).bind fun _ => .ret (retSl rs)
    | _ => .fail
  else .fail
 | _ => .fail
def callVals (orac : Orac) (g : Nat) (args : List Opd) (caps : List V) : FM SU :=
 (argVs 0 args).bind fun as =>
  match orac g (as ++ capSlots caps) with
  | some ⟨rs, [], none⟩ => if (as.all noCaps && caps.isEmpty) || rs.all noNo then .ret (retSl rs) else .fail
  | _ => .fail
def evalCall (orac : Orac) (modes : Modes) (nt : Nat) : Ir → FM SU
 | .call g args =>
  match modes g with
  | .mbox :: ms => match args with
   | x :: xs => if isMut ms then .fail else (rootOf x).bind fun r => (getS r).bind fun b => callBox orac g xs r b
   | [] => .fail
  | ms => if isMut ms then .fail else callVals orac g args []
 | .callv f args => (opd f).bind fun sl =>
  match sl.k, sl.cs with
  | .val, [⟨.fn g caps, .sh⟩] => if isMut (modes g) then .fail else callVals orac g args caps
  | .clo g roots, _ => if isMut (modes g) then .fail else (capsOf roots).bind fun caps => callVals orac g args caps
  | _, _ => .fail
 | op => evalIr nt op
def homeOf (s c : Nat) (x : Cell Unit) : Option (Nat × Nat × Option Nat) :=
 match x.f with
 | .ow false | .nw false | .mp _ => some (s, c, none)
 | .cp _ s' c' ix => some (s', c', ix)
 | _ => none
def homes (s : Nat) : Nat → List (Cell Unit) → Option (List (Nat × Nat × Option Nat))
 | _, [] => some []
 | c, x :: xs => match x.f with
  | .sc | .nl => homes s (c + 1) xs
  | _ => match homeOf s c x, homes s (c + 1) xs with
   | some h, some hs => some (h :: hs)
   | _, _ => none
def mpCells : Nat → List (Cell Unit) → List (Cell Unit)
 | _, [] => []
 | i, x :: xs => match x.f with
  | .sc | .nl => x :: mpCells i xs
  | _ => ⟨x.v, .mp i⟩ :: mpCells (i + 1) xs
def putOuts : List (Nat × Nat × Option Nat) → List V → St → Option St
 | [], [], st => some st
 | (s, c, ix) :: hs, v :: vs, st =>
  match rowAt st s c with
  | none => none
  | some (es, _) => match ix with
   | none => putOuts hs vs (setRow st s c v)
   | some ix => match setFlat es ix [v] with
    | some es' => putOuts hs vs (setRow st s c (.row () es'))
    | none => none
 | _, _, _ => none
def homeIs (p : Fl → Bool) (st : St) (h : Nat × Nat × Option Nat) : Bool :=
 match rowAt st h.1 h.2.1 with
 | some (_, f) => p f
 | none => false
def isOw : Fl → Bool
 | .ow _ => true
 | _ => false
def isMp : Fl → Bool
 | .mp _ => true
 | _ => false
def homeOk (st : St) (hs : List (Nat × Nat × Option Nat)) : Bool := hs.all (homeIs isOw st) || hs.all (homeIs isMp st)
def apartHomes : List (Nat × Nat × Option Nat) → Bool
 | [] => true
 | (s, c, ix) :: hs => (hs.all fun h => h.1 ≠ s || h.2.1 ≠ c || (match ix, h.2.2 with | some i, some j => i ≠ j | _, _ => false)) && apartHomes hs
def slotOf : Opd → Nat
 | .t i => i
 | _ => 0
def scalS (s : SU) : Bool := (match s.k with | .val => true | _ => false) && s.cs.all fun c => c.f = .sc
def freeS (old : SU) : Bool := match old.k with
 | .dead | .und => true
 | .val => old.cs.all (fun c => c.f = .sc)
 | _ => false
def valAgg (k : Kd Unit) : Bool := match k with
 | .val | .agg => true
 | _ => false
def callM (orac : Orac) (modes : Modes) (nt : Nat) (d : Option Nat) (g : Nat) (args : List Opd) (st : St) : Option St :=
 match modes g, args with
 | .mrow :: ms, x :: xs =>
  if isMut ms then none else
  runFM (opd x) st fun sl st =>
  if valAgg sl.k then
   match homes (slotOf x) 0 sl.cs with
   | none => none
   | some hs =>
    if apartHomes hs && homeOk st hs then
     runFM (opds xs) st fun as st =>
     if as.all scalS then
      match orac g (⟨sl.k, mpCells 0 sl.cs⟩ :: as) with
      | some ⟨rs, outs, none⟩ =>
       match putOuts hs outs (lose st) with
       | some st => match d with
        | some d => match st[d]? with
         | some old => if freeS old ∧ d < nt ∧ rs.all scalS then some (st.set d (retSl rs)) else none
         | none => none
        | none => some st
       | none => none
      | _ => none
     else none
    else none
  else none
 | _, _ => none
def putS (nt d : Nat) (s : SU) : FM Unit :=
 (getS d).bind fun old =>
 if freeS old ∧ d < nt then
  match s.k with
  | .box _ => (getS (d + nt)).bind fun there =>
   match there.k with
   | .dead => (setS (d + nt) s).bind fun _ => setS d ⟨.ptr (d + nt) 0, []⟩
   | _ => .fail
  | _ => setS d s
 else .fail
def evalIo (orac : Orac) (modes : Modes) (nt : Nat) (o : Io) : FM Unit :=
 match o.op, o.dst with
 | .assign x, some d => evalAssign nt d x
 | .store n a x, none => evalStore n a x
 | op, some d => (evalCall orac modes nt op).bind fun s => putS nt d s
 | op, none => (evalCall orac modes nt op).bind fun _ => .ret ()
def effect (modes : Modes) : Ir → Bool
 | .clear | .rstore .. => true
 | .call g _ => (modes g).head? == some .mrow
 | _ => false
def stepEff (orac : Orac) (modes : Modes) (nt : Nat) (o : Io) (st : St) : Option St :=
 match o.op, o.dst with
 | .clear, some d => match st[d]? with
  | some old => if freeS old ∧ d < nt then some (st.set d dead) else none
  | none => none
 | .rstore n a x, none => storeS n a x st
 | .call g args, d => callM orac modes nt d g args st
 | _, _ => none
def skipF (nt : Nat) (o : Io) : FM Unit :=
 match o.dst with
 | some d => (getS d).bind fun old => if freeS old ∧ d < nt then setS d ⟨.und, []⟩ else .fail
 | none => .ret ()
def wantF (o : Io) : FM Bool :=
 match o.guard with
 | none => .ret true
 | some (j, b) => (getS j).bind fun s => match s.k, s.cs with
  | .val, [c] => match c.v with
   | .bool x => .ret (x == b)
   | _ => .fail
  | .und, _ => .ret false
  | _, _ => .fail
def ioF (orac : Orac) (modes : Modes) (nt : Nat) (o : Io) : FM Unit :=
 (wantF o).bind fun b => if b then evalIo orac modes nt o else skipF nt o
def effF (orac : Orac) (modes : Modes) (nt : Nat) (o : Io) (st : St) : Option St :=
 runFM (wantF o) st fun b st => if b then stepEff orac modes nt o st else runFM (skipF nt o) st fun _ st => some st
def stepIo (orac : Orac) (modes : Modes) (nt : Nat) (o : Io) (st : St) : Option St :=
 if effect modes o.op then effF orac modes nt o st
 else runFM (ioF orac modes nt o) st fun _ st => some st
def stepIos (orac : Orac) (modes : Modes) (nt : Nat) : List Io → St → Option St
 | [], st => some st
 | o :: os, st => match stepIo orac modes nt o st with
  | some st => stepIos orac modes nt os st
  | none => none
abbrev Lg := Option (List Nat × List Nat)
def logIo (orac : Orac) (modes : Modes) (nt : Nat) (o : Io) (st : St) : Lg :=
 if effect modes o.op then none else some ((ioF orac modes nt o).log st)
def logs (orac : Orac) (modes : Modes) (nt : Nat) : List Io → St → List Lg
 | [], _ => []
 | o :: os, st => match stepIo orac modes nt o st with
  | some st' => logIo orac modes nt o st :: logs orac modes nt os st'
  | none => []
def disj (a b : List Nat) : Bool := a.all fun x => !b.contains x
def swaps : Lg → Lg → Bool
 | some m, some l => disj m.2 l.1 && disj l.2 m.1
 | _, _ => false
def drawOk : List Io → List Lg → List Lg → Bool
 | o :: os, l :: ls, before =>
  (before.zipIdx.all fun (m, i) => o.anc.contains i || swaps m l) && drawOk os ls (before ++ [l])
 | _, _, _ => true
def region (orac : Orac) (modes : Modes) (nt : Nat) (kill0 kill1 : List Nat) (ops : List Io) (st : St) : Option St :=
 match stepIos orac modes nt ops (killAll nt kill0 st) with
 | some st => some (killAll nt kill1 st)
 | none => none
inductive Ex where
 | normal | exit (id : Nat) | ret
 deriving DecidableEq, Inhabited
def loopN (body : St → Option (Ex × St)) : Nat → St → Option (Ex × St)
 | 0, _ => none
 | n + 1, st => match body st with
  | some (.normal, st) => loopN body n st
  | r => r
def condS (x : Opd) (st : St) : Option (Bool × St) :=
 match x with
 | .t i => match st[i]? with
  | some s => match s.k, s.cs with
   | .val, [c] => match c.v with
    | .bool b => some (b, st.set i dead)
    | _ => none
   | _, _ => none
  | none => none
 | .c false [.bool b] => some (b, st)
 | _ => none
def code (orac : Orac) (modes : Modes) (nt n : Nat) : Cd → St → Option (Ex × St)
 | .skip, st => some (.normal, st)
 | .region draw k0 k1 ops, st =>
  if draw && !drawOk ops (logs orac modes nt ops (killAll nt k0 st)) [] then none
  else match region orac modes nt k0 k1 ops st with
   | some st => some (.normal, st)
   | none => none
 | .seq a b, st => match code orac modes nt n a st with
  | some (.normal, st) => code orac modes nt n b st
  | r => r
 | .cond x a b, st => match condS x st with
  | some (true, st) => code orac modes nt n a st
  | some (false, st) => code orac modes nt n b st
  | none => none
 | .block id c, st => match code orac modes nt n c st with
  | some (.exit id', st) => if id' = id then some (.normal, st) else some (.exit id', st)
  | r => r
 | .loop c, st => loopN (code orac modes nt n c) n st
 | .exit id, st => some (.exit id, st)
 | .ret, st => some (.ret, st)
 | .bad, _ => none
def resCell (st : St) (s c : Nat) (x : Cell Unit) : Option (Cell Unit × List (Nat × Nat) × Bool) :=
 match x.f with
 | .sc | .nl => some (x, [], false)
 | .ow g | .nw g => some (⟨x.v, .ow g⟩, [(s, c)], false)
 | .os _ => some (⟨x.v, .os false⟩, [(s, c)], false)
 | .cp .chg _ _ _ => some (⟨x.v, .no⟩, [], false)
 | .cp m s' c' none => match (st[s']?).bind fun sl => flAt sl c' with
  | some (.ow g) => some (⟨x.v, .ow g⟩, [(s', c')], false)
  | some (.os false) => some (⟨x.v, .os false⟩, [(s', c')], false)
  | _ => match m with
   | .own => some (⟨x.v, .ow false⟩, [], true)
   | _ => some (⟨x.v, .no⟩, [], false)
 | .cp .own _ _ (some _) | .fr => some (⟨x.v, .ow false⟩, [], true)
 | .cp _ _ _ _ | .sp _ _ | .sh | .no => if isRow x.v then some (⟨x.v, .no⟩, [], false) else none
 | _ => none
def resCells (st : St) (s : Nat) : Nat → List (Cell Unit) → Option (List (Cell Unit × List (Nat × Nat) × Bool))
 | _, [] => some []
 | c, x :: xs => match resCell st s c x, resCells st s (c + 1) xs with
  | some y, some ys => some (y :: ys)
  | _, _ => none
def finSl (st : St) (k : Kd Unit) (s : Nat) (cs : List (Cell Unit)) : Option (SU × List (Nat × Nat) × Nat) :=
 match resCells st s 0 cs with
 | some ys => some (⟨k, ys.map (·.1)⟩, ys.flatMap (·.2.1), (ys.filter (·.2.2)).length)
 | none => none
def resVar (st : St) (r : Nat × Option (Bool × Nat)) : Option (SU × List (Nat × Nat) × Nat) :=
 match st[r.1]? with
 | none => none
 | some sl =>
  match r.2, sl.k with
  | none, .val => finSl st .val r.1 sl.cs
  | none, .agg => finSl st .agg r.1 sl.cs
  | none, .ptr b 0 => match st[b]? with
   | some bx => match bx.k with
    | .box _ => if plainBox bx.cs && bx.cs.all (fun c => isRow c.v || scal c.v) then some (⟨.box (), bx.cs.map fun c => ⟨c.v, if isRow c.v then (if c.f = .nl then .nl else .no) else .sc⟩⟩, [], 0) else none
    | _ => none
   | none => none
  | some (agg, n), .ptr b 0 => match st[b]? with
   | some bx => match bx.k with
    | .box _ => if n = bx.cs.length ∧ n ≠ 0 then finSl st (if agg then .agg else .val) b bx.cs else none
    | _ => none
   | none => none
  | _, _ => none
def findMp (st : St) (i : Nat) : Option V :=
 (st.flatMap (·.cs)).findSome? fun c => if c.f = .mp i then some c.v else none
def outsOf (st : St) (n : Nat) : Option (List V) := mapO (findMp st) (List.range n)
def mrowCount (modes : List Pm) (args : List SU) : Nat :=
 match modes, args with
 | .mrow :: _, a :: _ => (a.cs.filter fun c => match c.f with | .mp _ => true | _ => false).length
 | _, _ => 0
def leftBox : List (Cell Unit) → List (Cell Unit) → Nat → Option (List V)
 | [], [], _ => some []
 | x :: xs, y :: ys, c => match leftBox xs ys (c + 1) with
  | none => none
  | some r => match x.f, y.f with
   | .sc, .sc => some (x.v :: r)
   | .sp 0 c', .sp 0 d => if c' = c ∧ d = c then some (x.v :: r) else none
   | .nl, .nl => some (x.v :: r)
   | _, _ => none
 | _, _, _ => none
def nodup : List (Nat × Nat) → Bool
 | [] => true
 | x :: xs => !xs.contains x && nodup xs
def noBox (s : SU) : Bool := match s.k with | .box _ => false | _ => true
def plainArg (s : SU) : Bool := noBox s && s.cs.all fun c => !isMp c.f
def finish (fn : FnIr) (args : List SU) (st : St) : Option Ret :=
 match mapO (resVar st) fn.res with
 | none => none
 | some rs =>
  let own := rs.flatMap (·.2.1)
  let loose := (rs.map (·.2.2)).sum
  if nodup own && (loose = 0 || (loose = 1 && own.isEmpty && rs.all fun r => noNo r.1)) && ((rs.all fun r => noBox r.1) || (rs.length == 1 && args.all plainArg)) then
   match outsOf st (mrowCount fn.modes args) with
   | none => none
   | some outs =>
    if !outs.isEmpty && loose ≠ 0 then none else
    match fn.modes with
    | .mbox :: _ => match st[lockS fn.ntmps + 1]? with
     | some bx => match bx.k with
      | .box _ => match leftBox bx.cs ((args.headD dead).cs) 0 with
       | some cs => if rs.all fun r => noBox r.1 then some ⟨rs.map (·.1), outs, some cs⟩ else none
       | none => none
      | _ => none
     | none => none
    | _ => some ⟨rs.map (·.1), outs, none⟩
  else none
def start (fn : FnIr) (args : List SU) : St :=
 match args with
 | ⟨.box t, cs⟩ :: r => (⟨.ptr (lockS fn.ntmps + 1) 0, []⟩ :: (r ++ List.replicate (fn.ntmps - fn.np) dead)) ++ (List.replicate (fn.ntmps + 1) dead ++ [⟨.box t, cs⟩])
 | _ => (args ++ List.replicate (fn.ntmps - fn.np) dead) ++ (List.replicate (fn.ntmps + 1) dead ++ [dead])
def intsOf : List (List V) → Option (List Int)
 | [] => some []
 | [.int .i64 n] :: es => (intsOf es).map fun l => n :: l
 | _ :: _ => none
def sortI (l : List Int) : List Int := l.mergeSort fun x y => decide (x ≤ y)
def inF0 : Fl → Bool
 | .sp _ _ | .nl | .sh => true
 | _ => false
def special (sp : Nat) (args : List SU) : Option Ret :=
 match sp, args with
 | 1, [⟨.val, [⟨.row _ es, f⟩]⟩] => if es.all (fun e => e.all scal && e.length = 1) && es.length ≤ lim && inF0 f then some ⟨[⟨.val, [⟨.row () es, .ow false⟩]⟩], [], none⟩ else none
 | 2, [⟨.val, [⟨.row _ [], .nl⟩]⟩, ⟨.val, [⟨.int .i64 n, _⟩]⟩] => if 0 < n ∧ n ≤ lim then some ⟨[⟨.val, [⟨.row () [], .ow true⟩]⟩], [], none⟩ else none
 | 3, [⟨.val, [⟨.row _ es, .mp 0⟩]⟩] => match intsOf es with
  | some zs => if zs.length ≤ lim then some ⟨[], [.row () ((sortI zs).map fun n => [.int .i64 n])], none⟩ else none
  | none => none
 | _, _ => none
def shutCell {α : Type} (x : Cell α) : Cell α := match x.f with
 | .nl | .sp _ _ => ⟨x.v, .sh⟩
 | _ => x
def shutS {α : Type} (s : Sl α) : Sl α := match s.k with
 | .val | .agg => ⟨s.k, s.cs.map shutCell⟩
 | _ => s
def shutArgs {α : Type} (ms : List Pm) (args : List (Sl α)) : List (Sl α) := if ms.head? = some .mrow then args else args.map shutS
def evalFn (T : Nat → Option FnIr) (modes : Modes) : Nat → Orac
 | 0, _, _ => none
 | n + 1, f, args =>
  match T f with
  | none => none
  | some fn =>
   if fn.sp = 0 then
    if args.length = fn.np ∧ fn.np ≤ fn.ntmps then
     match code (evalFn T modes n) modes fn.ntmps n fn.body (start fn (shutArgs fn.modes args)) with
     | some (.normal, st) => finish fn (shutArgs fn.modes args) st
     | some (.ret, st) => finish fn (shutArgs fn.modes args) st
     | _ => none
    else none
   else special fn.sp args
end Go.Vm
end
section
namespace Go.Vm
def isAggT (P : Program) (t : TypeId) : Bool :=
 match P.underlying t with
 | some (.struct _) | some (.array _ _) => true
 | _ => false
def aggOf (P : Program) (t : TypeId) : Option (Bool × Nat) :=
 match P.underlying t with
 | some (.struct _) | some (.array _ _) => some (true, P.cellsOf t)
 | some _ => some (false, 1)
 | none => none
def constV : Value → Option V
 | .int k n => some (.int k n)
 | .bool b => some (.bool b)
 | .string s => some (.str s)
 | .slice none 0 0 => some (.row () [])
 | _ => none
def zeroV (P : Program) (t : TypeId) : Option (List V) :=
 match P.info? t with
 | some i => match i.zero with
  | some z => if z.cells.size = i.size then mapO constV z.cells.toList else none
  | none => none
 | none => none
structure Cx where
 P : Program
 canon : Nat → Option Nat
 nt : Nat
def cOpd (cx : Cx) : Operand → Option Opd
 | .tmp t => if t < cx.nt then some (.t t) else none
 | .const (.agg cs) => (mapO constV cs.toList).map (.c true)
 | .const v => (constV v).map fun v => .c false [v]
 | .func f => (cx.canon f).map .f
 | .global _ => none
def fieldOf (P : Program) (t : TypeId) (i : Nat) : Option Field :=
 match P.underlying t with
 | some (.struct fs) => fs[i]?
 | _ => none
def elemZ (P : Program) (t : TypeId) : Option (List V) :=
 match P.underlying t with
 | some (.slice e) => match P.info? e with
  | some i => if i.bytes ≤ 128 then zeroV P e else none
  | none => none
 | _ => none
def places (P : Program) (t : TypeId) : Option (List (Nat × Nat)) :=
 match P.underlying t with
 | some (.struct fs) => fs.toList.mapM fun f => (P.info? f.type).map fun i => (f.offset, i.size)
 | _ => none
def cParts (cx : Cx) (pl : List (Nat × Nat)) : List (Nat × Operand) → Option (List (Nat × Nat × Opd))
 | [] => some []
 | (i, x) :: ps => match pl[i]?, cOpd cx x, cParts cx pl ps with
  | some (off, n), some x, some ps => some ((off, n, x) :: ps)
  | _, _, _ => none
def cSParts (cx : Cx) : List (Nat × Operand) → Option (List (Nat × Opd))
 | [] => some []
 | (i, x) :: ps => match cOpd cx x, cSParts cx ps with
  | some x, some ps => some ((i, x) :: ps)
  | _, _ => none
def cOpt (cx : Cx) : Option Operand → Option (Option Opd)
 | none => some none
 | some x => (cOpd cx x).map some
def tmpsOf (cx : Cx) : List Operand → Option (List Nat)
 | [] => some []
 | .tmp t :: r => if t < cx.nt then (tmpsOf cx r).map (t :: ·) else none
 | _ => none
def cCall (cx : Cx) (k : Call) : Option Ir :=
 match k.callee, mapO (cOpd cx) k.args.toList with
 | .value (.func f), some as => (cx.canon f).map fun g => .call g as
 | .value f, some as => (cOpd cx f).map fun f => .callv f as
 | .builtin .len, some [x] => match k.argTypes.toList with
  | [t] => match cx.P.underlying t with
   | some (.slice _) => some (.len false x)
   | some .string => some (.len true x)
   | _ => none
  | _ => none
 | .builtin .min, some [x, y] => some (.min x y)
 | .builtin .max, some [x, y] => some (.max x y)
 | .builtin .append, some [x, y] => match k.argTypes.toList with
  | [t, u] => match elemZ cx.P t, cx.P.underlying u with
   | some z, some (.slice _) => some (.append z.length x y)
   | _, _ => none
  | _ => none
 | _, _ => none
def cOp (cx : Cx) (inRow : Nat → Bool) (o : Oper) : Option Ir :=
 match o.op with
 | .move x => (cOpd cx x).map .move
 | .assign x => match x with
  | .const (.pointer none) | .const .nilFunc => some .clear
  | x => (cOpd cx x).map .assign
 | .pick a b d => match cOpd cx a, cOpd cx b, cOpd cx d with | some a, some b, some d => some (.pick a b d) | _, _, _ => none
 | .alloc e => (zeroV cx.P e).map .alloc
 | .box _ x => (cOpd cx x).map .box
 | .build t parts => match places cx.P t, zeroV cx.P t with
  | some pl, some z => (cParts cx pl parts.toList).map (.build z)
  | _, _ => none
 | .buildSlice t len parts => match elemZ cx.P t, cSParts cx parts.toList with
  | some z, some ps => if len ≤ 4096 ∧ len * z.length ≤ 16777216 then some (.bslice z len ps) else none
  | _, _ => none
 | .load t a => match aggOf cx.P t, cOpd cx a with
  | some (g, n), some a => some (.load g n a)
  | _, _ => none
 | .store t a x => match cOpd cx a, cOpd cx x, cx.P.info? t with
  | some a, some x, some i => some (if (match a with | .t i => inRow i | _ => false) then .rstore i.size a x else .store i.size a x)
  | _, _, _ => none
 | .nilCheck x => (cOpd cx x).map .nilchk
 | .binOp op t x y _ => match cOpd cx x, cOpd cx y, cx.P.underlying t with
  | some x, some y, some (.int _) => some (.bin op x y)
  | some x, some y, some .bool => match op with
   | .eql => some (.beq false x y)
   | .neq => some (.beq true x y)
   | _ => none
  | _, _, _ => none
 | .unOp op _ x => (cOpd cx x).map (.un op)
 | .convert s d x => match cx.P.underlying s, cx.P.underlying d with | some (.int _), some (.int k) => (cOpd cx x).map (.conv k) | _, _ => none
 | .makeFunc (.func f) first caps => if first.isEmpty then (match cx.canon f, tmpsOf cx caps.toList with | some g, some ts => some (.mkfn g ts) | _, _ => none) else none
 | .makeSlice t l k => match elemZ cx.P t, cOpd cx l, cOpd cx k with
  | some z, some l, some k => some (.mkslice z l k)
  | _, _, _ => none
 | .slice t x lo hi none => match elemZ cx.P t, cOpd cx x, cOpt cx lo, cOpt cx hi with
  | some z, some x, some lo, some hi => some (.slice z.length x lo hi)
  | _, _, _, _ => none
 | .fieldAddr t x f => match fieldOf cx.P t f, cOpd cx x with | some f, some x => if cx.P.cellsOf f.type = 0 then none else some (.faddr f.offset x) | _, _ => none
 | .field t x f => match fieldOf cx.P t f, cOpd cx x with
  | some f, some x => match aggOf cx.P f.type with | some (g, n) => some (.field g f.offset n x) | none => none
  | _, _ => none
 | .indexAddr t x i => match elemZ cx.P t, cOpd cx x, cOpd cx i with | some z, some x, some i => some (.iaddr z.length x i) | _, _, _ => none
 | .index t x i => match cx.P.underlying t, cOpd cx x, cOpd cx i with | some .string, some x, some i => some (.index x i) | _, _, _ => none
 | .extract x i => (cOpd cx x).map (.extract i)
 | .call k => cCall cx k
 | _ => none
def opTmps (o : Oper) : List Nat := o.op.operands.toList.filterMap fun | .tmp t => some t | _ => none
def regionUses (ops : List Oper) : List Nat := ops.flatMap opTmps
def regionDsts (ops : List Oper) : List Nat := ops.filterMap fun o => match o.op with | .assign _ => none | _ => o.dst
def firstDst : List Nat → List Oper → List Nat
 | _, [] => []
 | seen, o :: os =>
  let seen := opTmps o ++ seen
  match o.op, o.dst with
  | .assign _, _ => firstDst seen os
  | _, some d => if seen.contains d then firstDst seen os else d :: firstDst seen os
  | _, none => firstDst seen os
def codeUses : Code → List Nat
 | .region _ ops _ => ops.toList.flatMap fun o => opTmps o ++ o.dst.toList
 | .seq a b => codeUses a ++ codeUses b
 | .cond (.tmp t) a b => t :: (codeUses a ++ codeUses b)
 | .cond _ a b => codeUses a ++ codeUses b
 | .block _ c => codeUses c
 | .loop c => codeUses c
 | _ => []
def count' (t : Nat) (l : List Nat) : Nat := (l.filter (· == t)).length
def scratch (all : List Nat) (ops : List Oper) : List Nat :=
 let here := ops.flatMap fun o => opTmps o ++ o.dst.toList
 (regionDsts ops).filter fun d => count' d here == count' d all
def ancOf (ops : List Oper) : List (List Nat) :=
 ops.foldl (init := []) fun acc o =>
  acc ++ [(o.after.toList.flatMap fun e => match e.ground with
   | .textOnly _ | .gcOnly _ => []
   | _ => e.on :: acc.getD e.on []).eraseDups]
def rowPtrs : List Oper → List Nat → List Nat
 | [], acc => acc
 | o :: os, acc => match o.op, o.dst with
  | .indexAddr .., some d => rowPtrs os (d :: acc)
  | .fieldAddr _ (.tmp i) _, some d => rowPtrs os (if acc.contains i then d :: acc else acc)
  | _, _ => rowPtrs os acc
def cIos (cx : Cx) (all : List Oper) (draw : Bool) : List Oper → List (List Nat) → Option (List Io)
 | [], _ => some []
 | o :: os, an =>
  let g : Option (Option (Nat × Bool)) := match o.guard with
   | none => some none
   | some (j, b) => match (all[j]?).bind (·.dst) with | some d => if d < cx.nt then some (some (d, b)) else none | none => none
  match g, cIos cx all draw os an.tail with
  | some g, some r =>
   some (⟨o.dst, (cOp cx (rowPtrs all []).contains o).getD .bad, g, if draw then an.headD [] else []⟩ :: r)
  | _, _ => none
def boxDsts (nt : Nat) : List Oper → List Nat
 | [] => []
 | o :: os => match o.op, o.dst with
  | .alloc _, some d => (d + nt) :: boxDsts nt os
  | .box _ _, some d => (d + nt) :: boxDsts nt os
  | .call { callee := .value _, .. }, some d => (d + nt) :: boxDsts nt os
  | _, _ => boxDsts nt os
def edgesOk : Nat → List Oper → Bool
 | _, [] => true
 | i, o :: os => (o.after.toList.all fun e => (match e.ground with | .textOnly _ | .gcOnly _ => true | _ => e.on < i)) && edgesOk (i + 1) os
def cCode (cx : Cx) (all : List Nat) : Code → Cd
 | .skip => .skip
 | .region _ ops draw =>
  let l := ops.toList
  if draw && !edgesOk 0 l then .bad else
  match cIos cx l draw l (if draw then ancOf l else []) with
  | some ios => .region draw (firstDst [] l ++ boxDsts cx.nt l) (scratch all l) ios
  | none => .bad
 | .seq a b => .seq (cCode cx all a) (cCode cx all b)
 | .cond c a b => match cOpd cx c with
  | some x => .cond x (cCode cx all a) (cCode cx all b)
  | none => .bad
 | .block id c => .block id (cCode cx all c)
 | .loop c => .loop (cCode cx all c)
 | .exit id => .exit id
 | .ret => .ret
 | _ => .bad
def cRes (P : Program) : List ResultVar → List (Nat × Option (Bool × Nat))
 | [] => []
 | .tmp t :: r => (t, none) :: cRes P r
 | .cell a t :: r => (a, some ((aggOf P t).getD (false, 0))) :: cRes P r
def resTmps : List ResultVar → List Nat
 | [] => []
 | .tmp t :: r => t :: resTmps r
 | .cell a _ :: r => a :: resTmps r
def cFn (P : Program) (canon : Nat → Option Nat) (sp : Nat) (modes : List Pm) (fn : Func) : Option FnIr :=
 match fn.body with
 | none => none
 | some c => some ⟨sp, fn.params.size + fn.nfree, fn.ntmps, cRes P fn.results.toList, modes, cCode ⟨P, canon, fn.ntmps⟩ (codeUses c ++ resTmps fn.results.toList) c⟩
end Go.Vm
end
section
namespace Go.Vm
structure Tg where
 a : Option Addr
 cap : Nat
 k : Nat
abbrev A := VA Tg
def capVal : A → Value
 | .ptr t _ => .pointer t.a
 | _ => undef
def VA.val (sid : Nat → Nat) : A → Value
 | .int k n => .int k n
 | .bool b => .bool b
 | .str s => .string s
 | .row t es => .slice t.a es.length t.cap
 | .ptr t _ => .pointer t.a
 | .fn g caps => .func (.func (sid g)) #[] (caps.map capVal).toArray
mutual
def VA.er : A → V
 | .int k n => .int k n
 | .bool b => .bool b
 | .str s => .str s
 | .row _ es => .row () (erR es)
 | .ptr _ cs => .ptr () (erL cs)
 | .fn g caps => .fn g (erL caps)
def erL : List A → List V
 | [] => []
 | c :: cs => c.er :: erL cs
def erR : List (List A) → List (List V)
 | [] => []
 | e :: es => erL e :: erR es
end
theorem erL_map : ∀ cs : List A, erL cs = cs.map VA.er
 | [] => rfl
 | c :: cs => by rw [erL, erL_map cs]; rfl
theorem erR_map : ∀ es : List (List A), erR es = es.map (List.map VA.er)
 | [] => rfl
 | e :: es => by rw [erR, erR_map es, erL_map]; rfl
mutual
def VA.blks : A → List Nat
 | .row t es => (match t.a with | some a => [a.block] | none => []) ++ blkR es
 | _ => []
def blkL : List A → List Nat
 | [] => []
 | c :: cs => c.blks ++ blkL cs
def blkR : List (List A) → List Nat
 | [] => []
 | e :: es => blkL e ++ blkR es
end
theorem blkL_map : ∀ cs : List A, blkL cs = cs.flatMap VA.blks
 | [] => rfl
 | c :: cs => by rw [blkL, blkL_map cs]; rfl
theorem blkR_map : ∀ es : List (List A), blkR es = es.flatten.flatMap VA.blks
 | [] => rfl
 | e :: es => by rw [blkR, blkR_map es, blkL_map]; simp
theorem isRow_er (v : A) : isRow v.er = isRow v := by cases v <;> simp [VA.er, isRow]
theorem scal_er (v : A) : scal v.er = scal v := by cases v <;> simp [VA.er, scal]
theorem blks_scal {v : A} (h : scal v = true) : v.blks = [] := by cases v <;> simp_all [scal, VA.blks]
inductive Rd (sid : Nat → Nat) (w : World) (R : Nat → Nat → Prop) : A → Prop
 | int (k n) : Rd sid w R (.int k n)
 | bool (b) : Rd sid w R (.bool b)
 | str (s) : Rd sid w R (.str s)
 | row (t es) (hk : ∀ e ∈ es, e.length = t.k) (hcap : es.length ≤ t.cap)
   (h : ∀ j c, es.flatten[j]? = some c → ∃ b o, t.a = some ⟨b, o, none⟩ ∧ R b (o + j) ∧ w.cell? ⟨b, o + j, none⟩ = some (c.val sid))
   (hr : ∀ c ∈ es.flatten, Rd sid w R c) : Rd sid w R (.row t es)
 | ptr (t cs) (h : ∀ j c, cs[j]? = some c → ∃ b o, t.a = some ⟨b, o, none⟩ ∧ R b (o + j) ∧ w.cell? ⟨b, o + j, none⟩ = some (c.val sid))
   (hr : ∀ c ∈ cs, Rd sid w R c) : Rd sid w R (.ptr t cs)
 | fn (g caps) (hp : ∀ c ∈ caps, ∃ t cs, c = .ptr t cs) (hr : ∀ c ∈ caps, Rd sid w R c) : Rd sid w R (.fn g caps)
theorem Rd.mono {sid : Nat → Nat} {w w' : World} {R R' : Nat → Nat → Prop} {v : A} (h : Rd sid w R v) (hR : ∀ b j, R b j → R' b j)
  (hw : ∀ b j, R b j → w'.cell? ⟨b, j, none⟩ = w.cell? ⟨b, j, none⟩) : Rd sid w' R' v := by
 induction h with
 | int k n => exact .int k n
 | bool b => exact .bool b
 | str s => exact .str s
 | row t es hk hcap h hr ih =>
  refine .row t es hk hcap (fun j c hc => ?_) ih
  obtain ⟨b, o, h1, h2, h3⟩ := h j c hc
  exact ⟨b, o, h1, hR _ _ h2, (hw _ _ h2).trans h3⟩
 | ptr t cs h hr ih =>
  refine .ptr t cs (fun j c hc => ?_) ih
  obtain ⟨b, o, h1, h2, h3⟩ := h j c hc
  exact ⟨b, o, h1, hR _ _ h2, (hw _ _ h2).trans h3⟩
 | fn g caps hp hr ih => exact .fn g caps hp ih
theorem Rd.of_scal {sid : Nat → Nat} {w : World} {R : Nat → Nat → Prop} {v : A} (h : scal v = true) : Rd sid w R v := by
 cases v with
 | int k n => exact .int k n
 | bool b => exact .bool b
 | str s => exact .str s
 | row t es => simp [scal] at h
 | ptr t cs => simp [scal] at h
 | fn g caps => simp [scal] at h
inductive Shp (sid : Nat → Nat) (w : World) (C : Nat → Nat → Prop) : A → Prop
 | int (k n) : Shp sid w C (.int k n)
 | bool (b) : Shp sid w C (.bool b)
 | str (s) : Shp sid w C (.str s)
 | nil (k) : Shp sid w C (.row ⟨none, 0, k⟩ [])
 | row (b cap k es cur e) (hb : w.heap[b]? = some (.cells cur e (0, 0))) (hcap : es.length ≤ cap) (hmax : cap ≤ maxLen) (hsize : cur.size = cap * k)
   (hk : ∀ e ∈ es, e.length = k) (hk0 : 0 < k) (hne : es = [] → cap = 0)
   (htake : cur.toList.take (es.length * k) = es.flatten.map (VA.val sid)) (hC : ∀ j, es.length * k ≤ j → ¬ C b j)
   (hr : ∀ c ∈ es.flatten, Shp sid w C c) : Shp sid w C (.row ⟨some ⟨b, 0, none⟩, cap, k⟩ es)
def ShpG (w : World) (C : Nat → Nat → Prop) (v : A) : Prop :=
 ∃ b cap cur e, v = .row ⟨some ⟨b, 0, none⟩, cap, 1⟩ [] ∧ w.heap[b]? = some (.cells cur e (0, 0)) ∧ cap ≤ maxLen ∧ cur.size = cap ∧ ∀ j, ¬ C b j
def Shp' (sid : Nat → Nat) (w : World) (C : Nat → Nat → Prop) (g : Bool) (v : A) : Prop :=
 if g then ShpG w C v else Shp sid w C v
inductive Pur : A → Prop
 | scal (v) (h : scal v = true) : Pur v
 | row (t es) (h : ∀ c ∈ es.flatten, Pur c) : Pur (.row t es)
theorem Shp.pur {sid : Nat → Nat} {w : World} {C : Nat → Nat → Prop} {v : A} (h : Shp sid w C v) : Pur v := by
 induction h with
 | int k n => exact .scal _ rfl
 | bool b => exact .scal _ rfl
 | str s => exact .scal _ rfl
 | nil k => exact .row _ _ (by simp)
 | row b cap k es cur e hb hcap hmax hsize hk hk0 hne htake hC hr ih => exact .row _ _ ih
theorem Pur.sub {t : Tg} {es : List (List A)} (h : Pur (.row t es)) {c : A} (hc : c ∈ es.flatten) : Pur c := by
 cases h with
 | scal _ h => simp [Vm.scal] at h
 | row _ _ h => exact h c hc
theorem Rd.own {sid : Nat → Nat} {w : World} {R : Nat → Nat → Prop} {v : A} (h : Rd sid w R v) (hp : Pur v) : Rd sid w (fun b j => R b j ∧ b ∈ v.blks) v := by
 induction h with
 | int k n => exact .int k n
 | bool b => exact .bool b
 | str s => exact .str s
 | row t es hk hcap h hr ih =>
  refine .row t es hk hcap (fun j c hc => ?_) (fun c hc => (ih c hc (hp.sub hc)).mono (fun b j hj => ⟨hj.1, ?_⟩) (fun _ _ _ => rfl))
  ·obtain ⟨b, o, h1, h2, h3⟩ := h j c hc
   exact ⟨b, o, h1, ⟨h2, by simp [VA.blks, h1]⟩, h3⟩
  ·simp only [VA.blks, blkR_map, List.mem_append]
   exact .inr (List.mem_flatMap.2 ⟨c, hc, hj.2⟩)
 | ptr t cs h hr ih => cases hp with | scal _ h => simp [Vm.scal] at h
 | fn g caps hp' hr ih => cases hp with | scal _ h => simp [Vm.scal] at h
theorem flatten_length {α : Type} {es : List (List α)} {k : Nat} (h : ∀ e ∈ es, e.length = k) : es.flatten.length = es.length * k := by
 induction es with
 | nil => simp
 | cons e es ih =>
  have h1 := h e (by simp)
  have h2 := ih (fun x hx => h x (by simp [hx]))
  simp only [List.flatten_cons, List.length_append, List.length_cons, h1, h2, Nat.succ_mul]; omega
theorem Shp.mono {sid : Nat → Nat} {w w' : World} {C C' : Nat → Nat → Prop} {v : A} (h : Shp sid w C v) (hC : ∀ b ∈ v.blks, ∀ j, C' b j → C b j)
  (hw : ∀ b ∈ v.blks, w'.heap[b]? = w.heap[b]?) : Shp sid w' C' v := by
 induction h with
 | int k n => exact .int k n
 | bool b => exact .bool b
 | str s => exact .str s
 | nil k => exact .nil k
 | row b cap k es cur e hb hcap hmax hsize hk hk0 hne htake hfree hr ih =>
  have hbm : b ∈ (VA.row ⟨some ⟨b, 0, none⟩, cap, k⟩ es : A).blks := by simp [VA.blks]
  have hin : ∀ c ∈ es.flatten, ∀ x ∈ c.blks, x ∈ (VA.row ⟨some ⟨b, 0, none⟩, cap, k⟩ es : A).blks := by
   intro c hc x hx
   simp only [VA.blks, blkR_map]
   exact List.mem_append.2 (.inr (List.mem_flatMap.2 ⟨c, hc, hx⟩))
  refine .row b cap k es cur e ((hw b hbm).trans hb) hcap hmax hsize hk hk0 hne htake (fun j hj hc => hfree j hj (hC b hbm j hc)) (fun c hc => ?_)
  exact ih c hc (fun x hx => hC x (hin c hc x hx)) (fun x hx => hw x (hin c hc x hx))
theorem Shp.of_scal {sid : Nat → Nat} {w : World} {C : Nat → Nat → Prop} {v : A} (h : scal v = true) : Shp sid w C v := by
 cases v with
 | int k n => exact .int k n
 | bool b => exact .bool b
 | str s => exact .str s
 | row t es => simp [scal] at h
 | ptr t cs => simp [scal] at h
 | fn g caps => simp [scal] at h
inductive InC : A → Nat → Nat → Prop
 | here (b cap k es j) (h : j < es.flatten.length) : InC (.row ⟨some ⟨b, 0, none⟩, cap, k⟩ es) b j
 | there (t es c b j) (hc : c ∈ es.flatten) (h : InC c b j) : InC (.row t es) b j
theorem InC.blk {v : A} {b j : Nat} (h : InC v b j) : b ∈ v.blks := by
 induction h with
 | here b cap k es j h => simp [VA.blks]
 | there t es c b j hc h ih => simp only [VA.blks, blkR_map]; exact List.mem_append.2 (.inr (List.mem_flatMap.2 ⟨c, hc, ih⟩))
theorem cell_of_heap {w : World} {b j : Nat} {cur : Array Value} {e : TypeId} {f : Nat × Nat} (h : w.heap[b]? = some (.cells cur e f)) : w.cell? ⟨b, j, none⟩ = cur[j]? := by
 simp [World.cell?, h]
theorem Shp.rd {sid : Nat → Nat} {w : World} {C : Nat → Nat → Prop} {v : A} (h : Shp sid w C v) : Rd sid w (InC v) v := by
 induction h with
 | int k n => exact .int k n
 | bool b => exact .bool b
 | str s => exact .str s
 | nil k => exact .row _ _ (by simp) (by simp) (by simp) (by simp)
 | row b cap k es cur e hb hcap hmax hsize hk hk0 hne htake hfree hr ih =>
  refine .row _ _ hk hcap (fun j c hc => ?_) (fun c hc => (ih c hc).mono (fun b j hj => .there _ _ c b j hc hj) (fun _ _ _ => rfl))
  have hlt : j < es.flatten.length := (List.getElem?_eq_some_iff.1 hc).1
  refine ⟨b, 0, rfl, by rw [Nat.zero_add]; exact .here b cap k es j hlt, ?_⟩
  rw [Nat.zero_add, cell_of_heap hb, ← Array.getElem?_toList]
  have h1 : (cur.toList.take (es.length * k))[j]? = (es.flatten.map (VA.val sid))[j]? := by rw [htake]
  rw [List.getElem?_take, if_pos (by rw [← flatten_length hk]; exact hlt), List.getElem?_map, hc] at h1
  exact h1
theorem Shp.lt {sid : Nat → Nat} {w : World} {C : Nat → Nat → Prop} {v : A} (h : Shp sid w C v) : ∀ b ∈ v.blks, b < w.heap.size := by
 induction h with
 | int k n => simp [VA.blks]
 | bool b => simp [VA.blks]
 | str s => simp [VA.blks]
 | nil k => simp [VA.blks, blkR]
 | row b cap k es cur e hb hcap hmax hsize hk hk0 hne htake hfree hr ih =>
  intro x hx
  simp only [VA.blks, blkR_map, List.mem_append, List.mem_flatMap, List.mem_singleton] at hx
  rcases hx with rfl | ⟨c, hc, hx⟩
  ·exact (Array.getElem?_eq_some_iff.1 hb).1
  ·exact ih c hc x hx
theorem blks_mem {t : Tg} {es : List (List A)} {c : A} {x : Nat} (hc : c ∈ es.flatten) (hx : x ∈ c.blks) : x ∈ (VA.row t es : A).blks := by
 simp only [VA.blks, blkR_map]
 exact List.mem_append.2 (.inr (List.mem_flatMap.2 ⟨c, hc, hx⟩))
theorem nodup_each {α : Type} {f : α → List Nat} : ∀ {l : List α}, (l.flatMap f).Nodup → ∀ c ∈ l, (f c).Nodup
 | [], _, c, hc => by simp at hc
 | a :: l, h, c, hc => by
  rw [List.flatMap_cons, List.nodup_append] at h
  rcases List.mem_cons.1 hc with rfl | hc
  ·exact h.1
  ·exact nodup_each h.2.1 c hc
theorem nodup_same {α : Type} {f : α → List Nat} : ∀ {l : List α}, (l.flatMap f).Nodup → ∀ c ∈ l, ∀ c' ∈ l, ∀ x, x ∈ f c → x ∈ f c' → c = c'
 | [], _, c, hc, _, _, _, _, _ => by simp at hc
 | a :: l, h, c, hc, c', hc', x, hx, hx' => by
  rw [List.flatMap_cons, List.nodup_append] at h
  rcases List.mem_cons.1 hc with e1 | m1 <;> rcases List.mem_cons.1 hc' with e2 | m2
  ·rw [e1, e2]
  ·subst e1; exact absurd rfl (h.2.2 x hx x (List.mem_flatMap.2 ⟨c', m2, hx'⟩))
  ·subst e2; exact absurd rfl (h.2.2 x hx' x (List.mem_flatMap.2 ⟨c, m1, hx⟩))
  ·exact nodup_same h.2.1 c m1 c' m2 x hx hx'
theorem Shp.commit {sid : Nat → Nat} {w : World} {C : Nat → Nat → Prop} {v : A} (h : Shp sid w C v) (hn : v.blks.Nodup) :
  Shp sid w (fun b j => C b j ∨ InC v b j) v := by
 have key : ∀ u : A, Shp sid w C u → u.blks.Nodup → ∀ D : Nat → Nat → Prop, (∀ b ∈ u.blks, ∀ j, D b j → C b j ∨ InC u b j) → Shp sid w D u := by
  intro u hu
  induction hu with
  | int k n => intros; exact .int k n
  | bool b => intros; exact .bool b
  | str s => intros; exact .str s
  | nil k => intros; exact .nil k
  | row b cap k es cur e hb hcap hmax hsize hk hk0 hne htake hfree hr ih =>
   intro hnd D hD
   have hnd' : b ∉ es.flatten.flatMap VA.blks ∧ (es.flatten.flatMap VA.blks).Nodup := by
    simpa [VA.blks, blkR_map] using hnd
   refine .row b cap k es cur e hb hcap hmax hsize hk hk0 hne htake (fun j hj hd => ?_) (fun c hc => ?_)
   ·rcases hD b (by simp [VA.blks]) j hd with hc | hi
    ·exact hfree j hj hc
    ·cases hi with
     | here _ _ _ _ _ hlt => rw [flatten_length hk] at hlt; omega
     | there _ _ c _ _ hc hi => exact hnd'.1 (List.mem_flatMap.2 ⟨c, hc, hi.blk⟩)
   ·refine ih c hc (nodup_each hnd'.2 c hc) D (fun x hx j hd => ?_)
    rcases hD x (blks_mem hc hx) j hd with h1 | h1
    ·exact .inl h1
    ·cases h1 with
     | here _ _ _ _ _ hlt => exact absurd (List.mem_flatMap.2 ⟨c, hc, hx⟩) hnd'.1
     | there _ _ c' _ _ hc' hi => exact .inr (nodup_same hnd'.2 c' hc' c hc x hi.blk hx ▸ hi)
 exact key v h hn _ (fun _ _ _ hd => hd)
end Go.Vm
end
section
namespace Go.Vm
structure Env where
 P : Program
 sid : Nat → Nat
 nt : Nat
 base : Nat
 old : Nat → Nat → Prop
 chg : Nat → Prop
 par : Nat → Nat → Option A
 mt : Nat → Option (Tg × Nat)
 pb : Tg
abbrev SA := Sl Tg
abbrev StA := List SA
def Cell.er (x : Cell Tg) : Cell Unit := ⟨x.v.er, x.f⟩
def Kd.er : Kd Tg → Kd Unit
 | .dead => .dead
 | .und => .und
 | .val => .val
 | .agg => .agg
 | .box _ => .box ()
 | .tup sh => .tup sh
 | .ptr r o => .ptr r o
 | .ept _ s ix => .ept () s ix
 | .clo g rs => .clo g rs
def Sl.er (s : SA) : SU := ⟨s.k.er, s.cs.map Cell.er⟩
def erS (S : StA) : St := S.map Sl.er
def cellAt (S : StA) (s c : Nat) : Option (Cell Tg) := (S[s]?).bind fun sl => sl.cs[c]?
def boxAddr (S : StA) (r : Nat) : Option Addr :=
 match S[r]? with
 | some ⟨.box t, _⟩ => t.a
 | _ => none
def tupVals : List (Bool × Nat) → List Value → List Value
 | [], _ => []
 | (agg, n) :: r, vs => (if agg then .agg (vs.take n).toArray else (vs.head?.getD undef)) :: tupVals r (vs.drop n)
def SlV (sid : Nat → Nat) (S : StA) (s : SA) (v : Value) : Prop :=
 match s.k with
 | .dead => True
 | .und => v = undef
 | .val => ∃ c, s.cs = [c] ∧ v = c.v.val sid
 | .agg => v = .agg (s.cs.map (·.v.val sid)).toArray
 | .box _ => False
 | .tup sh => v = .tuple (tupVals sh (s.cs.map (·.v.val sid))).toArray
 | .ptr r off => ∃ b, boxAddr S r = some ⟨b, 0, none⟩ ∧ v = .pointer (some ⟨b, off, none⟩)
 | .ept t _ _ => ∃ b o, t.a = some ⟨b, o, none⟩ ∧ v = .pointer (some ⟨b, o, none⟩)
 | .clo g rs => (∀ r ∈ rs, ∃ b, boxAddr S r = some ⟨b, 0, none⟩) ∧ v = .func (.func (sid g)) #[] (rs.map fun r => .pointer (boxAddr S r)).toArray
def VA.top : A → List Nat
 | .row t _ => match t.a with | some a => [a.block] | none => []
 | _ => []
def Cell.own (x : Cell Tg) : List Nat := if hold x.f then (if isOs x.f then x.v.top else x.v.blks) else []
theorem hold_owns {f : Fl} (h : owns f = true) : hold f = true ∧ isOs f = false := by cases f <;> simp_all [hold, owns, isOs]
theorem own_blks {x : Cell Tg} (h : owns x.f = true) : x.own = x.v.blks := by unfold Cell.own; rw [(hold_owns h).1, (hold_owns h).2]; rfl
theorem hold_false {f : Fl} (h : hold f = false) : owns f = false ∧ isOs f = false := by simpa [hold] using h
def Sl.boxOwn (s : SA) : List Nat := match s.k with | .box t => (match t.a with | some a => [a.block] | none => []) | _ => []
def Sl.own (s : SA) : List Nat := s.boxOwn ++ s.cs.flatMap Cell.own
def ownAll (S : StA) (X : List (Cell Tg)) : List Nat := S.flatMap Sl.own ++ X.flatMap Cell.own
def Fst (E : Env) (w : World) (v : A) : Prop :=
 Shp E.sid w (fun _ _ => False) v ∧ v.blks.Nodup ∧ ∀ b ∈ v.blks, E.base ≤ b
def RowAt (S : StA) (s c : Nat) : Prop := ∃ y, cellAt S s c = some y ∧ isRow y.v = true
def CpOk (S : StA) (s c : Nat) (ix : Option Nat) (v : A) : Prop :=
 RowAt S s c ∧ ∀ y, cellAt S s c = some y → ((∃ g, y.f = .ow g) ∨ (∃ i, y.f = .mp i) ∨ (y.f = .os false ∧ ix = none)) →
  match ix with
  | none => y.v = v
  | some ix => ∃ t es, y.v = .row t es ∧ es.flatten[ix]? = some v
def rowLen : A → Nat
 | .row _ es => es.length
 | _ => 0
def ApOk (E : Env) (w : World) (C : Nat → Nat → Prop) (S : StA) (X : List (Cell Tg)) (s c ix : Nat) (v : A) : Prop :=
 (∃ t es, v = .row t es ∧ allScal es = true) ∧ RowAt S s c ∧
 ∀ y, cellAt S s c = some y → (∃ g, y.f = .ow g) → Fst E w v ∧ ((∀ b ∈ v.blks, b ∉ ownAll S X ∧ ∀ j, ¬ C b j) ∨
  ∃ t es u, y.v = .row t es ∧ es.flatten[ix]? = some u ∧ v.blks = u.blks ∧ rowLen u ≤ rowLen v)
def Spn (w : World) (C : Nat → Nat → Prop) (v : A) : Prop :=
 ∃ t es, v = .row t es ∧ ((t.a = none ∧ t.cap = 0 ∧ es = []) ∨ ∃ b cur e, t.a = some ⟨b, 0, none⟩ ∧ w.heap[b]? = some (.cells cur e (0, 0)) ∧ es.length ≤ t.cap ∧ t.cap ≤ maxLen ∧ cur.size = t.cap * t.k ∧ 0 < t.k ∧ (es = [] → t.cap = 0) ∧ ∀ j, es.length * t.k ≤ j → ¬ C b j)
def Fre (E : Env) (v : A) : Prop := Pur v ∧ ∀ b ∈ v.blks, E.base ≤ b
def COk (E : Env) (w : World) (C : Nat → Nat → Prop) (S : StA) (X : List (Cell Tg)) (x : Cell Tg) : Prop :=
 match x.f with
 | .sc => scal x.v = true
 | .sp a c => isRow x.v = true ∧ Rd E.sid w E.old x.v ∧ E.par a c = some x.v
 | .sh => Rd E.sid w E.old x.v
 | .nl => ∃ k, x.v = .row ⟨none, 0, k⟩ []
 | .ow g => isRow x.v = true ∧ Shp' E.sid w C g x.v ∧ ∀ b ∈ x.v.blks, E.base ≤ b
 | .nw g => isRow x.v = true ∧ Shp' E.sid w C g x.v ∧ ∀ b ∈ x.v.blks, E.base ≤ b
 | .os _ => isRow x.v = true ∧ Rd E.sid w C x.v ∧ Fre E x.v ∧ Spn w C x.v
 | .mp i => Shp E.sid w C x.v ∧ (∃ t es, x.v = .row t es ∧ E.mt i = some (t, es.length)) ∧ ∀ b ∈ x.v.blks, E.base ≤ b ∨ E.chg b
 | .cp ck s c ix => isRow x.v = true ∧ Rd E.sid w C x.v ∧ CpOk S s c ix x.v ∧ (ck = .own → Fst E w x.v)
 | .ap s c ix => ApOk E w C S X s c ix x.v
 | .fr => isRow x.v = true ∧ Rd E.sid w C x.v ∧ Fst E w x.v
 | .no => isRow x.v = true ∧ Rd E.sid w C x.v
 | .dd => True
def BoxOk (E : Env) (w : World) (C : Nat → Nat → Prop) (t : Tg) (cs : List (Cell Tg)) : Prop :=
 ∃ b T, t.a = some ⟨b, 0, none⟩ ∧ w.heap[b]? = some (.cells (cs.map (·.v.val E.sid)).toArray T (0, 0)) ∧ (∀ j, ¬ C b j) ∧ (E.base ≤ b ∨ E.chg b)
def EptOk (E : Env) (w : World) (C : Nat → Nat → Prop) (S : StA) (t : Tg) (src : Option (Nat × Nat)) (ix : Nat) (cs : List (Cell Tg)) : Prop :=
 ∃ b o, t.a = some ⟨b, o, none⟩ ∧
  (∀ j x, cs[j]? = some x → C b (o + j) ∧ w.cell? ⟨b, o + j, none⟩ = some (x.v.val E.sid)) ∧
  match src with
  | none => True
  | some (s, c) => RowAt S s c ∧ ∀ y, cellAt S s c = some y → ((∃ g, y.f = .ow g) ∨ ∃ i, y.f = .mp i) →
    ∃ t' es, y.v = .row t' es ∧ t'.a = some ⟨b, o - ix, none⟩ ∧ ix ≤ o ∧ ∀ j x, cs[j]? = some x → es.flatten[ix + j]? = some x.v
structure Inv (E : Env) (S : StA) (X : List (Cell Tg)) (C : Nat → Nat → Prop) (a : Act) (w : World) : Prop where
 len : S.length = 2 * E.nt + 2
 tsz : a.tmps.size = E.nt
 nodef : a.defers = []
 slv : ∀ (i : Nat) (s : SA), i < E.nt → S[i]? = some s → SlV E.sid S s (a.tmps.getD i undef)
 high : ∀ (i : Nat) (s : SA), E.nt ≤ i → S[i]? = some s → s.k = .dead ∨ s.k = .und ∨ ∃ t, s.k = .box t ∧ (i = lockS E.nt + 1 → t = E.pb)
 emp : ∀ (i : Nat) (s : SA), S[i]? = some s → (s.k = .dead ∨ s.k = .und ∨ (∃ r o, s.k = .ptr r o) ∨ ∃ g rs, s.k = .clo g rs) → s.cs = []
 lock : ∀ (i : Nat) (s : SA), E.nt ≤ i → S[i]? = some s → s.k = .und → i = lockS E.nt
 noap : ∀ l : SA, S[lockS E.nt]? = some l → l.k = .dead → (∀ (i : Nat) (s : SA), S[i]? = some s → ∀ x ∈ s.cs, ∀ p q r, x.f ≠ .ap p q r) ∧ ∀ x ∈ X, ∀ p q r, x.f ≠ .ap p q r
 box : ∀ (i : Nat) (s : SA) t, S[i]? = some s → s.k = .box t → BoxOk E w C t s.cs
 ept : ∀ (i : Nat) (s : SA) t src ix, S[i]? = some s → s.k = .ept t src ix → EptOk E w C S t src ix s.cs
 cells : ∀ (i : Nat) (s : SA), S[i]? = some s → ∀ x ∈ s.cs, COk E w C S X x
 hand : ∀ x ∈ X, COk E w C S X x
 cnt : ∀ b, (ownAll S X).count b ≤ 1
 olt : ∀ b j, E.old b j → C b j
 clt : ∀ b j, C b j → b < w.heap.size
 cbase : ∀ b j, C b j → E.base ≤ b ∨ E.old b j ∨ E.chg b
 ownlt : ∀ b ∈ ownAll S X, b < w.heap.size ∧ ∀ j, ¬ E.old b j
theorem er_cells (s : SA) : s.er.cs = s.cs.map Cell.er := rfl
theorem er_kind (s : SA) : s.er.k = s.k.er := rfl
theorem erS_get (S : StA) (i : Nat) : (erS S)[i]? = (S[i]?).map Sl.er := by simp [erS]
theorem erS_len (S : StA) : (erS S).length = S.length := by simp [erS]
theorem erS_set (S : StA) (i : Nat) (s : SA) : erS (S.set i s) = (erS S).set i s.er := by simp [erS, List.map_set]
theorem erS_some {S : StA} {i : Nat} {s : SU} (h : (erS S)[i]? = some s) : ∃ t, S[i]? = some t ∧ t.er = s := by
 rw [erS_get] at h
 cases hs : S[i]? with
 | none => simp [hs] at h
 | some t => exact ⟨t, rfl, by simpa [hs] using h⟩
end Go.Vm
end
section
namespace Go.Vm
theorem FM.run_bind {α β : Type} (p : FM α) (f : α → FM β) (st : St) :
  (p.bind f).run st = match p.run st with | some (a, st') => (f a).run st' | none => none := by
 induction p generalizing st with
 | ret a => rfl
 | get i k ih =>
  simp only [FM.bind, FM.run]
  cases st[i]? with
  | none => rfl
  | some s => exact ih s st
 | set i s k ih =>
  simp only [FM.bind, FM.run]
  split
  ·exact ih _
  ·rfl
 | fail => rfl
theorem FM.bind_some {α β : Type} {p : FM α} {f : α → FM β} {st : St} {r : β × St} (h : (p.bind f).run st = some r) :
  ∃ a st', p.run st = some (a, st') ∧ (f a).run st' = some r := by
 rw [FM.run_bind] at h
 cases hp : p.run st with
 | none => rw [hp] at h; cases h
 | some x => rw [hp] at h; exact ⟨x.1, x.2, rfl, h⟩
theorem getS_run {i : Nat} {st st' : St} {s : SU} (h : (getS i).run st = some (s, st')) : st[i]? = some s ∧ st' = st := by
 simp only [getS, FM.run] at h
 cases hs : st[i]? with
 | none => simp [hs] at h
 | some t => simp [hs] at h; exact ⟨by rw [h.1], h.2.symm⟩
theorem setS_run {i : Nat} {s : SU} {st st' : St} {u : Unit} (h : (setS i s).run st = some (u, st')) : i < st.length ∧ st' = st.set i s := by
 simp only [setS, FM.run] at h
 split at h
 ·rename_i hi; simp at h; exact ⟨hi, h.symm⟩
 ·cases h
theorem ret_run {α : Type} {a b : α} {st st' : St} (h : (FM.ret a).run st = some (b, st')) : b = a ∧ st' = st := by
 simp [FM.run] at h; exact ⟨h.1.symm, h.2.symm⟩
theorem opt_run {α : Type} {o : Option α} {b : α} {st st' : St} (h : (opt o).run st = some (b, st')) : o = some b ∧ st' = st := by
 cases o with
 | none => simp [opt, FM.run] at h
 | some a => simp [opt, FM.run] at h; exact ⟨by rw [h.1], h.2.symm⟩
def setFlA (S : StA) (s c : Nat) (f : Fl) : StA :=
 match S[s]? with
 | some sl => match sl.cs[c]? with
  | some x => S.set s ⟨sl.k, sl.cs.set c ⟨x.v, f⟩⟩
  | none => S
 | none => S
theorem setFlA_eq {S : StA} {s c : Nat} {f : Fl} {sl : SA} {x : Cell Tg} (hs : S[s]? = some sl) (hc : sl.cs[c]? = some x) :
  setFlA S s c f = S.set s ⟨sl.k, sl.cs.set c ⟨x.v, f⟩⟩ := by simp [setFlA, hs, hc]
theorem setFlA_er {S : StA} {s c : Nat} {f : Fl} {sl : SA} {x : Cell Tg} (hs : S[s]? = some sl) (hc : sl.cs[c]? = some x) :
  erS (setFlA S s c f) = (erS S).set s (setFl sl.er c f) := by
 rw [setFlA_eq hs hc, erS_set]
 congr 1
 simp [setFl, Sl.er, hc, List.map_set, Cell.er]
theorem cellAt_some {S : StA} {s c : Nat} {x : Cell Tg} (h : cellAt S s c = some x) : ∃ sl, S[s]? = some sl ∧ sl.cs[c]? = some x := by
 unfold cellAt at h
 cases hs : S[s]? with
 | none => simp [hs] at h
 | some sl => exact ⟨sl, rfl, by simpa [hs] using h⟩
theorem cellAt_of {S : StA} {s c : Nat} {sl : SA} {x : Cell Tg} (hs : S[s]? = some sl) (hc : sl.cs[c]? = some x) : cellAt S s c = some x := by simp [cellAt, hs, hc]
theorem cellAt_setFlA {S : StA} {s c : Nat} {f : Fl} {x : Cell Tg} (hx : cellAt S s c = some x) (p q : Nat) :
  cellAt (setFlA S s c f) p q = if p = s ∧ q = c then some ⟨x.v, f⟩ else cellAt S p q := by
 obtain ⟨sl, hs, hc⟩ := cellAt_some hx
 rw [setFlA_eq hs hc]
 have hlt : s < S.length := (List.getElem?_eq_some_iff.1 hs).1
 have hltc : c < sl.cs.length := (List.getElem?_eq_some_iff.1 hc).1
 unfold cellAt
 by_cases hp : p = s
 ·subst hp
  by_cases hq : q = c
  ·subst hq; simp [hlt, hltc]
  ·have : ¬ c = q := fun e => hq e.symm
   have hsp : S[p] = sl := (List.getElem?_eq_some_iff.1 hs).2
   simp [hlt, hq, this, hsp]
 ·have : ¬ s = p := fun e => hp e.symm
  simp [hp, this]
theorem count_set_flatMap {α : Type} (f : α → List Nat) (b : Nat) : ∀ (l : List α) (i : Nat) (x y : α), l[i]? = some x →
  ((l.set i y).flatMap f).count b + (f x).count b = (l.flatMap f).count b + (f y).count b
 | [], i, x, y, h => by simp at h
 | a :: l, 0, x, y, h => by
  simp at h; subst h
  simp [List.flatMap_cons, List.count_append]; omega
 | a :: l, i + 1, x, y, h => by
  have := count_set_flatMap f b l i x y (by simpa using h)
  simp only [List.set_cons_succ, List.flatMap_cons, List.count_append]; omega
theorem own_setFlA {S : StA} {X : List (Cell Tg)} {s c : Nat} {f : Fl} {x : Cell Tg} (hx : cellAt S s c = some x) (b : Nat) :
  (ownAll (setFlA S s c f) X).count b + x.own.count b = (ownAll S X).count b + (Cell.own ⟨x.v, f⟩).count b := by
 obtain ⟨sl, hs, hc⟩ := cellAt_some hx
 rw [setFlA_eq hs hc]
 unfold ownAll
 rw [List.count_append, List.count_append]
 have h1 := count_set_flatMap Sl.own b S s sl ⟨sl.k, sl.cs.set c ⟨x.v, f⟩⟩ hs
 have h2 := count_set_flatMap Cell.own b sl.cs c x ⟨x.v, f⟩ hc
 have h3 : (Sl.own ⟨sl.k, sl.cs.set c ⟨x.v, f⟩⟩).count b + (Cell.own x).count b = sl.own.count b + (Cell.own ⟨x.v, f⟩).count b := by
  unfold Sl.own
  rw [List.count_append, List.count_append, show Sl.boxOwn ⟨sl.k, sl.cs.set c ⟨x.v, f⟩⟩ = sl.boxOwn from rfl]
  simp only
  omega
 omega
structure Less (S S' : StA) (X X' : List (Cell Tg)) : Prop where
 own : ∀ b, (ownAll S' X').count b ≤ (ownAll S X).count b
 row : ∀ s c, RowAt S s c → RowAt S' s c
 at' : ∀ s c y, RowAt S s c → cellAt S' s c = some y → ((∃ g, y.f = .ow g) ∨ (∃ i, y.f = .mp i) ∨ y.f = .os false) → ∃ z, cellAt S s c = some z ∧ z.v = y.v ∧ z.f = y.f
theorem Less.mem {S S' : StA} {X X' : List (Cell Tg)} (h : Less S S' X X') {b : Nat} (hb : b ∈ ownAll S' X') : b ∈ ownAll S X := by
 have h1 := h.own b
 have h2 := List.count_pos_iff.2 hb
 exact List.count_pos_iff.1 (by omega)
theorem CpOk.less {S S' : StA} {X X' : List (Cell Tg)} {s c : Nat} {ix : Option Nat} {v : A} (h : CpOk S s c ix v) (hl : Less S S' X X') : CpOk S' s c ix v := by
 refine ⟨hl.row s c h.1, fun y hy hf => ?_⟩
 obtain ⟨z, hz, hv, hzf⟩ := hl.at' s c y h.1 hy (hf.imp id (Or.imp id And.left))
 have := h.2 z hz (by rw [hzf]; exact hf)
 cases ix with
 | none => exact hv ▸ this
 | some ix => obtain ⟨t, es, h1, h2⟩ := this; exact ⟨t, es, hv ▸ h1, h2⟩
theorem COk.less {E : Env} {w : World} {C : Nat → Nat → Prop} {S S' : StA} {X X' : List (Cell Tg)} {x : Cell Tg} (h : COk E w C S X x) (hl : Less S S' X X') : COk E w C S' X' x := by
 obtain ⟨v, f⟩ := x
 cases f with
 | cp ck s c ix => exact ⟨h.1, h.2.1, h.2.2.1.less hl, h.2.2.2⟩
 | ap s c ix =>
  obtain ⟨h2, h0, h3⟩ := h
  refine ⟨h2, hl.row s c h0, fun y hy ⟨g, hg⟩ => ?_⟩
  obtain ⟨z, hz, hv, hzf⟩ := hl.at' s c y h0 hy (.inl ⟨g, hg⟩)
  obtain ⟨h1, h4⟩ := h3 z hz ⟨g, by rw [hzf]; exact hg⟩
  refine ⟨h1, h4.imp (fun h b hb => ⟨fun hm => (h b hb).1 (hl.mem hm), (h b hb).2⟩) fun ⟨t, es, u, e1, e2⟩ => ⟨t, es, u, hv ▸ e1, e2⟩⟩
 | _ => exact h
theorem EptOk.less {E : Env} {w : World} {C : Nat → Nat → Prop} {S S' : StA} {X X' : List (Cell Tg)} {t : Tg} {src : Option (Nat × Nat)} {ix : Nat} {cs : List (Cell Tg)}
  (h : EptOk E w C S t src ix cs) (hl : Less S S' X X') : EptOk E w C S' t src ix cs := by
 obtain ⟨b, o, h1, h2, h3⟩ := h
 refine ⟨b, o, h1, h2, ?_⟩
 cases src with
 | none => trivial
 | some p =>
  obtain ⟨s, c⟩ := p
  refine ⟨hl.row s c h3.1, fun y hy hf => ?_⟩
  obtain ⟨z, hz, hv, hzf⟩ := hl.at' s c y h3.1 hy (hf.imp id .inl)
  obtain ⟨t', es, e1, e2, e3⟩ := h3.2 z hz (by rw [hzf]; exact hf)
  exact ⟨t', es, hv ▸ e1, e2, e3⟩
structure Same (S S' : StA) : Prop where
 len : S'.length = S.length
 slot : ∀ (i : Nat) (s' : SA), S'[i]? = some s' → ∃ s : SA, S[i]? = some s ∧ s'.k = s.k ∧ s'.cs.map (·.v) = s.cs.map (·.v)
theorem Same.box {S S' : StA} (h : Same S S') (r : Nat) : boxAddr S' r = boxAddr S r := by
 unfold boxAddr
 cases h' : S'[r]? with
 | none =>
  have : S[r]? = none := by rw [List.getElem?_eq_none_iff] at h' ⊢; rw [← h.len]; exact h'
  rw [this]
 | some s' =>
  obtain ⟨s, hs, hk, _⟩ := h.slot r s' h'
  rw [hs]
  obtain ⟨k, cs⟩ := s
  obtain ⟨k', cs'⟩ := s'
  simp only at hk
  subst hk
  cases k' <;> rfl
theorem map_single {α β : Type} {f : α → β} {l l' : List α} (h : l'.map f = l.map f) {c : α} (hl : l = [c]) : ∃ c', l' = [c'] ∧ f c' = f c := by
 subst hl
 cases l' with
 | nil => simp at h
 | cons x r => cases r with
  | nil => exact ⟨x, rfl, by simpa using h⟩
  | cons y r => simp at h
theorem map_val {sid : Nat → Nat} {l l' : List (Cell Tg)} (h : l'.map (·.v) = l.map (·.v)) : l'.map (·.v.val sid) = l.map (·.v.val sid) := by
 have h1 : l'.map (·.v.val sid) = (l'.map (·.v)).map (VA.val sid) := by simp [List.map_map, Function.comp_def]
 have h2 : l.map (·.v.val sid) = (l.map (·.v)).map (VA.val sid) := by simp [List.map_map, Function.comp_def]
 rw [h1, h2, h]
theorem SlV.same {sid : Nat → Nat} {S S' : StA} (h : Same S S') {s s' : SA} {v : Value} (hk : s'.k = s.k) (hv : s'.cs.map (·.v) = s.cs.map (·.v)) (hs : SlV sid S s v) : SlV sid S' s' v := by
 obtain ⟨k, cs⟩ := s
 obtain ⟨k', cs'⟩ := s'
 simp only at hk hv
 subst hk
 cases k' with
 | dead => trivial
 | und => exact hs
 | val =>
  obtain ⟨c, h1, h2⟩ := hs
  obtain ⟨c', e1, e2⟩ := map_single hv h1
  exact ⟨c', e1, by rw [h2]; exact congrArg _ e2.symm⟩
 | agg => simp only [SlV] at hs ⊢; rw [map_val hv]; exact hs
 | box t => exact hs
 | tup sh => simp only [SlV] at hs ⊢; rw [map_val hv]; exact hs
 | ptr r off => simp only [SlV] at hs ⊢; rw [h.box]; exact hs
 | ept t src ix => exact hs
 | clo g rs => simp only [SlV] at hs ⊢; simp only [h.box]; exact hs
theorem same_setFlA {S : StA} {s c : Nat} {f : Fl} {x : Cell Tg} (hx : cellAt S s c = some x)   : Same S (setFlA S s c f) := by
 obtain ⟨sl, hs, hc⟩ := cellAt_some hx
 rw [setFlA_eq hs hc]
 refine ⟨by simp, fun i s' h => ?_⟩
 rw [List.getElem?_set] at h
 split at h
 ·rename_i hi; subst hi
  split at h
  ·simp at h; subst h
   refine ⟨sl, hs, rfl, ?_⟩
   simp only [List.map_set]
   apply List.ext_getElem?
   intro j
   rw [List.getElem?_set]
   split
   ·rename_i hj; subst hj
    obtain ⟨hl, he⟩ := List.getElem?_eq_some_iff.1 hc
    simp [hl, he]
   ·rfl
  ·cases h
 ·exact ⟨s', h, rfl, rfl⟩
theorem mem_setFlA {S : StA} {s c : Nat} {f : Fl} {x : Cell Tg} (hx : cellAt S s c = some x) {i : Nat} {s' : SA} (hi : (setFlA S s c f)[i]? = some s') {y : Cell Tg} (hy : y ∈ s'.cs) :
  y = ⟨x.v, f⟩ ∨ ∃ t, S[i]? = some t ∧ y ∈ t.cs := by
 obtain ⟨j, hj⟩ := List.mem_iff_getElem?.1 hy
 have h1 := cellAt_of hi hj
 rw [cellAt_setFlA hx] at h1
 split at h1
 ·exact .inl (Option.some.inj h1).symm
 ·obtain ⟨t, ht, hc⟩ := cellAt_some h1
  exact .inr ⟨t, ht, List.mem_iff_getElem?.2 ⟨j, hc⟩⟩
theorem less_setFlA {S : StA} {X zs : List (Cell Tg)} {s c : Nat} {f : Fl} {x : Cell Tg} (hx : cellAt S s c = some x) (hno : hold f = false)
  (hcnt : ∀ b, (zs.flatMap Cell.own).count b ≤ x.own.count b) : Less S (setFlA S s c f) X (zs ++ X) := by
 refine ⟨fun b => ?_, fun p q ⟨y, hy, hyr⟩ => ?_, fun p q y _ hy hf => ?_⟩
 ·have h1 := own_setFlA (X := X) (f := f) hx b
  have h2 : (Cell.own ⟨x.v, f⟩).count b = 0 := by simp [Cell.own, hno]
  have h3 := hcnt b
  simp only [ownAll, List.count_append, List.flatMap_append] at h1 ⊢
  omega
 ·unfold RowAt
  rw [cellAt_setFlA hx]
  split
  ·rename_i hpq
   obtain ⟨rfl, rfl⟩ := hpq
   rw [hx] at hy
   obtain rfl := Option.some.inj hy
   exact ⟨_, rfl, hyr⟩
  ·exact ⟨y, hy, hyr⟩
 ·rw [cellAt_setFlA hx] at hy
  split at hy
  ·obtain rfl := Option.some.inj hy
   rcases hf with ⟨g, hg⟩ | ⟨i, hi⟩ | ho
   ·simp only at hg; rw [hg] at hno; simp [hold, owns] at hno
   ·simp only at hi; rw [hi] at hno; simp [hold, owns] at hno
   ·simp only at ho; rw [ho] at hno; simp [hold, owns, isOs] at hno
  ·exact ⟨y, hy, rfl, rfl⟩
theorem box_same {E : Env} {w : World} {C : Nat → Nat → Prop} {t : Tg} {cs cs' : List (Cell Tg)} (h : BoxOk E w C t cs) (hv : cs'.map (·.v) = cs.map (·.v)) : BoxOk E w C t cs' := by
 obtain ⟨b, T, h1, h2, h3⟩ := h
 exact ⟨b, T, h1, by rw [map_val hv]; exact h2, h3⟩
theorem ept_same {E : Env} {w : World} {C : Nat → Nat → Prop} {S : StA} {t : Tg} {src : Option (Nat × Nat)} {ix : Nat} {cs cs' : List (Cell Tg)} (h : EptOk E w C S t src ix cs) (hv : cs'.map (·.v) = cs.map (·.v)) :
  EptOk E w C S t src ix cs' := by
 have key : ∀ (j : Nat) (x : Cell Tg), cs'[j]? = some x → ∃ y : Cell Tg, cs[j]? = some y ∧ y.v = x.v := by
  intro j x hx
  have h1 : (cs'.map (·.v))[j]? = some x.v := by simp [hx]
  rw [hv] at h1
  simp only [List.getElem?_map, Option.map_eq_some_iff] at h1
  exact h1
 obtain ⟨b, o, h1, h2, h3⟩ := h
 refine ⟨b, o, h1, fun j x hx => ?_, ?_⟩
 ·obtain ⟨y, hy, e⟩ := key j x hx
  rw [← e]; exact h2 j y hy
 ·cases src with
  | none => trivial
  | some p =>
   obtain ⟨s, c⟩ := p
   refine ⟨h3.1, fun y hy hf => ?_⟩
   obtain ⟨t', es, e1, e2, e3, e4⟩ := h3.2 y hy hf
   refine ⟨t', es, e1, e2, e3, fun j x hx => ?_⟩
   obtain ⟨z, hz, e⟩ := key j x hx
   rw [← e]; exact e4 j z hz
theorem Inv.reflag {E : Env} {S : StA} {X : List (Cell Tg)} {C : Nat → Nat → Prop} {a : Act} {w : World} (h : Inv E S X C a w) {s c : Nat} {x : Cell Tg} (hx : cellAt S s c = some x)
  (f : Fl) (zs : List (Cell Tg)) (hno : hold f = false) (hf : COk E w C S X ⟨x.v, f⟩) (hz : ∀ z ∈ zs, COk E w C S X z)
  (hcnt : ∀ b, (zs.flatMap Cell.own).count b ≤ x.own.count b) (hap : ∀ p q r, f ≠ .ap p q r) (hapz : ∀ z ∈ zs, ∀ p q r, z.f ≠ .ap p q r) : Inv E (setFlA S s c f) (zs ++ X) C a w := by
 have hl : Less S (setFlA S s c f) X (zs ++ X) := less_setFlA hx hno hcnt
 have hsm := same_setFlA (f := f) hx
 refine ⟨hsm.len.trans h.len, h.tsz, h.nodef, ?_, ?_, ?_, ?_, ?_, ?_, ?_, ?_, ?_, ?_, h.olt, h.clt, h.cbase, fun b hb => h.ownlt b (hl.mem hb)⟩
 ·intro i s' hi hs'
  obtain ⟨t, ht, hk, hv⟩ := hsm.slot i s' hs'
  exact (h.slv i t hi ht).same hsm hk hv
 ·intro i s' hi hs'
  obtain ⟨t, ht, hk, hv⟩ := hsm.slot i s' hs'
  rw [hk]; exact h.high i t hi ht
 ·intro i s' hs' hk'
  obtain ⟨t, ht, hk, hv⟩ := hsm.slot i s' hs'
  have := h.emp i t ht (by rw [← hk]; exact hk')
  rw [this] at hv
  simpa using hv
 ·intro i s' hi hs' hu
  obtain ⟨t, ht, hk, _⟩ := hsm.slot i s' hs'
  exact h.lock i t hi ht (hk ▸ hu)
 ·intro l hl' hd
  obtain ⟨t, ht, hk, _⟩ := hsm.slot _ l hl'
  obtain ⟨h1, h2⟩ := h.noap t ht (hk ▸ hd)
  refine ⟨fun i s' hs' y hy => ?_, fun y hy => ?_⟩
  ·rcases mem_setFlA hx hs' hy with rfl | ⟨t, ht, hm⟩
   ·exact hap
   ·exact h1 i t ht y hm
  ·rcases List.mem_append.1 hy with hy | hy
   ·exact hapz y hy
   ·exact h2 y hy
 ·intro i s' t hs' hk'
  obtain ⟨u, hu, hk, hv⟩ := hsm.slot i s' hs'
  exact box_same (h.box i u t hu (hk ▸ hk')) hv
 ·intro i s' t src ix hs' hk'
  obtain ⟨u, hu, hk, hv⟩ := hsm.slot i s' hs'
  exact (ept_same (h.ept i u t src ix hu (hk ▸ hk')) hv).less hl
 ·intro i s' hs' y hy
  rcases mem_setFlA hx hs' hy with rfl | ⟨t, ht, hm⟩
  ·exact hf.less hl
  ·exact (h.cells i t ht y hm).less hl
 ·intro y hy
  rcases List.mem_append.1 hy with hy | hy
  ·exact (hz y hy).less hl
  ·exact (h.hand y hy).less hl
 ·intro b
  exact Nat.le_trans (hl.own b) (h.cnt b)
def cellsAll (S : StA) (X : List (Cell Tg)) : List (Cell Tg) := S.flatMap (·.cs) ++ X
theorem count_ownAll (S : StA) (X : List (Cell Tg)) (b : Nat) :
  (ownAll S X).count b = (S.flatMap Sl.boxOwn).count b + ((cellsAll S X).flatMap Cell.own).count b := by
 unfold ownAll cellsAll
 rw [List.flatMap_append, List.count_append, List.count_append]
 have : (S.flatMap Sl.own).count b = (S.flatMap Sl.boxOwn).count b + ((S.flatMap (·.cs)).flatMap Cell.own).count b := by
  induction S with
  | nil => rfl
  | cons s S ih =>
   simp only [List.flatMap_cons, List.count_append, List.flatMap_append, ih]
   have : s.own.count b = s.boxOwn.count b + (s.cs.flatMap Cell.own).count b := by
    unfold Sl.own; rw [List.count_append]
   omega
 omega
theorem nodup_of_count {l : List Nat} (h : ∀ b, l.count b ≤ 1) : l.Nodup := List.nodup_iff_count.2 (fun b => h b)
theorem Inv.apart {E : Env} {S : StA} {X : List (Cell Tg)} {C : Nat → Nat → Prop} {a : Act} {w : World} (h : Inv E S X C a w) : ((cellsAll S X).flatMap Cell.own).Nodup :=
 nodup_of_count fun b => by have h1 := h.cnt b; rw [count_ownAll] at h1; omega
theorem Inv.one {E : Env} {S : StA} {X : List (Cell Tg)} {C : Nat → Nat → Prop} {a : Act} {w : World} (h : Inv E S X C a w) {x y : Cell Tg} (hx : x ∈ cellsAll S X) (hy : y ∈ cellsAll S X) {b : Nat}
  (hbx : b ∈ x.own) (hby : b ∈ y.own) : x = y := nodup_same h.apart x hx y hy b hbx hby
theorem Inv.boxApart {E : Env} {S : StA} {X : List (Cell Tg)} {C : Nat → Nat → Prop} {a : Act} {w : World} (h : Inv E S X C a w) {i : Nat} {s : SA} (hs : S[i]? = some s) {b : Nat} (hb : b ∈ s.boxOwn)
  {x : Cell Tg} (hx : x ∈ cellsAll S X) : b ∉ x.own := by
 intro hbx
 have h1 := h.cnt b
 rw [count_ownAll] at h1
 have h2 : 0 < (S.flatMap Sl.boxOwn).count b := List.count_pos_iff.2 (List.mem_flatMap.2 ⟨s, List.mem_of_getElem? hs, hb⟩)
 have h3 : 0 < ((cellsAll S X).flatMap Cell.own).count b := List.count_pos_iff.2 (List.mem_flatMap.2 ⟨x, hx, hbx⟩)
 omega
theorem own_of {x : Cell Tg} (h : owns x.f = true) {b : Nat} (hb : b ∈ x.v.blks) : b ∈ x.own := by rw [own_blks h]; exact hb
theorem mem_cellsAll {S : StA} {X : List (Cell Tg)} {i : Nat} {s : SA} (hs : S[i]? = some s) {x : Cell Tg} (hx : x ∈ s.cs) : x ∈ cellsAll S X :=
 List.mem_append.2 (.inl (List.mem_flatMap.2 ⟨s, List.mem_of_getElem? hs, hx⟩))
theorem mem_hand {S : StA} {X : List (Cell Tg)} {x : Cell Tg} (hx : x ∈ X) : x ∈ cellsAll S X := List.mem_append.2 (.inr hx)
theorem own_os {x : Cell Tg} (h : isOs x.f = true) {b : Nat} (hb : b ∈ x.v.top) : b ∈ x.own := by
 obtain ⟨v, f⟩ := x
 cases f <;> simp [isOs] at h
 simpa [Cell.own, hold, owns, isOs] using hb
theorem top_blks {v : A} {b : Nat} (hb : b ∈ v.top) : b ∈ v.blks := by
 cases v with
 | row t es => exact List.mem_append.2 (.inl hb)
 | _ => simp [VA.top] at hb
theorem Spn.mono {w w' : World} {C C' : Nat → Nat → Prop} {v : A} (h : Spn w C v) (hC : ∀ b ∈ v.top, ∀ j, C' b j → C b j) (hw : ∀ b ∈ v.top, w'.heap[b]? = w.heap[b]?) : Spn w' C' v := by
 obtain ⟨t, es, rfl, h⟩ := h
 refine ⟨t, es, rfl, h.imp id ?_⟩
 rintro ⟨b, cur, e, h1, h2, h3, h4, h5, h6, h7, h8⟩
 have hb : b ∈ (VA.row t es : A).top := by simp [VA.top, h1]
 exact ⟨b, cur, e, h1, (hw b hb).trans h2, h3, h4, h5, h6, h7, fun j hj hc => h8 j hj (hC b hb j hc)⟩
theorem Spn.lt {w : World} {C : Nat → Nat → Prop} {v : A} (h : Spn w C v) : ∀ b ∈ v.top, b < w.heap.size := by
 obtain ⟨t, es, rfl, h⟩ := h
 intro b hb
 rcases h with ⟨h, _⟩ | ⟨b', cur, e, h1, h2, _⟩
 ·simp [VA.top, h] at hb
 ·simp [VA.top, h1] at hb
  subst hb
  exact (Array.getElem?_eq_some_iff.1 h2).1
theorem Inv.nodupOwn {E : Env} {S : StA} {X : List (Cell Tg)} {C : Nat → Nat → Prop} {a : Act} {w : World} (h : Inv E S X C a w) {x : Cell Tg} (hx : x ∈ cellsAll S X) (ho : owns x.f = true) : x.v.blks.Nodup := by
 have := nodup_each h.apart x hx
 rwa [own_blks ho] at this
theorem ShpG.mono {w : World} {C C' : Nat → Nat → Prop} {v : A} (h : ShpG w C v) (hC : ∀ b ∈ v.blks, ∀ j, C' b j → C b j) : ShpG w C' v := by
 obtain ⟨b, cap, cur, e, rfl, h2, h3, h4, h5⟩ := h
 exact ⟨b, cap, cur, e, rfl, h2, h3, h4, fun j hj => h5 j (hC b (by simp [VA.blks]) j hj)⟩
theorem shp_commit {E : Env} {S : StA} {X : List (Cell Tg)} {C : Nat → Nat → Prop} {a : Act} {w : World} (h : Inv E S X C a w) {x y : Cell Tg} (hx : x ∈ cellsAll S X) (hy : y ∈ cellsAll S X)
  (hox : owns x.f = true) (hoy : owns y.f = true) (hs : Shp E.sid w C y.v) : Shp E.sid w (fun b j => C b j ∨ InC x.v b j) y.v := by
 by_cases hb : ∃ b, b ∈ x.v.blks ∧ b ∈ y.v.blks
 ·obtain ⟨b, h1, h2⟩ := hb
  obtain rfl := h.one hx hy (own_of hox h1) (own_of hoy h2)
  exact hs.commit (h.nodupOwn hx hox)
 ·refine hs.mono (fun b hb' j hj => ?_) (fun _ _ => rfl)
  rcases hj with hj | hj
  ·exact hj
  ·exact absurd ⟨b, hj.blk, hb'⟩ hb
theorem InC_grown {w : World} {C : Nat → Nat → Prop} {v : A} (h : ShpG w C v) {b j : Nat} (hi : InC v b j) : False := by
 obtain ⟨_, _, _, _, rfl, _⟩ := h
 cases hi with
 | here _ _ _ _ _ h => simp at h
 | there _ _ c _ _ hc _ => simp at hc
theorem Inv.ok {E : Env} {S : StA} {X : List (Cell Tg)} {C : Nat → Nat → Prop} {a : Act} {w : World} (h : Inv E S X C a w) (x : Cell Tg) (hx : x ∈ cellsAll S X) : COk E w C S X x := by
 rcases List.mem_append.1 hx with hx | hx
 ·obtain ⟨s, hs, hm⟩ := List.mem_flatMap.1 hx
  obtain ⟨i, hi⟩ := List.mem_iff_getElem?.1 hs
  exact h.cells i s hi x hm
 ·exact h.hand x hx
theorem COk.own_base {E : Env} {w : World} {C : Nat → Nat → Prop} {S : StA} {X : List (Cell Tg)} {x : Cell Tg} (h : COk E w C S X x) (ho : owns x.f = true) : ∀ b ∈ x.v.blks, E.base ≤ b ∨ E.chg b := by
 obtain ⟨v, f⟩ := x
 cases f with
 | ow g => exact fun b hb => .inl (h.2.2 b hb)
 | nw g => exact fun b hb => .inl (h.2.2 b hb)
 | mp i => exact h.2.2
 | _ => simp [owns] at ho
theorem Inv.commit {E : Env} {S : StA} {X : List (Cell Tg)} {C : Nat → Nat → Prop} {a : Act} {w : World} (h : Inv E S X C a w) {x : Cell Tg} (hx : x ∈ cellsAll S X) (ho : owns x.f = true)
  : Inv E S X (fun b j => C b j ∨ InC x.v b j) a w := by
 have hmono : ∀ b j, C b j → C b j ∨ InC x.v b j := fun _ _ => .inl
 have hblk : ∀ b j, InC x.v b j → b ∈ x.own := fun b j hi => own_of ho hi.blk
 have hrd : ∀ {v : A}, Rd E.sid w C v → Rd E.sid w (fun b j => C b j ∨ InC x.v b j) v := fun hr => hr.mono hmono (fun _ _ _ => rfl)
 have hshp' : ∀ {y : Cell Tg}, y ∈ cellsAll S X → owns y.f = true → ∀ g, Shp' E.sid w C g y.v → Shp' E.sid w (fun b j => C b j ∨ InC x.v b j) g y.v := by
  intro y hy hoy g hs
  cases g with
  | false => exact shp_commit h hx hy ho hoy (by simpa [Shp'] using hs)
  | true =>
   have hs' : ShpG w C y.v := by simpa [Shp'] using hs
   show ShpG w _ y.v
   refine hs'.mono fun b hb' j hj => ?_
   rcases hj with hj | hj
   ·exact hj
   ·have := h.one hx hy (hblk b j hj) (own_of hoy hb')
    subst this
    exact (InC_grown hs' hj).elim
 have hcell : ∀ y, y ∈ cellsAll S X → COk E w C S X y → COk E w (fun b j => C b j ∨ InC x.v b j) S X y := by
  intro y hy hk
  obtain ⟨v, f⟩ := y
  cases f with
  | ow g => exact ⟨hk.1, hshp' hy rfl g hk.2.1, hk.2.2⟩
  | nw g => exact ⟨hk.1, hshp' hy rfl g hk.2.1, hk.2.2⟩
  | mp i => exact ⟨shp_commit h hx hy ho rfl hk.1, hk.2.1, hk.2.2⟩
  | cp ck s c ix => exact ⟨hk.1, hrd hk.2.1, hk.2.2⟩
  | fr => exact ⟨hk.1, hrd hk.2.1, hk.2.2⟩
  | no => exact ⟨hk.1, hrd hk.2⟩
  | os n =>
   refine ⟨hk.1, hrd hk.2.1, hk.2.2.1, hk.2.2.2.mono (fun b hb j hj => ?_) (fun _ _ => rfl)⟩
   rcases hj with hj | hj
   ·exact hj
   ·have := h.one hx hy (hblk b j hj) (own_os rfl hb)
    rw [this] at ho; simp [owns] at ho
  | ap s c ix =>
   refine ⟨hk.1, hk.2.1, fun y hy hg => ⟨(hk.2.2 y hy hg).1, (hk.2.2 y hy hg).2.imp (fun hn b hb => ⟨(hn b hb).1, fun j hj => ?_⟩) id⟩⟩
   rcases hj with hj | hj
   ·exact (hn b hb).2 j hj
   ·refine (hn b hb).1 ?_
    rw [← List.count_pos_iff, count_ownAll]
    have := List.count_pos_iff.2 (List.mem_flatMap.2 ⟨x, hx, hblk b j hj⟩)
    omega
  | _ => exact hk
 refine ⟨h.len, h.tsz, h.nodef, h.slv, h.high, h.emp, h.lock, h.noap, ?_, ?_, ?_, ?_, h.cnt, fun b j ho => .inl (h.olt b j ho), ?_, ?_, h.ownlt⟩
 ·intro i s t hs hk
  obtain ⟨b, T, h1, h2, h3⟩ := h.box i s t hs hk
  refine ⟨b, T, h1, h2, fun j hj => ?_, h3.2⟩
  rcases hj with hj | hj
  ·exact h3.1 j hj
  ·exact h.boxApart hs (b := b) (by simp [Sl.boxOwn, hk, h1]) hx (hblk b j hj)
 ·intro i s t src ix hs hk
  obtain ⟨b, o, h1, h2, h3⟩ := h.ept i s t src ix hs hk
  exact ⟨b, o, h1, fun j y hy => ⟨.inl (h2 j y hy).1, (h2 j y hy).2⟩, h3⟩
 ·intro i s hs y hy
  exact hcell y (mem_cellsAll hs hy) (h.cells i s hs y hy)
 ·intro y hy
  exact hcell y (mem_hand hy) (h.hand y hy)
 ·intro b j hj
  rcases hj with hj | hj
  ·exact h.clt b j hj
  ·have : b ∈ ownAll S X := by
    rw [← List.count_pos_iff, count_ownAll]
    have := List.count_pos_iff.2 (List.mem_flatMap.2 ⟨x, hx, hblk b j hj⟩)
    omega
   exact (h.ownlt b this).1
 ·intro b j hj
  rcases hj with hj | hj
  ·exact h.cbase b j hj
  ·have hk := COk.own_base (h.ok x hx) ho b hj.blk
   exact hk.imp id .inr
end Go.Vm
end
section
namespace Go.Vm
section
variable {E : Env} {S : StA} {X : List (Cell Tg)} {C : Nat → Nat → Prop} {a : Act} {w : World}
theorem Less.hand (zs : List (Cell Tg)) (hz : ∀ z ∈ zs, hold z.f = false) : Less S S X (zs ++ X) := by
 refine ⟨fun b => ?_, fun _ _ h => h, fun s c y _ hy _ => ⟨y, hy, rfl, rfl⟩⟩
 have : zs.flatMap Cell.own = [] := by
  rw [List.flatMap_eq_nil_iff]
  intro z hm
  simp [Cell.own, hz z hm]
 simp [ownAll, List.flatMap_append, this]
theorem Less.drop {z : Cell Tg} : Less S S (z :: X) X := by
 refine ⟨fun b => ?_, fun _ _ h => h, fun s c y _ hy _ => ⟨y, hy, rfl, rfl⟩⟩
 simp only [ownAll, List.flatMap_cons, List.count_append]; omega
theorem Inv.rehand (h : Inv E S X C a w) {X' : List (Cell Tg)} (hl : Less S S X X') (hz : ∀ z ∈ X', COk E w C S X z) (hap : ∀ z ∈ X', (∀ p q r, z.f ≠ .ap p q r) ∨ z ∈ X) : Inv E S X' C a w := by
 refine ⟨h.len, h.tsz, h.nodef, h.slv, h.high, h.emp, h.lock, ?_, h.box, ?_, ?_, ?_, ?_, h.olt, h.clt, h.cbase, fun b hb => h.ownlt b (hl.mem hb)⟩
 ·intro l hl' hd
  obtain ⟨h1, h2⟩ := h.noap l hl' hd
  refine ⟨h1, fun y hy => ?_⟩
  rcases hap y hy with h3 | h3
  ·exact h3
  ·exact h2 y h3
 ·exact fun i s t src ix hs hk => (h.ept i s t src ix hs hk).less hl
 ·exact fun i s hs x hx => (h.cells i s hs x hx).less hl
 ·exact fun x hx => (hz x hx).less hl
 ·exact fun b => Nat.le_trans (hl.own b) (h.cnt b)
theorem Inv.add (h : Inv E S X C a w) {z : Cell Tg} (ho : hold z.f = false) (hap : ∀ p q r, z.f ≠ .ap p q r) (hz : COk E w C S X z) : Inv E S (z :: X) C a w :=
 h.rehand (Less.hand [z] (by simpa using ho)) (fun _ hy => by
  rcases List.mem_cons.1 hy with rfl | hy
  ·exact hz
  ·exact h.hand _ hy) (fun _ hy => by
  rcases List.mem_cons.1 hy with rfl | hy
  ·exact .inl hap
  ·exact .inr hy)
theorem Inv.drop {z : Cell Tg} (h : Inv E S (z :: X) C a w) : Inv E S X C a w :=
 h.rehand Less.drop (fun _ hy => h.hand _ (List.mem_cons_of_mem _ hy)) (fun _ hy => .inr (List.mem_cons_of_mem _ hy))
theorem Inv.dropAll : ∀ {zs : List (Cell Tg)}, Inv E S (zs ++ X) C a w → Inv E S X C a w
 | [], h => h
 | _ :: _, h => Inv.dropAll (Inv.drop h)
theorem grown_rd {v : A} {R : Nat → Nat → Prop} (h : ShpG w C v) : Rd E.sid w R v := by
 obtain ⟨b, cap, cur, e, rfl, _⟩ := h
 exact .row _ _ (by simp) (by simp) (by simp) (by simp)
theorem left_ok (h : Inv E S X C a w) {x : Cell Tg} (hx : x ∈ cellsAll S X) {g : Bool} (ho : owns x.f = true) (hr : isRow x.v = true) (hs : Shp' E.sid w C g x.v) (hb : ∀ b ∈ x.v.blks, E.base ≤ b)
  (X' : List (Cell Tg)) (S' : StA) : COk E w (fun b j => C b j ∨ InC x.v b j) S' X' ⟨x.v, leftFl g⟩ := by
 cases g with
 | false =>
  have hs' : Shp E.sid w C x.v := by simpa [Shp'] using hs
  have hnd := h.nodupOwn hx ho
  refine ⟨hr, hs'.rd.mono (fun _ _ => .inr) (fun _ _ _ => rfl), ?_, hnd, hb⟩
  exact hs'.mono (fun _ _ _ hj => hj.elim) (fun _ _ => rfl)
 | true => exact ⟨hr, grown_rd (C := C) (by simpa [Shp'] using hs)⟩
def Taken : Fl → Bool
 | .sc | .sp _ _ | .sh | .nl | .ow _ | .mp _ | .fr | .no | .os false => true
 | _ => false
theorem taken_noap {f : Fl} (h : Taken f = true) : ∀ p q r, f ≠ .ap p q r := by rintro p q r rfl; simp [Taken] at h
theorem Inv.give (h : Inv E S X C a w) {s c : Nat} {x : Cell Tg} (hx : cellAt S s c = some x) {g : Bool} (hf : x.f = .ow g ∨ x.f = .nw g) :
  Inv E (setFlA S s c (leftFl g)) (⟨x.v, .ow g⟩ :: X) (fun b j => C b j ∨ InC x.v b j) a w := by
 obtain ⟨sl, hs, hc⟩ := cellAt_some hx
 have hm : x ∈ cellsAll S X := mem_cellsAll hs (List.mem_of_getElem? hc)
 have ho : owns x.f = true := by rcases hf with hf | hf <;> rw [hf] <;> rfl
 have hk := h.ok x hm
 have hk' : isRow x.v = true ∧ Shp' E.sid w C g x.v ∧ ∀ b ∈ x.v.blks, E.base ≤ b := by
  obtain ⟨v, f⟩ := x
  rcases hf with hf | hf <;> (simp only at hf; subst hf; exact hk)
 have h' := h.commit hm ho
 have hk2 := h'.ok x hm
 have hz : COk E w (fun b j => C b j ∨ InC x.v b j) S X ⟨x.v, .ow g⟩ := by
  obtain ⟨v, f⟩ := x
  rcases hf with hf | hf <;> (simp only at hf; subst hf; exact hk2)
 refine h'.reflag hx (leftFl g) [⟨x.v, .ow g⟩] (by cases g <;> rfl) (left_ok h hm ho hk'.1 hk'.2.1 hk'.2.2 _ _) (by simpa using hz) (fun b => ?_) (by cases g <;> simp [leftFl]) (by simp)
 have e1 : (⟨x.v, .ow g⟩ : Cell Tg).own = x.v.blks := own_blks rfl
 simp [own_blks ho, e1]
theorem Inv.giveMp (h : Inv E S X C a w) {s c : Nat} {x : Cell Tg} (hx : cellAt S s c = some x) {i : Nat} (hf : x.f = .mp i) :
  Inv E (setFlA S s c .no) (⟨x.v, .mp i⟩ :: X) (fun b j => C b j ∨ InC x.v b j) a w := by
 obtain ⟨sl, hs, hc⟩ := cellAt_some hx
 have hm : x ∈ cellsAll S X := mem_cellsAll hs (List.mem_of_getElem? hc)
 have ho : owns x.f = true := by rw [hf]; rfl
 have h' := h.commit hm ho
 have hk2 := h'.ok x hm
 obtain ⟨v, f⟩ := x
 simp only at hf; subst hf
 obtain ⟨h1, ⟨t, es, h2, h3⟩, h4⟩ := hk2
 have hrd : Rd E.sid w (fun b j => C b j ∨ InC v b j) v := (h1.rd).mono (fun _ _ => .inr) (fun _ _ _ => rfl)
 refine h'.reflag hx .no [⟨v, .mp i⟩] rfl ⟨by rw [h2]; rfl, hrd⟩ ?_ (fun b => ?_) (by simp) (by simp)
 ·intro z hz
  rw [List.mem_singleton] at hz
  subst hz
  exact ⟨h1, ⟨t, es, h2, h3⟩, h4⟩
 ·simp [Cell.own, Go.Vm.hold, isOs, owns]
theorem Inv.giveOs (h : Inv E S X C a w) {s c : Nat} {x : Cell Tg} (hx : cellAt S s c = some x) {n : Bool} (hf : x.f = .os n) :
  Inv E (setFlA S s c .no) (⟨x.v, .os false⟩ :: X) C a w := by
 obtain ⟨sl, hs, hc⟩ := cellAt_some hx
 have hk := h.ok x (mem_cellsAll hs (List.mem_of_getElem? hc))
 obtain ⟨v, f⟩ := x
 simp only at hf; subst hf
 refine h.reflag hx .no [⟨v, .os false⟩] rfl ⟨hk.1, hk.2.1⟩ (fun z hz => ?_) (fun b => ?_) (by simp) (by simp)
 ·rw [List.mem_singleton] at hz
  subst hz
  exact hk
 ·simp [Cell.own, Go.Vm.hold, isOs, owns]
theorem giveUp_run {s c : Nat} {f : Fl} {st st' : St} {u : Unit} (h : (giveUp s c f).run st = some (u, st')) : ∃ sl, st[s]? = some sl ∧ st' = st.set s (setFl sl c f) := by
 unfold giveUp at h
 obtain ⟨sl, st1, h1, h2⟩ := FM.bind_some h
 obtain ⟨h3, rfl⟩ := getS_run h1
 exact ⟨sl, h3, (setS_run h2).2⟩
theorem takeCell_lift (h : Inv E S X C a w) {s c : Nat} {x : Cell Tg} (hx : cellAt S s c = some x) {y : Cell Unit} {st1 : St} (hr : (takeCell s c x.er).run (erS S) = some (y, st1)) :
  ∃ S1 C1 z, erS S1 = st1 ∧ z.er = y ∧ z.v = x.v ∧ Taken z.f = true ∧ Inv E S1 (z :: X) C1 a w ∧ Same S S1 ∧ ∀ b j, C b j → C1 b j := by
 obtain ⟨sl, hs, hc⟩ := cellAt_some hx
 have hm : x ∈ cellsAll S X := mem_cellsAll hs (List.mem_of_getElem? hc)
 have hk := h.ok x hm
 have hself : Same S S := ⟨rfl, fun i s' hs' => ⟨s', hs', rfl, rfl⟩⟩
 have plain : ∀ f : Fl, Taken f = true → hold f = false → COk E w C S X ⟨x.v, f⟩ → y = ⟨x.v.er, f⟩ → st1 = erS S →
   ∃ S1 C1 z, erS S1 = st1 ∧ z.er = y ∧ z.v = x.v ∧ Taken z.f = true ∧ Inv E S1 (z :: X) C1 a w ∧ Same S S1 ∧ ∀ b j, C b j → C1 b j := by
  rintro f ht ho hok rfl rfl
  exact ⟨S, C, ⟨x.v, f⟩, rfl, rfl, rfl, ht, h.add ho (taken_noap ht) hok, hself, fun _ _ hh => hh⟩
 have give : ∀ g : Bool, (x.f = .ow g ∨ x.f = .nw g) → ((giveUp s c (leftFl g)).bind fun _ => FM.ret (⟨x.v.er, Fl.ow g⟩ : Cell Unit)).run (erS S) = some (y, st1) →
   ∃ S1 C1 z, erS S1 = st1 ∧ z.er = y ∧ z.v = x.v ∧ Taken z.f = true ∧ Inv E S1 (z :: X) C1 a w ∧ Same S S1 ∧ ∀ b j, C b j → C1 b j := by
  intro g hf hr
  obtain ⟨u, st2, h1, h2⟩ := FM.bind_some hr
  obtain ⟨rfl, rfl⟩ := ret_run h2
  obtain ⟨sl', h3, rfl⟩ := giveUp_run h1
  rw [erS_get, hs] at h3
  simp only [Option.map_some, Option.some.injEq] at h3
  subst h3
  exact ⟨_, _, ⟨x.v, .ow g⟩, setFlA_er hs hc, rfl, rfl, rfl, h.give hx hf, same_setFlA hx, fun _ _ => .inl⟩
 obtain ⟨v, f⟩ := x
 cases f with
 | sc => obtain ⟨rfl, rfl⟩ := ret_run hr; exact plain .sc rfl rfl hk rfl rfl
 | sp p q => obtain ⟨rfl, rfl⟩ := ret_run hr; exact plain (.sp p q) rfl rfl hk rfl rfl
 | sh => obtain ⟨rfl, rfl⟩ := ret_run hr; exact plain .sh rfl rfl hk rfl rfl
 | nl => obtain ⟨rfl, rfl⟩ := ret_run hr; exact plain .nl rfl rfl hk rfl rfl
 | fr => obtain ⟨rfl, rfl⟩ := ret_run hr; exact plain .fr rfl rfl hk rfl rfl
 | no => obtain ⟨rfl, rfl⟩ := ret_run hr; exact plain .no rfl rfl hk rfl rfl
 | dd => simp [takeCell, Cell.er, FM.run] at hr
 | ap p q r => simp [takeCell, Cell.er, FM.run] at hr
 | ow g => exact give g (.inl rfl) hr
 | nw g => exact give g (.inr rfl) hr
 | os n =>
  simp only [takeCell, Cell.er] at hr
  obtain ⟨u, st2, h1, h2⟩ := FM.bind_some hr
  obtain ⟨rfl, rfl⟩ := ret_run h2
  obtain ⟨sl', h3, rfl⟩ := giveUp_run h1
  rw [erS_get, hs] at h3
  simp only [Option.map_some, Option.some.injEq] at h3
  subst h3
  exact ⟨_, _, ⟨v, .os false⟩, setFlA_er hs hc, rfl, rfl, rfl, h.giveOs hx rfl, same_setFlA hx, fun _ _ hh => hh⟩
 | mp i =>
  simp only [takeCell, Cell.er] at hr
  obtain ⟨u, st2, h1, h2⟩ := FM.bind_some hr
  obtain ⟨rfl, rfl⟩ := ret_run h2
  obtain ⟨sl', h3, rfl⟩ := giveUp_run h1
  rw [erS_get, hs] at h3
  simp only [Option.map_some, Option.some.injEq] at h3
  subst h3
  exact ⟨_, _, ⟨v, .mp i⟩, setFlA_er hs hc, rfl, rfl, rfl, h.giveMp hx rfl, same_setFlA hx, fun _ _ => .inl⟩
 | cp ck p q ix =>
  have hno : COk E w C S X ⟨v, .no⟩ := ⟨hk.1, hk.2.1⟩
  have hck : COk E w C S X ⟨v, ckFl ck⟩ := by
   cases ck with
   | own => exact ⟨hk.1, hk.2.1, hk.2.2.2 rfl⟩
   | grn => exact hno
   | chg => exact hno
   | spn => exact hno
  have ht : Taken (ckFl ck) = true := by cases ck <;> rfl
  have ho : hold (ckFl ck) = false := by cases ck <;> rfl
  cases ix with
  | some ix =>
   have hr' : (FM.ret (⟨v.er, ckFl ck⟩ : Cell Unit)).run (erS S) = some (y, st1) := by
    cases ck <;> exact hr
   obtain ⟨rfl, rfl⟩ := ret_run hr'
   exact plain _ ht ho hck rfl rfl
  | none =>
   by_cases hc' : ck = .chg
   ·subst hc'
    simp only [takeCell, Cell.er] at hr
    obtain ⟨rfl, rfl⟩ := ret_run hr
    exact plain .no rfl rfl hno rfl rfl
   ·have hr' : ((getS p).bind fun sl => match flAt sl q with
      | some (.ow g) => (setS p (setFl sl q (leftFl g))).bind fun _ => .ret (⟨v.er, .ow g⟩ : Cell Unit)
      | some (.os false) => (setS p (setFl sl q .no)).bind fun _ => .ret (⟨v.er, .os false⟩ : Cell Unit)
      | _ => .ret ⟨v.er, ckFl ck⟩).run (erS S) = some (y, st1) := by
     cases ck with
     | chg => exact absurd rfl hc'
     | own => exact hr
     | grn => exact hr
     | spn => exact hr
    obtain ⟨sl', st2, h1, h2⟩ := FM.bind_some hr'
    obtain ⟨h3, rfl⟩ := getS_run h1
    obtain ⟨slA, hA, rfl⟩ := erS_some h3
    split at h2
    ·rename_i g hfl
     obtain ⟨u, st3, h4, h5⟩ := FM.bind_some h2
     obtain ⟨rfl, rfl⟩ := ret_run h5
     have h6 := (setS_run h4).2
     subst h6
     simp only [flAt, er_cells, List.getElem?_map, Option.map_map, Option.map_eq_some_iff] at hfl
     obtain ⟨z, hz, hzf⟩ := hfl
     have hzf' : z.f = .ow g := hzf
     have hzat := cellAt_of hA hz
     have hzv : z.v = v := hk.2.2.1.2 z hzat (.inl ⟨g, hzf'⟩)
     refine ⟨_, _, ⟨z.v, .ow g⟩, setFlA_er hA hz, by rw [hzv]; rfl, hzv, rfl, h.give hzat (.inl hzf'), same_setFlA hzat, fun _ _ => .inl⟩
    ·rename_i hfl
     obtain ⟨u, st3, h4, h5⟩ := FM.bind_some h2
     obtain ⟨rfl, rfl⟩ := ret_run h5
     have h6 := (setS_run h4).2
     subst h6
     simp only [flAt, er_cells, List.getElem?_map, Option.map_map, Option.map_eq_some_iff] at hfl
     obtain ⟨z, hz, hzf⟩ := hfl
     have hzf' : z.f = .os false := hzf
     have hzat := cellAt_of hA hz
     have hzv : z.v = v := hk.2.2.1.2 z hzat (.inr (.inr ⟨hzf', rfl⟩))
     refine ⟨_, _, ⟨z.v, .os false⟩, setFlA_er hA hz, by rw [hzv]; rfl, hzv, rfl, h.giveOs hzat hzf', same_setFlA hzat, fun _ _ hh => hh⟩
    ·obtain ⟨rfl, rfl⟩ := ret_run h2
     exact plain _ ht ho hck rfl rfl
end
end Go.Vm
end
section
namespace Go.Vm
structure Fits (E : Env) (cx : Cx) : Prop where
 P : cx.P = E.P
 nt : cx.nt = E.nt
 fn : ∀ f g, cx.canon f = some g → E.sid g = f
 mixed : E.P.follows .mixedOrders = true
def cA : V → A
 | .int k n => .int k n
 | .bool b => .bool b
 | .str s => .str s
 | .row _ _ => .row ⟨none, 0, 0⟩ []
 | .ptr _ _ => .bool false
 | .fn _ _ => .bool false
theorem constV_cA {sid : Nat → Nat} {x : Value} {v : V} (h : constV x = some v) :
  (cA v).er = v ∧ (cA v).val sid = x ∧ (scal (cA v) = true ∨ cA v = .row ⟨none, 0, 0⟩ []) ∧ isRow v = isRow (cA v) ∧ (scal (cA v) = true ↔ isRow v = false) := by
 cases x with
 | int k n => simp only [constV, Option.some.injEq] at h; subst h; simp [cA, VA.er, VA.val, scal, isRow]
 | bool b => simp only [constV, Option.some.injEq] at h; subst h; simp [cA, VA.er, VA.val, scal, isRow]
 | string s => simp only [constV, Option.some.injEq] at h; subst h; simp [cA, VA.er, VA.val, scal, isRow]
 | slice a len cap =>
  unfold constV at h
  split at h <;> simp_all
  rename_i heq
  obtain ⟨rfl, rfl, rfl⟩ := heq
  subst h
  simp [cA, VA.er, VA.val, scal, isRow, erR]
 | _ => simp [constV] at h
def constCellA (v : V) : Cell Tg := ⟨cA v, if isRow v then .nl else .sc⟩
theorem constCellA_ok {E : Env} {w : World} {C : Nat → Nat → Prop} {S : StA} {X : List (Cell Tg)} {x : Value} {v : V} (h : constV x = some v) :
  (constCellA v).er = constCell v ∧ COk E w C S X (constCellA v) ∧ hold (constCellA v).f = false ∧ Taken (constCellA v).f = true ∧ (constCellA v).v.val E.sid = x := by
 obtain ⟨h1, h2, h3, h4, h5⟩ := constV_cA (sid := E.sid) h
 unfold constCellA
 cases hr : isRow v with
 | true =>
  have hs : scal (cA v) ≠ true := by intro hs; rw [h5] at hs; rw [hs] at hr; cases hr
  refine ⟨by simp [Cell.er, h1, constCell, hr], ⟨0, h3.resolve_left hs⟩, rfl, rfl, h2⟩
 | false =>
  refine ⟨by simp [Cell.er, h1, constCell, hr], h5.2 hr, rfl, rfl, h2⟩
theorem mapO_some {α β : Type} {f : α → Option β} : ∀ {l : List α} {r : List β}, mapO f l = some r → r.length = l.length ∧ ∀ (i : Nat) (x : α), l[i]? = some x → ∃ y, r[i]? = some y ∧ f x = some y
 | [], r, h => by simp [mapO] at h; subst h; simp
 | a :: l, r, h => by
  unfold mapO at h
  cases h1 : f a with
  | none => simp [h1] at h
  | some y => cases h2 : mapO f l with
   | none => simp [h1, h2] at h
   | some ys =>
    simp [h1, h2] at h; subst h
    obtain ⟨e1, e2⟩ := mapO_some h2
    refine ⟨by simp [e1], fun i x hx => ?_⟩
    cases i with
    | zero => simp at hx; subst hx; exact ⟨y, rfl, h1⟩
    | succ i => exact e2 i x (by simpa using hx)
section
variable {E : Env} {cx : Cx} {S : StA} {X : List (Cell Tg)} {C : Nat → Nat → Prop} {a : Act} {w : World}
theorem constCells_ok : ∀ {xs : List Value} {cs : List V}, mapO constV xs = some cs →
  (cs.map constCellA).map Cell.er = cs.map constCell ∧ (∀ z ∈ cs.map constCellA, COk E w C S X z ∧ hold z.f = false ∧ Taken z.f = true) ∧ (cs.map constCellA).map (·.v.val E.sid) = xs
 | [], cs, h => by simp [mapO] at h; subst h; simp
 | x :: xs, cs, h => by
  unfold mapO at h
  cases h1 : constV x with
  | none => simp [h1] at h
  | some y => cases h2 : mapO constV xs with
   | none => simp [h1, h2] at h
   | some ys =>
    simp [h1, h2] at h; subst h
    obtain ⟨e1, e2, e3⟩ := constCells_ok h2
    obtain ⟨k1, k2, k3, k4, k5⟩ := constCellA_ok (E := E) (w := w) (C := C) (S := S) (X := X) h1
    refine ⟨by simp [k1, e1], fun z hz => ?_, by simp [k5, e3]⟩
    simp only [List.map_cons, List.mem_cons] at hz
    rcases hz with rfl | hz
    ·exact ⟨k2, k3, k4⟩
    ·exact e2 z hz
inductive OpR (E : Env) (S : StA) (w : World) (C : Nat → Nat → Prop) (X : List (Cell Tg)) (v : Value) : Opd → SA → Prop
 | slot (i : Nat) (s : SA) (hi : i < E.nt) (hs : S[i]? = some s) (hv : SlV E.sid S s v) : OpR E S w C X v (.t i) s
 | const (agg : Bool) (cs : List V) (s : SA) (hk : s.k = if agg then .agg else .val) (he : s.er = ⟨if agg then .agg else .val, cs.map constCell⟩)
   (hok : ∀ z ∈ s.cs, COk E w C S X z ∧ hold z.f = false ∧ Taken z.f = true)
   (hv : v = if agg then .agg (s.cs.map (·.v.val E.sid)).toArray else (s.cs.map (·.v.val E.sid)).headD undef) (h1 : agg = false → ∃ z, s.cs = [z]) : OpR E S w C X v (.c agg cs) s
 | fn (g : Nat) (hv : v = .func (.func (E.sid g)) #[] #[]) : OpR E S w C X v (.f g) ⟨.val, [⟨.fn g [], .sh⟩]⟩
theorem opd_lift (hf : Fits E cx) (h : Inv E S X C a w) {ox : Operand} {x : Opd} (hc : cOpd cx ox = some x) {sl : SU} {st1 : St} (hr : (opd x).run (erS S) = some (sl, st1)) :
  st1 = erS S ∧ ∃ s : SA, s.er = sl ∧ OpR E S w C X (a.eval ox) x s := by
 cases ox with
 | tmp t =>
  simp only [cOpd] at hc
  split at hc
  ·rename_i ht
   simp only [Option.some.injEq] at hc; subst hc
   obtain ⟨h1, rfl⟩ := getS_run hr
   obtain ⟨s, hs, rfl⟩ := erS_some h1
   have ht' : t < E.nt := hf.nt ▸ ht
   exact ⟨rfl, s, rfl, .slot t s ht' hs (h.slv t s ht' hs)⟩
  ·cases hc
 | const v =>
  by_cases hagg : ∃ cs, v = .agg cs
  ·obtain ⟨cs, rfl⟩ := hagg
   simp only [cOpd, Option.map_eq_some_iff] at hc
   obtain ⟨vs, h1, rfl⟩ := hc
   obtain ⟨rfl, rfl⟩ := ret_run hr
   obtain ⟨e1, e2, e3⟩ := constCells_ok (E := E) (w := w) (C := C) (S := S) (X := X) h1
   refine ⟨rfl, ⟨.agg, vs.map constCellA⟩, by simp [Sl.er, Kd.er, e1], .const true vs _ rfl (by simp [Sl.er, Kd.er, e1]) e2 ?_ (by simp)⟩
   simp only [Act.eval, if_true, e3]
  ·have hc' : (constV v).map (fun v => Opd.c false [v]) = some x := by
    cases v with
    | agg cs => exact absurd ⟨cs, rfl⟩ hagg
    | _ => exact hc
   simp only [Option.map_eq_some_iff] at hc'
   obtain ⟨u, h1, rfl⟩ := hc'
   obtain ⟨rfl, rfl⟩ := ret_run hr
   obtain ⟨k1, k2, k3, k4, k5⟩ := constCellA_ok (E := E) (w := w) (C := C) (S := S) (X := X) h1
   refine ⟨rfl, ⟨.val, [constCellA u]⟩, by simp [Sl.er, Kd.er, k1], .const false [u] _ rfl (by simp [Sl.er, Kd.er, k1]) ?_ ?_ (fun _ => ⟨_, rfl⟩)⟩
   ·intro z hz
    rw [List.mem_singleton] at hz
    subst hz
    exact ⟨k2, k3, k4⟩
   ·simp [Act.eval, k5]
 | global g => simp [cOpd] at hc
 | func f =>
  simp only [cOpd, Option.map_eq_some_iff] at hc
  obtain ⟨g, h1, rfl⟩ := hc
  obtain ⟨rfl, rfl⟩ := ret_run hr
  refine ⟨rfl, ⟨.val, [⟨.fn g [], .sh⟩]⟩, by simp [Sl.er, Kd.er, Cell.er, VA.er, erL], .fn g ?_⟩
  simp [Act.eval, hf.fn f g h1]
theorem Same.trans {S₁ S₂ S₃ : StA} (h : Same S₁ S₂) (k : Same S₂ S₃) : Same S₁ S₃ :=
 ⟨k.len.trans h.len, fun i s hs => by
  obtain ⟨t, ht, e1, e2⟩ := k.slot i s hs
  obtain ⟨u, hu, e3, e4⟩ := h.slot i t ht
  exact ⟨u, hu, e1.trans e3, e2.trans e4⟩⟩
theorem Same.to {S S' : StA} (h : Same S S') {i : Nat} {s : SA} (hs : S[i]? = some s) : ∃ s', S'[i]? = some s' ∧ s'.k = s.k ∧ s'.cs.map (·.v) = s.cs.map (·.v) := by
 have hlt : i < S'.length := by rw [h.len]; exact (List.getElem?_eq_some_iff.1 hs).1
 obtain ⟨t, ht, h1, h2⟩ := h.slot i S'[i] (List.getElem?_eq_getElem hlt)
 rw [hs] at ht
 obtain rfl := Option.some.inj ht
 exact ⟨_, List.getElem?_eq_getElem hlt, h1, h2⟩
theorem Less.perm {X X' : List (Cell Tg)} (h : X.Perm X') : Less S S X X' :=
 ⟨fun b => by
  simp only [ownAll, List.count_append]
  have := (h.flatMap_right Cell.own).count_eq b
  omega, fun _ _ h => h, fun s c y _ hy _ => ⟨y, hy, rfl, rfl⟩⟩
theorem Inv.perm (h : Inv E S X C a w) {X' : List (Cell Tg)} (hp : X.Perm X') : Inv E S X' C a w :=
 h.rehand (Less.perm hp) (fun _ hz => h.hand _ (hp.mem_iff.2 hz)) (fun _ hz => .inr (hp.mem_iff.2 hz))
theorem takeCells_lift {s : Nat} : ∀ (n c : Nat) {S : StA} {X : List (Cell Tg)} {C : Nat → Nat → Prop} {ys : List (Cell Unit)} {st1 : St}, Inv E S X C a w →
  (takeCells s n c).run (erS S) = some (ys, st1) →
  ∃ S1 C1 zs, erS S1 = st1 ∧ zs.map Cell.er = ys ∧ (∀ z ∈ zs, Taken z.f = true) ∧ Inv E S1 (zs ++ X) C1 a w ∧ Same S S1 ∧ (∀ b j, C b j → C1 b j) ∧
   (∀ sl, S[s]? = some sl → zs.map (·.v) = ((sl.cs.drop c).take n).map (·.v)) ∧ zs.length = n
 | 0, c, S, X, C, ys, st1, h, hr => by
  obtain ⟨rfl, rfl⟩ := ret_run hr
  exact ⟨S, C, [], rfl, rfl, by simp, h, ⟨rfl, fun i s' hs' => ⟨s', hs', rfl, rfl⟩⟩, fun _ _ hh => hh, by simp, rfl⟩
 | n + 1, c, S, X, C, ys, st1, h, hr => by
  unfold takeCells at hr
  obtain ⟨slU, st2, h1, h2⟩ := FM.bind_some hr
  obtain ⟨h3, rfl⟩ := getS_run h1
  obtain ⟨sl, hs, rfl⟩ := erS_some h3
  split at h2
  ·rename_i xU hxU
   rw [er_cells, List.getElem?_map, Option.map_eq_some_iff] at hxU
   obtain ⟨x, hx, rfl⟩ := hxU
   obtain ⟨y, st3, h4, h5⟩ := FM.bind_some h2
   obtain ⟨yr, st4, h6, h7⟩ := FM.bind_some h5
   obtain ⟨rfl, rfl⟩ := ret_run h7
   obtain ⟨S1, C1, z, rfl, rfl, hzv, ht, hi, hsm, hC⟩ := takeCell_lift h (cellAt_of hs hx) h4
   obtain ⟨S2, C2, zs, rfl, rfl, ht2, hi2, hsm2, hC2, hv2, hl2⟩ := takeCells_lift n (c + 1) hi h6
   refine ⟨S2, C2, z :: zs, rfl, rfl, ?_, hi2.perm ?_, hsm.trans hsm2, fun b j hh => hC2 b j (hC b j hh), ?_, by simp [hl2]⟩
   ·intro y hy
    rcases List.mem_cons.1 hy with rfl | hy
    ·exact ht
    ·exact ht2 y hy
   ·exact List.perm_middle
   ·intro sl' hs'
    rw [hs] at hs'
    obtain rfl := Option.some.inj hs'
    obtain ⟨sl1, hsl1, _, hvv⟩ := hsm.to hs
    have := hv2 sl1 hsl1
    simp only [List.map_cons, this, hzv]
    have hlt := (List.getElem?_eq_some_iff.1 hx).1
    rw [List.drop_eq_getElem_cons hlt, List.take_succ_cons, List.map_cons, (List.getElem?_eq_some_iff.1 hx).2]
    congr 1
    rw [List.map_take, List.map_drop, hvv, ← List.map_drop, ← List.map_take]
  ·simp [FM.run] at h2
theorem take_lift (hf : Fits E cx) (h : Inv E S X C a w) {ox : Operand} {x : Opd} (hc : cOpd cx ox = some x) {y : Bool × List (Cell Unit)} {st1 : St} (hr : (take x).run (erS S) = some (y, st1)) :
  ∃ S1 C1 zs, erS S1 = st1 ∧ zs.map Cell.er = y.2 ∧ (∀ z ∈ zs, Taken z.f = true) ∧ Inv E S1 (zs ++ X) C1 a w ∧ Same S S1 ∧ (∀ b j, C b j → C1 b j) ∧
   (if y.1 then a.eval ox = .agg (zs.map (·.v.val E.sid)).toArray else ∃ z, zs = [z] ∧ a.eval ox = z.v.val E.sid) := by
 unfold take at hr
 obtain ⟨sl, st2, h1, h2⟩ := FM.bind_some hr
 obtain ⟨rfl, s, rfl, ho⟩ := opd_lift hf h hc h1
 obtain ⟨cs, st3, h3, h4⟩ := FM.bind_some h2
 have fin : ∀ {S1 C1 zs}, erS S1 = st3 → zs.map Cell.er = cs → (∀ z ∈ zs, Taken z.f = true) → Inv E S1 (zs ++ X) C1 a w → Same S S1 → (∀ b j, C b j → C1 b j) → zs.map (·.v) = s.cs.map (·.v) →
   (s.k = .val → ∃ z, s.cs = [z] ∧ a.eval ox = z.v.val E.sid) → (s.k = .agg → a.eval ox = .agg (s.cs.map (·.v.val E.sid)).toArray) →
   ∃ S1 C1 zs, erS S1 = st1 ∧ zs.map Cell.er = y.2 ∧ (∀ z ∈ zs, Taken z.f = true) ∧ Inv E S1 (zs ++ X) C1 a w ∧ Same S S1 ∧ (∀ b j, C b j → C1 b j) ∧
   (if y.1 then a.eval ox = .agg (zs.map (·.v.val E.sid)).toArray else ∃ z, zs = [z] ∧ a.eval ox = z.v.val E.sid) := by
  intro S1 C1 zs e1 e2 e3 e4 e5 e6 e7 e8 e9
  subst e1
  rw [er_kind] at h4
  cases hk : s.k with
  | val =>
   rw [hk] at h4
   obtain ⟨rfl, rfl⟩ := ret_run h4
   obtain ⟨z, hz, hv⟩ := e8 hk
   obtain ⟨z', hz', hzv⟩ := map_single e7 hz
   exact ⟨S1, C1, zs, rfl, e2, e3, e4, e5, e6, z', hz', by rw [hv]; exact congrArg _ hzv.symm⟩
  | agg =>
   rw [hk] at h4
   obtain ⟨rfl, rfl⟩ := ret_run h4
   exact ⟨S1, C1, zs, rfl, e2, e3, e4, e5, e6, by simp only [if_true]; rw [e9 hk, map_val e7]⟩
  | _ => rw [hk] at h4; simp [Kd.er, FM.run] at h4
 cases ho with
 | slot i s hi hs hv =>
  obtain ⟨S1, C1, zs, e1, e2, e3, e4, e5, e6, e7, _⟩ := takeCells_lift _ _ h h3
  refine fin e1 e2 e3 e4 e5 e6 ?_ ?_ ?_
  ·rw [e7 s hs, er_cells]; simp
  ·intro hk; unfold SlV at hv; rw [hk] at hv; exact hv
  ·intro hk; unfold SlV at hv; rw [hk] at hv; exact hv
 | const agg vs s hk he hok hv h1' =>
  obtain ⟨rfl, rfl⟩ := ret_run h3
  have hadd : Inv E S (s.cs ++ X) C a w := by
   refine h.rehand (Less.hand s.cs (fun z hz => (hok z hz).2.1)) (fun z hz => ?_) (fun z hz => ?_)
   ·rcases List.mem_append.1 hz with hz | hz
    ·exact (hok z hz).1
    ·exact h.hand z hz
   ·rcases List.mem_append.1 hz with hz | hz
    ·exact .inl (taken_noap (hok z hz).2.2)
    ·exact .inr hz
  refine fin rfl rfl (fun z hz => (hok z hz).2.2) hadd ⟨rfl, fun i s' hs' => ⟨s', hs', rfl, rfl⟩⟩ (fun _ _ hh => hh) rfl ?_ ?_
  ·intro hk'
   cases agg with
   | true => rw [hk] at hk'; simp at hk'
   | false =>
    obtain ⟨z, hz⟩ := h1' rfl
    exact ⟨z, hz, by rw [hv, hz]; simp⟩
  ·intro hk'
   cases agg with
   | false => rw [hk] at hk'; simp at hk'
   | true => simpa using hv
 | fn g hv =>
  obtain ⟨rfl, rfl⟩ := ret_run h3
  have hcok : COk E w C S X ⟨.fn g [], .sh⟩ := .fn g [] (by simp) (by simp)
  refine fin (zs := [⟨.fn g [], .sh⟩]) rfl rfl (by simp [Taken]) (h.add rfl (by simp) hcok) ⟨rfl, fun i s' hs' => ⟨s', hs', rfl, rfl⟩⟩ (fun _ _ hh => hh) rfl ?_ (by simp)
  intro _
  exact ⟨_, rfl, by rw [hv]; simp [VA.val]⟩
end
end Go.Vm
end
section
namespace Go.Vm
structure Grow (w w' : World) : Prop where
 size : w.heap.size ≤ w'.heap.size
 block : ∀ b, b < w.heap.size → w'.heap[b]? = w.heap[b]?
theorem Grow.refl (w : World) : Grow w w := ⟨Nat.le_refl _, fun _ _ => rfl⟩
theorem Grow.trans {w₁ w₂ w₃ : World} (h : Grow w₁ w₂) (k : Grow w₂ w₃) : Grow w₁ w₃ :=
 ⟨Nat.le_trans h.size k.size, fun b hb => (k.block b (Nat.lt_of_lt_of_le hb h.size)).trans (h.block b hb)⟩
theorem cell_same {w w' : World} {b j : Nat} (h : w'.heap[b]? = w.heap[b]?) : w'.cell? ⟨b, j, none⟩ = w.cell? ⟨b, j, none⟩ := by simp [World.cell?, h]
theorem Shp'.lt {sid : Nat → Nat} {w : World} {C : Nat → Nat → Prop} {g : Bool} {v : A} (h : Shp' sid w C g v) : ∀ b ∈ v.blks, b < w.heap.size := by
 cases g with
 | false => exact Shp.lt (by simpa [Shp'] using h)
 | true =>
  have h' : ShpG w C v := by simpa [Shp'] using h
  obtain ⟨b, cap, cur, e, rfl, h2, _⟩ := h'
  intro x hx
  simp [VA.blks, blkR] at hx
  subst hx
  exact (Array.getElem?_eq_some_iff.1 h2).1
theorem Shp'.world {sid : Nat → Nat} {w w' : World} {C C' : Nat → Nat → Prop} {g : Bool} {v : A} (h : Shp' sid w C g v) (hw : ∀ b ∈ v.blks, w'.heap[b]? = w.heap[b]?)
  (hC : ∀ b ∈ v.blks, ∀ j, C' b j → C b j) : Shp' sid w' C' g v := by
 cases g with
 | false =>
  have h' : Shp sid w C v := by simpa [Shp'] using h
  simpa [Shp'] using h'.mono hC hw
 | true =>
  have h' : ShpG w C v := by simpa [Shp'] using h
  obtain ⟨b, cap, cur, e, rfl, h2, h3, h4, h5⟩ := h'
  have hb : b ∈ (VA.row ⟨some ⟨b, 0, none⟩, cap, 1⟩ [] : A).blks := by simp [VA.blks]
  show Shp' sid w' C' true _
  simp only [Shp', if_true]
  exact ⟨b, cap, cur, e, rfl, (hw b hb).trans h2, h3, h4, fun j hj => h5 j (hC b hb j hj)⟩
section
variable {E : Env} {S : StA} {X : List (Cell Tg)} {C : Nat → Nat → Prop} {a : Act} {w w' : World}
theorem Fst.grow {v : A} (h : Fst E w v) (hg : Grow w w') : Fst E w' v :=
 ⟨h.1.mono (fun _ _ _ hj => hj) (fun b hb => hg.block b (h.1.lt b hb)), h.2⟩
theorem COk.grow {x : Cell Tg} (h : COk E w C S X x) (hg : Grow w w') (hclt : ∀ b j, C b j → b < w.heap.size) (holt : ∀ b j, E.old b j → C b j) : COk E w' C S X x := by
 have hrd : ∀ {v : A}, Rd E.sid w C v → Rd E.sid w' C v := fun hr => hr.mono (fun _ _ hh => hh) (fun b j hj => cell_same (hg.block b (hclt b j hj)))
 have hro : ∀ {v : A}, Rd E.sid w E.old v → Rd E.sid w' E.old v := fun hr => hr.mono (fun _ _ hh => hh) (fun b j hj => cell_same (hg.block b (hclt b j (holt b j hj))))
 obtain ⟨v, f⟩ := x
 cases f with
 | sp p q => exact ⟨h.1, hro h.2.1, h.2.2⟩
 | sh => exact hro h
 | ow g => exact ⟨h.1, h.2.1.world (fun b hb => hg.block b (h.2.1.lt b hb)) (fun _ _ _ hj => hj), h.2.2⟩
 | nw g => exact ⟨h.1, h.2.1.world (fun b hb => hg.block b (h.2.1.lt b hb)) (fun _ _ _ hj => hj), h.2.2⟩
 | mp i => exact ⟨h.1.mono (fun _ _ _ hj => hj) (fun b hb => hg.block b (h.1.lt b hb)), h.2⟩
 | cp ck s c ix => exact ⟨h.1, hrd h.2.1, h.2.2.1, fun e => (h.2.2.2 e).grow hg⟩
 | ap s c ix => exact ⟨h.1, h.2.1, fun y hy hyg => ⟨(h.2.2 y hy hyg).1.grow hg, (h.2.2 y hy hyg).2⟩⟩
 | fr => exact ⟨h.1, hrd h.2.1, h.2.2.grow hg⟩
 | no => exact ⟨h.1, hrd h.2⟩
 | os n => exact ⟨h.1, hrd h.2.1, h.2.2.1, h.2.2.2.mono (fun _ _ _ hj => hj) (fun b hb => hg.block b (h.2.2.2.lt b hb))⟩
 | _ => exact h
theorem Inv.grow (h : Inv E S X C a w) (hg : Grow w w') : Inv E S X C a w' := by
 refine ⟨h.len, h.tsz, h.nodef, h.slv, h.high, h.emp, h.lock, h.noap, ?_, ?_, ?_, ?_, h.cnt, h.olt, ?_, h.cbase, ?_⟩
 ·intro i s t hs hk
  obtain ⟨b, T, h1, h2, h3⟩ := h.box i s t hs hk
  exact ⟨b, T, h1, (hg.block b (Array.getElem?_eq_some_iff.1 h2).1).trans h2, h3⟩
 ·intro i s t src ix hs hk
  obtain ⟨b, o, h1, h2, h3⟩ := h.ept i s t src ix hs hk
  exact ⟨b, o, h1, fun j x hx => ⟨(h2 j x hx).1, (cell_same (hg.block b (h.clt b _ (h2 j x hx).1))).trans (h2 j x hx).2⟩, h3⟩
 ·exact fun i s hs x hx => (h.cells i s hs x hx).grow hg h.clt h.olt
 ·exact fun x hx => (h.hand x hx).grow hg h.clt h.olt
 ·exact fun b j hj => Nat.lt_of_lt_of_le (h.clt b j hj) hg.size
 ·exact fun b hb => ⟨Nat.lt_of_lt_of_le (h.ownlt b hb).1 hg.size, (h.ownlt b hb).2⟩
def Free (s : SA) : Prop := (∀ t, s.k ≠ .box t) ∧ ∀ x ∈ s.cs, isRow x.v = false ∧ hold x.f = false
theorem freeS_free (h : Inv E S X C a w) {i : Nat} {s : SA} (hs : S[i]? = some s) (hf : freeS s.er = true) : Free s := by
 unfold freeS at hf
 rw [er_kind] at hf
 cases hk : s.k with
 | dead => exact ⟨by simp [hk], by rw [h.emp i s hs (.inl hk)]; simp⟩
 | und => exact ⟨by simp [hk], by rw [h.emp i s hs (.inr (.inl hk))]; simp⟩
 | val =>
  rw [hk] at hf
  simp only [Kd.er, er_cells, List.all_map, List.all_eq_true] at hf
  refine ⟨by simp [hk], fun x hx => ?_⟩
  have h1 : x.f = .sc := of_decide_eq_true (hf x hx)
  have h2 := h.cells i s hs x hx
  obtain ⟨v, f⟩ := x
  simp only at h1
  subst h1
  have h3 : scal v = true := h2
  exact ⟨by cases v <;> simp_all [scal, isRow], rfl⟩
 | _ => rw [hk] at hf; simp [Kd.er] at hf
theorem free_own {s : SA} (h : Free s) : s.own = [] := by
 unfold Sl.own Sl.boxOwn
 have : s.cs.flatMap Cell.own = [] := by
  rw [List.flatMap_eq_nil_iff]
  intro x hx
  simp [Cell.own, (h.2 x hx).2]
 rw [this]
 cases hk : s.k with
 | box t => exact absurd hk (h.1 t)
 | _ => rfl
theorem cellAt_set {S : StA} {d : Nat} {s : SA} (hd : d < S.length) (p q : Nat) : cellAt (S.set d s) p q = if p = d then s.cs[q]? else cellAt S p q := by
 unfold cellAt
 by_cases hp : p = d
 ·subst hp; simp [hd]
 ·have : ¬ d = p := fun e => hp e.symm
  simp [hp, this]
theorem boxAddr_set {S : StA} {d : Nat} {s o : SA} (ho : S[d]? = some o) (hob : ∀ t, o.k ≠ .box t) (hsb : ∀ t, s.k ≠ .box t) (r : Nat) : boxAddr (S.set d s) r = boxAddr S r := by
 have hd := (List.getElem?_eq_some_iff.1 ho).1
 unfold boxAddr
 by_cases e : d = r
 ·subst e
  rw [List.getElem?_set_self hd, ho]
  obtain ⟨k, cs⟩ := s
  obtain ⟨k', cs'⟩ := o
  simp only at hob hsb
  cases k <;> cases k' <;> first | rfl | exact absurd rfl (hsb _) | exact absurd rfl (hob _)
 ·rw [List.getElem?_set_ne e]
theorem less_put {zs : List (Cell Tg)} {d : Nat} {s o : SA} (ho : S[d]? = some o) (hfree : Free o) (hs : s.cs = zs) (hsb : ∀ t, s.k ≠ .box t) :
  Less S (S.set d s) (zs ++ X) X := by
 have hd := (List.getElem?_eq_some_iff.1 ho).1
 refine ⟨fun b => ?_, fun p q hr => ?_, fun p q y hr hy hf => ?_⟩
 ·have h1 := count_set_flatMap Sl.own b S d o s ho
  rw [free_own hfree] at h1
  have h2 : s.own = zs.flatMap Cell.own := by
   unfold Sl.own Sl.boxOwn
   rw [hs]
   cases hk : s.k with
   | box t => exact absurd hk (hsb t)
   | _ => rfl
  rw [h2] at h1
  simp only [ownAll, List.count_append, List.flatMap_append, List.count_nil] at h1 ⊢
  omega
 ·obtain ⟨y, hy, hyr⟩ := hr
  unfold RowAt
  rw [cellAt_set hd]
  by_cases hp : p = d
  ·subst hp
   obtain ⟨sl, h1, h2⟩ := cellAt_some hy
   rw [ho] at h1
   obtain rfl := Option.some.inj h1
   rw [(hfree.2 y (List.mem_of_getElem? h2)).1] at hyr
   cases hyr
  ·simp only [hp, if_false]
   exact ⟨y, hy, hyr⟩
 ·rw [cellAt_set hd] at hy
  by_cases hp : p = d
  ·subst hp
   obtain ⟨y', hy', hyr⟩ := hr
   obtain ⟨sl, h1, h2⟩ := cellAt_some hy'
   rw [ho] at h1
   obtain rfl := Option.some.inj h1
   rw [(hfree.2 y' (List.mem_of_getElem? h2)).1] at hyr
   cases hyr
  ·simp only [hp, if_false] at hy
   exact ⟨y, hy, rfl, rfl⟩
theorem SlV.set {sid : Nat → Nat} {S S' : StA} (hb : ∀ r, boxAddr S' r = boxAddr S r) {s : SA} {v : Value} (h : SlV sid S s v) : SlV sid S' s v := by
 unfold SlV at h ⊢
 split at h <;> simp_all
theorem Inv.put {zs : List (Cell Tg)} (h : Inv E S (zs ++ X) C a w) {d : Nat} {s o : SA} (hd : d < E.nt) (ho : S[d]? = some o) (hfree : Free o) (hs : s.cs = zs) (hsb : ∀ t, s.k ≠ .box t)
  {v : Value} (hv : SlV E.sid S s v) (hemp : (s.k = .dead ∨ s.k = .und ∨ (∃ r o, s.k = .ptr r o) ∨ ∃ g rs, s.k = .clo g rs) → s.cs = [])
  (hept : ∀ t src ix, s.k = .ept t src ix → EptOk E w C S t src ix s.cs) : Inv E (S.set d s) X C (a.put (some d) v) w := by
 have hdS := (List.getElem?_eq_some_iff.1 ho).1
 have hl : Less S (S.set d s) (zs ++ X) X := less_put ho hfree hs hsb
 have hbox := boxAddr_set ho hfree.1 hsb
 have hget : ∀ {i : Nat} {s' : SA}, (S.set d s)[i]? = some s' → (i = d ∧ s' = s) ∨ (i ≠ d ∧ S[i]? = some s') := by
  intro i s' hi
  rw [List.getElem?_set] at hi
  split at hi
  ·rename_i e; subst e
   simp only [Option.some.injEq] at hi
   exact .inl ⟨rfl, hi.symm⟩
  ·rename_i e
   exact .inr ⟨fun h => e h.symm, hi⟩
 refine ⟨by simp [h.len], by simp [Act.put, h.tsz], h.nodef, ?_, ?_, ?_, ?_, ?_, ?_, ?_, ?_, ?_, ?_, h.olt, h.clt, h.cbase, fun b hb => h.ownlt b (hl.mem hb)⟩
 ·intro i s' hi hs'
  rcases hget hs' with ⟨rfl, rfl⟩ | ⟨hne, hs'⟩
  ·have : (a.put (some i) v).tmps.getD i undef = v := by
    simp [Act.put, h.tsz, hd]
   rw [this]; exact hv.set hbox
  ·have : (a.put (some d) v).tmps.getD i undef = a.tmps.getD i undef := by
    have hne' : ¬ d = i := fun e => hne e.symm
    simp [Act.put, hne']
   rw [this]; exact (h.slv i s' hi hs').set hbox
 ·intro i s' hi hs'
  rcases hget hs' with ⟨rfl, rfl⟩ | ⟨hne, hs'⟩
  ·omega
  ·exact h.high i s' hi hs'
 ·intro i s' hs' hk
  rcases hget hs' with ⟨rfl, rfl⟩ | ⟨hne, hs'⟩
  ·exact hemp hk
  ·exact h.emp i s' hs' hk
 ·intro i s' hi hs' hk
  rcases hget hs' with ⟨rfl, rfl⟩ | ⟨hne, hs'⟩
  ·omega
  ·exact h.lock i s' hi hs' hk
 ·intro l hl' hk
  rcases hget hl' with ⟨e, _⟩ | ⟨hne, hl'⟩
  ·unfold lockS at e; omega
  ·obtain ⟨h1, h2⟩ := h.noap l hl' hk
   refine ⟨fun i s' hs' x hx => ?_, fun x hx => h2 x (List.mem_append.2 (.inr hx))⟩
   rcases hget hs' with ⟨rfl, rfl⟩ | ⟨hne, hs'⟩
   ·exact h2 x (List.mem_append.2 (.inl (hs ▸ hx)))
   ·exact h1 i s' hs' x hx
 ·intro i s' t hs' hk
  rcases hget hs' with ⟨rfl, rfl⟩ | ⟨hne, hs'⟩
  ·exact absurd hk (hsb t)
  ·exact h.box i s' t hs' hk
 ·intro i s' t src ix hs' hk
  rcases hget hs' with ⟨rfl, rfl⟩ | ⟨hne, hs'⟩
  ·exact (hept t src ix hk).less hl
  ·exact (h.ept i s' t src ix hs' hk).less hl
 ·intro i s' hs' x hx
  rcases hget hs' with ⟨rfl, rfl⟩ | ⟨hne, hs'⟩
  ·exact (h.hand x (List.mem_append.2 (.inl (hs ▸ hx)))).less hl
  ·exact (h.cells i s' hs' x hx).less hl
 ·intro x hx
  exact (h.hand x (List.mem_append.2 (.inr hx))).less hl
 ·exact fun b => Nat.le_trans (hl.own b) (h.cnt b)
end
end Go.Vm
end
section
namespace Go.Vm
section
variable {E : Env} {cx : Cx} {S : StA} {X : List (Cell Tg)} {C : Nat → Nat → Prop} {a : Act} {w : World}
theorem one_lift (hf : Fits E cx) (h : Inv E S X C a w) {ox : Operand} {x : Opd} (hc : cOpd cx ox = some x) {c : Cell Unit} {st1 : St} (hr : (one x).run (erS S) = some (c, st1)) :
  st1 = erS S ∧ ∃ z : Cell Tg, z.er = c ∧ z.f ≠ .dd ∧ COk E w C S X z ∧ a.eval ox = z.v.val E.sid ∧
   ((∃ i, x = .t i ∧ cellAt S i 0 = some z) ∨ (hold z.f = false ∧ Taken z.f = true)) := by
 unfold one at hr
 obtain ⟨sl, st2, h1, h2⟩ := FM.bind_some hr
 obtain ⟨rfl, s, rfl, ho⟩ := opd_lift hf h hc h1
 rw [er_kind, er_cells] at h2
 split at h2
 ·rename_i c' hk hcs
  split at h2
  ·simp [FM.run] at h2
  ·rename_i hdd
   obtain ⟨rfl, rfl⟩ := ret_run h2
   obtain ⟨z, hz, rfl⟩ : ∃ z : Cell Tg, s.cs = [z] ∧ z.er = c := by
    cases hs : s.cs with
    | nil => rw [hs] at hcs; simp at hcs
    | cons y r => cases r with
     | nil => rw [hs] at hcs; simp at hcs; exact ⟨y, rfl, hcs⟩
     | cons y' r => rw [hs] at hcs; simp at hcs
   have hkv : s.k = .val := by
    cases hk' : s.k <;> rw [hk'] at hk <;> simp [Kd.er] at hk ⊢
   refine ⟨rfl, z, rfl, hdd, ?_, ?_, ?_⟩
   ·cases ho with
    | slot i s hi hs hv => exact h.cells i s hs z (by simp [hz])
    | const agg vs s hk he hok hv h1' => exact (hok z (by simp [hz])).1
    | fn g hv => simp at hz; subst hz; exact .fn g [] (by simp) (by simp)
   ·cases ho with
    | slot i s hi hs hv =>
     unfold SlV at hv; rw [hkv] at hv
     obtain ⟨y, hy, hv⟩ := hv
     rw [hz] at hy; simp at hy; subst hy; exact hv
    | const agg vs s hk he hok hv h1' =>
     cases agg with
     | true => rw [hk] at hkv; simp at hkv
     | false => rw [hv, hz]; simp
    | fn g hv => simp at hz; subst hz; rw [hv]; simp [VA.val]
   ·cases ho with
    | slot i s hi hs hv => exact .inl ⟨i, rfl, cellAt_of hs (by simp [hz])⟩
    | const agg vs s hk he hok hv h1' => exact .inr (hok z (by simp [hz])).2
    | fn g hv => simp at hz; subst hz; exact .inr ⟨rfl, rfl⟩
 ·simp [FM.run] at h2
theorem er_int {v : A} {k : IntKind} {n : Int} (h : v.er = .int k n) : v = .int k n := by cases v <;> simp_all [VA.er]
theorem er_bool {v : A} {b : Bool} (h : v.er = .bool b) : v = .bool b := by cases v <;> simp_all [VA.er]
theorem er_str {v : A} {s : ByteArray} (h : v.er = .str s) : v = .str s := by cases v <;> simp_all [VA.er]
theorem er_row {v : A} {t : Unit} {es : List (List V)} (h : v.er = .row t es) : ∃ t' es', v = .row t' es' ∧ erR es' = es := by
 cases v with
 | row t' es' => simp only [VA.er, VA.row.injEq] at h; exact ⟨t', es', rfl, h.2⟩
 | _ => simp [VA.er] at h
theorem int_lift (hf : Fits E cx) (h : Inv E S X C a w) {ox : Operand} {x : Opd} (hc : cOpd cx ox = some x) {y : IntKind × Int} {st1 : St} (hr : (intOf' x).run (erS S) = some (y, st1)) :
  st1 = erS S ∧ a.eval ox = .int y.1 y.2 := by
 unfold intOf' at hr
 obtain ⟨c, st2, h1, h2⟩ := FM.bind_some hr
 obtain ⟨rfl, z, rfl, _, _, hv, _⟩ := one_lift hf h hc h1
 split at h2
 ·rename_i k n hz
  obtain ⟨rfl, rfl⟩ := ret_run h2
  have := er_int hz
  exact ⟨rfl, by rw [hv, this]; rfl⟩
 ·simp [FM.run] at h2
theorem bool_lift (hf : Fits E cx) (h : Inv E S X C a w) {ox : Operand} {x : Opd} (hc : cOpd cx ox = some x) {y : Bool} {st1 : St} (hr : (boolOf' x).run (erS S) = some (y, st1)) :
  st1 = erS S ∧ a.eval ox = .bool y := by
 unfold boolOf' at hr
 obtain ⟨c, st2, h1, h2⟩ := FM.bind_some hr
 obtain ⟨rfl, z, rfl, _, _, hv, _⟩ := one_lift hf h hc h1
 split at h2
 ·rename_i b hz
  obtain ⟨rfl, rfl⟩ := ret_run h2
  have := er_bool hz
  exact ⟨rfl, by rw [hv, this]; rfl⟩
 ·simp [FM.run] at h2
theorem run_binInt {P : Program} {op : BinOp} {t : TypeId} {k : IntKind} {x y : Int} {r : V} {p q : Operand} (h : binInt op k x y = some r) :
  (do eqGuard op t p q (.int k x) (.int k y); binOp op t (.int k x) (.int k y) : Sem Value).run P w = .ok ((cA r).val E.sid) w ∧ scal r = true := by
 cases op <;> simp only [binInt] at h <;> first
  | (simp only [Option.some.injEq] at h; subst h; simp [eqGuard, binOp, Op.intArith, Op.intCmp, Op.intBits, cA, VA.val, scal]; done)
  | (split at h <;> simp at h; subst h; simp_all [eqGuard, binOp, Op.intDiv, cA, VA.val, scal]; done)
  | cases h
theorem run_shift {P : Program} {op : BinOp} {t : TypeId} {k k' : IntKind} {x y : Int} {r : V} {p q : Operand} (hop : op = .shl ∨ op = .shr) (h : shiftV op k x y = some r) :
  (do eqGuard op t p q (.int k x) (.int k' y); binOp op t (.int k x) (.int k' y) : Sem Value).run P w = .ok ((cA r).val E.sid) w ∧ scal r = true := by
 unfold shiftV at h
 split at h
 ·cases h
 ·rename_i hy
  rcases hop with rfl | rfl <;> (simp only [Option.some.injEq] at h; subst h; simp [eqGuard, binOp, Op.shift, hy, cA, VA.val, scal])
theorem run_binV {P : Program} {op : BinOp} {t : TypeId} {u v : A} {r : V} {p q : Operand} (h : binV op u.er v.er = some r) :
  (do eqGuard op t p q (u.val E.sid) (v.val E.sid); binOp op t (u.val E.sid) (v.val E.sid) : Sem Value).run P w = .ok ((cA r).val E.sid) w ∧ scal r = true := by
 cases u <;> cases v <;> simp only [VA.er, binV] at h <;> try (cases h; done)
 ·rename_i k x k' y
  simp only [VA.val]
  cases op <;> simp only at h <;> first
   | exact run_shift (.inl rfl) h
   | exact run_shift (.inr rfl) h
   | (split at h
      ·rename_i e; subst e; exact run_binInt h
      ·cases h)
theorem run_beq {P : Program} {t : TypeId} {x y : Bool} {p q : Operand} (hu : P.underlying t = some .bool) :
  (do eqGuard .eql t p q (.bool x) (.bool y); binOp .eql t (.bool x) (.bool y) : Sem Value).run P w = .ok (.bool (x == y)) w ∧
  (do eqGuard .neq t p q (.bool x) (.bool y); binOp .neq t (.bool x) (.bool y) : Sem Value).run P w = .ok (.bool (!(x == y))) w := by
 have h1 : ∀ d : Nat, (Op.equalIn (d + 1) t (.bool x) (.bool y)).run P w = .ok (x == y) w := fun d => by
  simp [Op.equalIn, run_underlying hu]
 have h : (Op.equal t (.bool x) (.bool y)).run P w = .ok (x == y) w := h1 9999
 constructor <;> simp [eqGuard, binOp, h]
theorem run_unV {P : Program} {op : UnOp} {u : A} {r : V} (h : unV op u.er = some r) : (Op.unary op (u.val E.sid)).run P w = .ok ((cA r).val E.sid) w ∧ scal r = true := by
 cases op <;> cases u <;> simp only [VA.er, unV] at h <;> first
  | (simp only [Option.some.injEq] at h; subst h; simp [Op.unary, Op.intArith, VA.val, cA, scal]; done)
  | cases h
structure Frame (E : Env) (w w' : World) : Prop where
 os : w'.os = w.os
 tape : w'.tape = w.tape
 output : w'.output = w.output
 size : w.heap.size ≤ w'.heap.size
 block : ∀ b, b < E.base → ¬ E.chg b → w'.heap[b]? = w.heap[b]?
theorem Frame.refl (E : Env) (w : World) : Frame E w w := ⟨rfl, rfl, rfl, Nat.le_refl _, fun _ _ _ => rfl⟩
theorem Frame.trans {E : Env} {w₁ w₂ w₃ : World} (h : Frame E w₁ w₂) (k : Frame E w₂ w₃) : Frame E w₁ w₃ :=
 ⟨k.os.trans h.os, k.tape.trans h.tape, k.output.trans h.output, Nat.le_trans h.size k.size, fun b hb hc => (k.block b hb hc).trans (h.block b hb hc)⟩
structure Made (E : Env) (S : StA) (X : List (Cell Tg)) (C : Nat → Nat → Prop) (a : Act) (w : World) (s : SA) (v : Value) : Prop where
 inv : Inv E S (s.cs ++ X) C a w
 val : (∀ t, s.k ≠ .box t) → SlV E.sid S s v
 box : ∀ t, s.k = .box t → BoxOk E w C t s.cs ∧ (∃ b, t.a = some ⟨b, 0, none⟩ ∧ v = .pointer (some ⟨b, 0, none⟩) ∧ b ∉ ownAll S (s.cs ++ X) ∧ E.base ≤ b ∧ b < w.heap.size ∧ (∀ j, ¬ E.old b j) ∧
  ∀ x ∈ cellsAll S (s.cs ++ X), ∀ p q r, x.f = .ap p q r → ∀ y, cellAt S p q = some y → (∃ g, y.f = .ow g) → b ∉ x.v.blks)
 ept : ∀ t src ix, s.k = .ept t src ix → EptOk E w C S t src ix s.cs
 emp : (s.k = .dead ∨ s.k = .und ∨ (∃ r o, s.k = .ptr r o) ∨ ∃ g rs, s.k = .clo g rs) → s.cs = []
def Makes (E : Env) (X : List (Cell Tg)) (a : Act) (w : World) (o : Oper) (s : SU) (st1 : St) : Prop :=
 ∃ v w' S1 C1 sA, (execOp a.eval o).run E.P w = .ok (.value v) w' ∧ erS S1 = st1 ∧ sA.er = s ∧ Made E S1 X C1 a w' sA v ∧ Frame E w w'
theorem Made.scalar (h : Inv E S X C a w) {r : V} (hr : scal r = true) : Made E S X C a w ⟨.val, [⟨cA r, .sc⟩]⟩ ((cA r).val E.sid) := by
 have hs : scal (cA r) = true := by cases r <;> simp_all [scal, cA]
 exact ⟨h.add rfl (by simp) hs, fun _ => ⟨_, rfl, rfl⟩, by simp, by simp, by simp⟩
theorem er_scalar {r : V} (hr : scal r = true) : (⟨.val, [⟨cA r, .sc⟩]⟩ : SA).er = sval r := by
 have : (cA r).er = r := by cases r <;> simp_all [scal, cA, VA.er]
 simp [Sl.er, Kd.er, Cell.er, sval, this]
theorem makes_scalar (h : Inv E S X C a w) {o : Oper} {r : V} {v : Value} (hr : scal r = true) (hv : (cA r).val E.sid = v) (hx : (execOp a.eval o).run E.P w = .ok (.value v) w) : Makes E X a w o (sval r) (erS S) :=
 ⟨v, w, S, C, _, hx, rfl, er_scalar hr, hv ▸ Made.scalar h hr, Frame.refl E w⟩
theorem sound_bin (hf : Fits E cx) (h : Inv E S X C a w) {o : Oper} {op : BinOp} {t t' : TypeId} {ox oy : Operand} {x y : Opd} (ho : o.op = .binOp op t ox oy t') (hx : cOpd cx ox = some x) (hy : cOpd cx oy = some y)
  {s : SU} {st1 : St} (hr : (evalIr cx.nt (.bin op x y)).run (erS S) = some (s, st1)) : Makes E X a w o s st1 := by
 unfold evalIr at hr
 obtain ⟨c1, st2, h1, h2⟩ := FM.bind_some hr
 obtain ⟨rfl, z1, rfl, _, _, hv1, _⟩ := one_lift hf h hx h1
 obtain ⟨c2, st3, h3, h4⟩ := FM.bind_some h2
 obtain ⟨rfl, z2, rfl, _, _, hv2, _⟩ := one_lift hf h hy h3
 obtain ⟨r, st4, h5, h6⟩ := FM.bind_some h4
 obtain ⟨h7, rfl⟩ := opt_run h5
 obtain ⟨rfl, rfl⟩ := ret_run h6
 obtain ⟨e1, e2⟩ := run_binV (E := E) (w := w) (P := E.P) (t := t) (p := ox) (q := oy) h7
 refine makes_scalar h e2 rfl ?_
 unfold execOp
 rw [ho]
 simp only [hv1, hv2]
 rw [Sem.run_bind, e1]
 rfl
end
end Go.Vm
end
section
namespace Go.Vm
section
variable {E : Env} {cx : Cx} {S : StA} {X : List (Cell Tg)} {C : Nat → Nat → Prop} {a : Act} {w : World}
theorem sound_beq (hf : Fits E cx) (h : Inv E S X C a w) {o : Oper} {op : BinOp} {neg : Bool} {t t' : TypeId} {ox oy : Operand} {x y : Opd} (ho : o.op = .binOp op t ox oy t') (hop : op = if neg then .neq else .eql)
  (hu : E.P.underlying t = some .bool) (hx : cOpd cx ox = some x) (hy : cOpd cx oy = some y)
  {s : SU} {st1 : St} (hr : (evalIr cx.nt (.beq neg x y)).run (erS S) = some (s, st1)) : Makes E X a w o s st1 := by
 unfold evalIr at hr
 obtain ⟨c1, st2, h1, h2⟩ := FM.bind_some hr
 obtain ⟨rfl, hv1⟩ := bool_lift hf h hx h1
 obtain ⟨c2, st3, h3, h4⟩ := FM.bind_some h2
 obtain ⟨rfl, hv2⟩ := bool_lift hf h hy h3
 obtain ⟨rfl, rfl⟩ := ret_run h4
 obtain ⟨e1, e2⟩ := run_beq (w := w) (P := E.P) (t := t) (x := c1) (y := c2) (p := ox) (q := oy) hu
 refine makes_scalar h rfl rfl ?_
 unfold execOp
 rw [ho]
 subst hop
 cases neg
 ·simp only [hv1, hv2]
  rw [Sem.run_bind]
  simp only [Bool.false_eq_true, if_false]
  rw [e1]; rfl
 ·simp only [hv1, hv2]
  rw [Sem.run_bind]
  simp only [if_true]
  rw [e2]; rfl
theorem sound_un (hf : Fits E cx) (h : Inv E S X C a w) {o : Oper} {op : UnOp} {t : TypeId} {ox : Operand} {x : Opd} (ho : o.op = .unOp op t ox) (hx : cOpd cx ox = some x)
  {s : SU} {st1 : St} (hr : (evalIr cx.nt (.un op x)).run (erS S) = some (s, st1)) : Makes E X a w o s st1 := by
 unfold evalIr at hr
 obtain ⟨c1, st2, h1, h2⟩ := FM.bind_some hr
 obtain ⟨rfl, z1, rfl, _, _, hv1, _⟩ := one_lift hf h hx h1
 obtain ⟨r, st4, h5, h6⟩ := FM.bind_some h2
 obtain ⟨h7, rfl⟩ := opt_run h5
 obtain ⟨rfl, rfl⟩ := ret_run h6
 obtain ⟨e1, e2⟩ := run_unV (E := E) (w := w) (P := E.P) h7
 refine makes_scalar h e2 rfl ?_
 unfold execOp
 rw [ho]
 simp only [hv1]
 rw [Sem.run_bind, e1]
 rfl
theorem sound_conv (hf : Fits E cx) (h : Inv E S X C a w) {o : Oper} {k k' : IntKind} {t u : TypeId} {ox : Operand} {x : Opd} (ho : o.op = .convert t u ox) (ht : E.P.underlying t = some (.int k')) (hu : E.P.underlying u = some (.int k)) (hx : cOpd cx ox = some x)
  {s : SU} {st1 : St} (hr : (evalIr cx.nt (.conv k x)).run (erS S) = some (s, st1)) : Makes E X a w o s st1 := by
 unfold evalIr at hr
 obtain ⟨y, st2, h1, h2⟩ := FM.bind_some hr
 obtain ⟨rfl, hv1⟩ := int_lift hf h hx h1
 obtain ⟨rfl, rfl⟩ := ret_run h2
 refine makes_scalar h rfl rfl ?_
 unfold execOp
 rw [ho]
 simp [hv1, convert, run_underlying ht, run_underlying hu, Conv.intToInt, cA, VA.val]
theorem sound_pick (hf : Fits E cx) (h : Inv E S X C a w) {o : Oper} {oc ox oy : Operand} {c x y : Opd} (ho : o.op = .pick oc ox oy) (hc : cOpd cx oc = some c) (hx : cOpd cx ox = some x) (hy : cOpd cx oy = some y)
  {s : SU} {st1 : St} (hr : (evalIr cx.nt (.pick c x y)).run (erS S) = some (s, st1)) : Makes E X a w o s st1 := by
 unfold evalIr at hr
 obtain ⟨b, st2, h1, h2⟩ := FM.bind_some hr
 obtain ⟨rfl, hv⟩ := bool_lift hf h hc h1
 cases b
 ·simp only [Bool.false_eq_true, if_false] at h2
  obtain ⟨b, st2, h3, h4⟩ := FM.bind_some h2
  obtain ⟨rfl, hv1⟩ := bool_lift hf h hy h3
  obtain ⟨rfl, rfl⟩ := ret_run h4
  refine makes_scalar h rfl rfl ?_
  unfold execOp
  rw [ho]
  simp [hv, hv1, asBool, cA, VA.val]
 ·simp only [if_true] at h2
  obtain ⟨b, st2, h3, h4⟩ := FM.bind_some h2
  obtain ⟨rfl, hv1⟩ := bool_lift hf h hx h3
  obtain ⟨rfl, rfl⟩ := ret_run h4
  refine makes_scalar h rfl rfl ?_
  unfold execOp
  rw [ho]
  simp [hv, hv1, asBool, cA, VA.val]
theorem sound_index (hf : Fits E cx) (h : Inv E S X C a w) {o : Oper} {t : TypeId} {ox oi : Operand} {x i : Opd} (ho : o.op = .index t ox oi) (hu : E.P.underlying t = some .string) (hx : cOpd cx ox = some x) (hi : cOpd cx oi = some i)
  {s : SU} {st1 : St} (hr : (evalIr cx.nt (.index x i)).run (erS S) = some (s, st1)) : Makes E X a w o s st1 := by
 unfold evalIr at hr
 obtain ⟨n, st2, h1, h2⟩ := FM.bind_some hr
 obtain ⟨rfl, hv⟩ := int_lift hf h hi h1
 obtain ⟨c, st3, h3, h4⟩ := FM.bind_some h2
 obtain ⟨rfl, z, rfl, _, _, hv1, _⟩ := one_lift hf h hx h3
 split at h4
 ·rename_i b hz
  have hz := er_str hz
  split at h4
  ·rename_i u hu'
   obtain ⟨rfl, rfl⟩ := ret_run h4
   refine makes_scalar h rfl rfl ?_
   unfold execOp
   rw [ho]
   rw [hz] at hv1
   simp [hv, hv1, Instr.index, asIntOf, run_underlying hu, VA.val, cA]
   simp only [hu']
   rfl
  ·simp [FM.run] at h4
 ·simp [FM.run] at h4
theorem exec_builtin {ρ : Operand → Value} {o : Oper} {k : Call} {b : Builtin} (ho : o.op = .call k) (hb : k.callee = .builtin b) :
  ∃ cs, execOp ρ o = builtin b k.argTypes o.type cs (k.args.map ρ) := by
 unfold execOp
 rw [ho]
 simp only [resolve, hb, pure_bind, invoke]
 exact ⟨_, rfl⟩
theorem mapO_two {α β : Type} {f : α → Option β} {l : List α} {x y : β} (h : mapO f l = some [x, y]) : ∃ p q, l = [p, q] ∧ f p = some x ∧ f q = some y := by
 match l, h with
 | [], h => simp [mapO] at h
 | [p], h => simp only [mapO] at h; split at h <;> simp_all
 | [p, q], h =>
  simp only [mapO] at h
  cases hp : f p <;> cases hq : f q <;> simp [hp, hq] at h
  exact ⟨p, q, rfl, by rw [hp, h.1], by rw [hq, h.2]⟩
 | p :: q :: r :: l, h =>
  simp only [mapO] at h
  cases hp : f p <;> cases hq : f q <;> cases hr : f r <;> cases hl : mapO f l <;> simp [hp, hq, hr, hl] at h
theorem mapO_one {α β : Type} {f : α → Option β} {l : List α} {x : β} (h : mapO f l = some [x]) : ∃ p, l = [p] ∧ f p = some x := by
 match l, h with
 | [], h => simp [mapO] at h
 | [p], h =>
  simp only [mapO] at h
  cases hp : f p <;> simp [hp] at h
  exact ⟨p, rfl, by rw [hp, h]⟩
 | p :: q :: l, h =>
  simp only [mapO] at h
  cases hp : f p <;> cases hq : f q <;> cases hl : mapO f l <;> simp [hp, hq, hl] at h
theorem sound_len (hf : Fits E cx) (h : Inv E S X C a w) {o : Oper} {k : Call} {t : TypeId} {ox : Operand} {x : Opd} {b : Bool} (ho : o.op = .call k) (hb : k.callee = .builtin .len) (hk : k.args.toList = [ox]) (ht : k.argTypes.toList = [t])
  (hu : if b then E.P.underlying t = some .string else ∃ e, E.P.underlying t = some (.slice e)) (hx : cOpd cx ox = some x)
  {s : SU} {st1 : St} (hr : (evalIr cx.nt (.len b x)).run (erS S) = some (s, st1)) : Makes E X a w o s st1 := by
 unfold evalIr at hr
 obtain ⟨c, st2, h1, h2⟩ := FM.bind_some hr
 obtain ⟨rfl, z, rfl, _, _, hv1, _⟩ := one_lift hf h hx h1
 have hka : k.args = #[ox] := by rw [← Array.toList_inj, hk]
 have hta : k.argTypes = #[t] := by rw [← Array.toList_inj, ht]
 obtain ⟨cs, hex⟩ := exec_builtin (ρ := a.eval) ho hb
 split at h2
 ·rename_i u es hz
  obtain ⟨t', es', hz', he⟩ := er_row (t := u) hz
  obtain ⟨rfl, rfl⟩ := ret_run h2
  refine makes_scalar h rfl rfl ?_
  rw [hex, hka, hta]
  rw [hz'] at hv1
  simp only [Bool.false_eq_true, if_false] at hu
  obtain ⟨e, hu⟩ := hu
  have hl : es.length = es'.length := by rw [← he, erR_map]; simp
  simp [builtin, Builtin.len_, hv1, VA.val, run_underlying hu, cA, hl, goInt]
 ·rename_i b hz
  obtain ⟨rfl, rfl⟩ := ret_run h2
  have hz' := er_str hz
  refine makes_scalar h rfl rfl ?_
  rw [hex, hka, hta]
  rw [hz'] at hv1
  simp only [if_true] at hu
  simp [builtin, Builtin.len_, hv1, VA.val, run_underlying hu, cA, goInt]
 ·simp [FM.run] at h2
theorem sound_min (hf : Fits E cx) (h : Inv E S X C a w) {o : Oper} {k : Call} {ox oy : Operand} {x y : Opd} (ho : o.op = .call k) (hb : k.callee = .builtin .min) (hk : k.args.toList = [ox, oy]) (hx : cOpd cx ox = some x) (hy : cOpd cx oy = some y)
  {s : SU} {st1 : St} (hr : (evalIr cx.nt (.min x y)).run (erS S) = some (s, st1)) : Makes E X a w o s st1 := by
 unfold evalIr at hr
 obtain ⟨c1, st2, h1, h2⟩ := FM.bind_some hr
 obtain ⟨rfl, hv1⟩ := int_lift hf h hx h1
 obtain ⟨c2, st3, h3, h4⟩ := FM.bind_some h2
 obtain ⟨rfl, hv2⟩ := int_lift hf h hy h3
 obtain ⟨rfl, rfl⟩ := ret_run h4
 have hka : k.args = #[ox, oy] := by rw [← Array.toList_inj, hk]
 obtain ⟨cs, hex⟩ := exec_builtin (ρ := a.eval) ho hb
 refine makes_scalar h rfl rfl ?_
 rw [hex, hka]
 simp [builtin, Builtin.min_, Builtin.min2, hv1, hv2, VA.val, cA]
theorem sound_max (hf : Fits E cx) (h : Inv E S X C a w) {o : Oper} {k : Call} {ox oy : Operand} {x y : Opd} (ho : o.op = .call k) (hb : k.callee = .builtin .max) (hk : k.args.toList = [ox, oy]) (hx : cOpd cx ox = some x) (hy : cOpd cx oy = some y)
  {s : SU} {st1 : St} (hr : (evalIr cx.nt (.max x y)).run (erS S) = some (s, st1)) : Makes E X a w o s st1 := by
 unfold evalIr at hr
 obtain ⟨c1, st2, h1, h2⟩ := FM.bind_some hr
 obtain ⟨rfl, hv1⟩ := int_lift hf h hx h1
 obtain ⟨c2, st3, h3, h4⟩ := FM.bind_some h2
 obtain ⟨rfl, hv2⟩ := int_lift hf h hy h3
 obtain ⟨rfl, rfl⟩ := ret_run h4
 have hka : k.args = #[ox, oy] := by rw [← Array.toList_inj, hk]
 obtain ⟨cs, hex⟩ := exec_builtin (ρ := a.eval) ho hb
 refine makes_scalar h rfl rfl ?_
 rw [hex, hka]
 simp [builtin, Builtin.max_, Builtin.max2, hv1, hv2, VA.val, cA]
end
end Go.Vm
end
