/- The value machine, part 6: code read as work on values, and its soundness over memory. -/
import Derived.Test.YtmojgceacpclpaaVmE
import Derived.ChangeArms
import Derived.DataReads
import Derived.Handed
import Derived.JoinedOf
import Derived.Carry
import Derived.ChangeShapes
import Derived.WideShapes
set_option maxHeartbeats 4000000
set_option maxRecDepth 10000
set_option linter.unusedVariables false
set_option linter.unusedSimpArgs false
section
namespace Go.Vm
inductive Sh where
 | int (k : IntKind)
 | bool
 | str
 | row (l : List Sh)
def shFs (sh : TypeId → Option (List Sh)) (P : Program) : List Field → Nat → Option (List Sh)
 | [], _ => some []
 | f :: fs, off => match sh f.type with
  | some l => if f.offset = off ∧ l.length = P.cellsOf f.type then (shFs sh P fs (off + l.length)).map (l ++ ·) else none
  | none => none
def shOf (P : Program) : Nat → TypeId → Option (List Sh)
 | 0, _ => none
 | m + 1, t => match P.underlying t with
  | some (.int k) => some [.int k]
  | some .bool => some [.bool]
  | some .string => some [.str]
  | some (.slice e) => match shOf P m e with
   | some l => if l.length = P.cellsOf e ∧ 0 < l.length then some [.row l] else none
   | none => none
  | some (.struct fs) => match shFs (shOf P m) P fs.toList 0 with
   | some l => if l.length = P.cellsOf t then some l else none
   | none => none
  | _ => none
inductive Fit : Sh → V → Prop
 | int (k : IntKind) (n : Int) (h1 : k.min ≤ n) (h2 : n ≤ k.max) : Fit (.int k) (.int k n)
 | bool (b : Bool) : Fit .bool (.bool b)
 | str (s : ByteArray) (h : s.size ≤ maxLen) : Fit .str (.str s)
 | row (l : List Sh) (es : List (List V)) (hl : es.length ≤ maxLen) (hk : ∀ e ∈ es, e.length = l.length) (h : ∀ e ∈ es, ∀ (i : Nat) (s : Sh) (v : V), l[i]? = some s → e[i]? = some v → Fit s v) : Fit (.row l) (.row () es)
def FitL (l : List Sh) (vs : List V) : Prop := vs.length = l.length ∧ ∀ (i : Nat) (s : Sh) (v : V), l[i]? = some s → vs[i]? = some v → Fit s v
theorem choose_list {α : Type} {Q : Nat → α → Prop} : ∀ (n : Nat), (∀ i, i < n → ∃ y, Q i y) → ∃ l : List α, l.length = n ∧ ∀ i y, l[i]? = some y → Q i y
 | 0, _ => ⟨[], rfl, by simp⟩
 | n + 1, h => by
  obtain ⟨l, h1, h2⟩ := choose_list n (fun i hi => h i (by omega))
  obtain ⟨y, hy⟩ := h n (by omega)
  refine ⟨l ++ [y], by simp [h1], fun i z hz => ?_⟩
  rw [List.getElem?_append] at hz
  split at hz
  ·exact h2 i z hz
  ·rename_i hi
   cases hk : i - l.length with
   | zero =>
    rw [hk] at hz
    simp only [List.getElem?_cons_zero, Option.some.injEq] at hz
    have : i = n := by omega
    rw [this, ← hz]; exact hy
   | succ m => rw [hk] at hz; simp at hz
theorem flatten_inv {α : Type} {k : Nat} {es : List (List α)} (hk : ∀ e ∈ es, e.length = k) (hk0 : 0 < k) {j : Nat} {c : α} (hj : es.flatten[j]? = some c) : ∃ i r e, es[i]? = some e ∧ e[r]? = some c ∧ r < k ∧ j = i * k + r := by
 have hlt : j < es.length * k := by rw [← flatten_length hk]; exact (List.getElem?_eq_some_iff.1 hj).1
 have hd : j / k < es.length := Nat.div_lt_of_lt_mul (by rw [Nat.mul_comm]; exact hlt)
 have hm := Nat.mod_lt j hk0
 have hjj : j = j / k * k + j % k := by rw [Nat.mul_comm]; exact (Nat.div_add_mod j k).symm
 refine ⟨j / k, j % k, es[j / k], List.getElem?_eq_getElem hd, ?_, hm, hjj⟩
 rw [← flatten_at hk (List.getElem?_eq_getElem hd) (j % k) hm, ← hjj]
 exact hj
section
variable {sid : Nat → Nat} {P : Program} {w : World} {H : Type} {enc : TypeId × Value → H}
def InHeap (w : World) (b _j : Nat) : Prop := b < w.heap.size
theorem fields_open {n m : Nat} {base : Nat} {sp : Nat → Bool}
  (ih : ∀ (t : TypeId) (cs : List Value) (x : DataW H × List MemPlace) (l : List Sh), shOf P m t = some l → DataW.trod enc P w base sp true n t cs = some x → ∃ as : List A, as.map (VA.val sid) = cs ∧ FitL l (as.map VA.er) ∧ ∀ a ∈ as, Rd sid w (InHeap w) a ∧ (isRow a = true ∨ scal a = true)) (cs : List Value) :
  ∀ (fs : List Field) (off : Nat) (l : List Sh), shFs (shOf P m) P fs off = some l → (∀ (i : Nat) (f : Field), fs[i]? = some f → ∃ x, DataW.trod enc P w base sp true n f.type ((cs.drop f.offset).take (P.cellsOf f.type)) = some x) →
   ∃ as : List A, as.map (VA.val sid) = (cs.drop off).take l.length ∧ FitL l (as.map VA.er) ∧ ∀ a ∈ as, Rd sid w (InHeap w) a ∧ (isRow a = true ∨ scal a = true)
 | [], off, l, hl, _ => by
  simp only [shFs, Option.some.injEq] at hl
  subst hl
  exact ⟨[], by simp, ⟨rfl, by simp⟩, by simp⟩
 | f :: fs, off, l, hl, hx => by
  unfold shFs at hl
  split at hl
  ·rename_i l1 hl1
   split at hl
   ·rename_i hc
    obtain ⟨hoff, hlen⟩ := hc
    rw [Option.map_eq_some_iff] at hl
    obtain ⟨l2, hl2, rfl⟩ := hl
    obtain ⟨x, hx0⟩ := hx 0 f rfl
    rw [hoff, ← hlen] at hx0
    obtain ⟨as1, a1, a2, a3⟩ := ih f.type _ x l1 hl1 hx0
    obtain ⟨as2, b1, b2, b3⟩ := fields_open ih cs fs (off + l1.length) l2 hl2 (fun i f' hf' => hx (i + 1) f' (by simpa using hf'))
    have hl1' : as1.length = l1.length := by have := a2.1; simpa using this
    refine ⟨as1 ++ as2, ?_, ⟨by have := a2.1; have := b2.1; simp at *; omega, fun i s v hs hv => ?_⟩, fun a ha => ?_⟩
    ·rw [List.map_append, a1, b1, List.length_append, List.take_add, List.drop_drop]
    ·rw [List.map_append] at hv
     rw [List.getElem?_append] at hs hv
     have hll : (as1.map VA.er).length = l1.length := a2.1
     rw [hll] at hv
     split at hs
     ·rename_i hi
      rw [if_pos hi] at hv
      exact a2.2 i s v hs hv
     ·rename_i hi
      rw [if_neg hi] at hv
      exact b2.2 _ s v hs hv
    ·rcases List.mem_append.1 ha with ha | ha
     ·exact a3 a ha
     ·exact b3 a ha
   ·cases hl
  ·cases hl
theorem open_trod {base : Nat} {sp : Nat → Bool} : ∀ (m n : Nat) (t : TypeId) (cs : List Value) (x : DataW H × List MemPlace) (l : List Sh), shOf P m t = some l → DataW.trod enc P w base sp true n t cs = some x →
  ∃ as : List A, as.map (VA.val sid) = cs ∧ FitL l (as.map VA.er) ∧ ∀ a ∈ as, Rd sid w (InHeap w) a ∧ (isRow a = true ∨ scal a = true) := by
 intro m
 induction m with
 | zero => intro n t cs x l hl; simp [shOf] at hl
 | succ m ihm =>
  intro n t cs x l hl hx
  have one : ∀ (a : A) (s : Sh) (v : Value), a.val sid = v → Fit s a.er → Rd sid w (InHeap w) a → (isRow a = true ∨ scal a = true) → l = [s] → cs = [v] →
    ∃ as : List A, as.map (VA.val sid) = cs ∧ FitL l (as.map VA.er) ∧ ∀ a ∈ as, Rd sid w (InHeap w) a ∧ (isRow a = true ∨ scal a = true) := by
   rintro a s v rfl hf hr hk rfl rfl
   refine ⟨[a], rfl, ⟨rfl, fun i s' v' hs hv => ?_⟩, by simpa using ⟨hr, hk⟩⟩
   cases i with
   | zero =>
    simp only [List.getElem?_cons_zero, List.map_cons, Option.some.injEq] at hs hv
    subst hs; subst hv; exact hf
   | succ i => simp at hs
  unfold shOf at hl
  split at hl
  ·rename_i k ht
   simp only [Option.some.injEq] at hl
   obtain ⟨i, rfl, _, hwf⟩ := DataW.trod_int ht hx
   simp only [Lit.wf, Bool.and_eq_true, decide_eq_true_eq] at hwf
   exact one (.int k i) (.int k) _ rfl (.int k i hwf.1 hwf.2) (.int k i) (.inr rfl) hl.symm rfl
  ·rename_i ht
   simp only [Option.some.injEq] at hl
   obtain ⟨b, rfl, _⟩ := DataW.trod_bool ht hx
   exact one (.bool b) .bool _ rfl (.bool b) (.bool b) (.inr rfl) hl.symm rfl
  ·rename_i ht
   simp only [Option.some.injEq] at hl
   obtain ⟨s, rfl, _, hs⟩ := DataW.trod_string ht hx
   exact one (.str s) .str _ rfl (.str s hs) (.str s) (.inr rfl) hl.symm rfl
  ·rename_i e ht
   split at hl
   ·rename_i le hle
    split at hl
    ·rename_i hc
     obtain ⟨hlen, hpos⟩ := hc
     simp only [Option.some.injEq] at hl
     rcases DataW.trod_slice ht hx with ⟨rfl, _⟩ | ⟨a, len, cap, elems, rest, n', _, rfl, _, hb, hlc, hcm, hel, helem, _⟩
     ·exact one (.row ⟨none, 0, le.length⟩ []) (.row le) _ rfl (.row le [] (by simp) (by simp) (by simp)) (.row _ _ (by simp) (by simp) (by simp) (by simp)) (.inl rfl) hl.symm rfl
     ·have hex : ∀ i, i < len → ∃ as : List A, (∃ cs', w.cells? base (a.add (i * le.length)) le.length = some cs' ∧ as.map (VA.val sid) = cs') ∧ FitL le (as.map VA.er) ∧ ∀ c ∈ as, Rd sid w (InHeap w) c ∧ (isRow c = true ∨ scal c = true) := by
       intro i hi
       have h1 := helem i hi
       rw [List.getElem?_eq_getElem (by omega)] at h1
       rw [Option.bind_eq_some_iff] at h1
       obtain ⟨cs', h2, h3⟩ := h1
       rw [← hlen] at h2
       obtain ⟨as, k1, k2, k3⟩ := ihm n' e cs' _ le hle h3
       exact ⟨as, ⟨cs', h2, k1⟩, k2, k3⟩
      obtain ⟨es, hesl, hes⟩ := choose_list len hex
      have hk : ∀ e' ∈ es, e'.length = le.length := by
       intro e' he'
       obtain ⟨i, hi⟩ := List.mem_iff_getElem?.1 he'
       have := (hes i e' hi).2.1.1
       simpa using this
      refine one (.row ⟨some a, cap, le.length⟩ es) (.row le) _ (by simp [VA.val, hesl]) ?_ ?_ (.inl rfl) hl.symm rfl
      ·simp only [VA.er]
       refine .row le (erR es) (by rw [erR_map, List.length_map, hesl]; omega) (fun e' he' => ?_) (fun e' he' i s v hs hv => ?_)
       ·rw [erR_map] at he'
        obtain ⟨e0, he0, rfl⟩ := List.mem_map.1 he'
        simpa using hk e0 he0
       ·rw [erR_map] at he'
        obtain ⟨e0, he0, rfl⟩ := List.mem_map.1 he'
        obtain ⟨q, hq⟩ := List.mem_iff_getElem?.1 he0
        exact (hes q e0 hq).2.1.2 i s v hs hv
      ·refine .row _ _ hk (by show es.length ≤ cap; omega) (fun j c hc => ?_) (fun c hc => ?_)
       ·obtain ⟨i, r, e', he', hr, hrk, rfl⟩ := flatten_inv hk hpos hc
        obtain ⟨⟨cs', h2, h3⟩, _⟩ := hes i e' he'
        obtain ⟨_, _, hcell⟩ := World.cells?_some h2
        have hcr := hcell r hrk
        rw [← h3, List.getElem?_map, hr] at hcr
        simp only [Option.map_some] at hcr
        have hspot : a.spot = none := by
         have hi0 : i < es.length := (List.getElem?_eq_some_iff.1 he').1
         obtain ⟨⟨cs0, h4, h5⟩, h6, _⟩ := hes 0 _ (List.getElem?_eq_getElem (by omega))
         obtain ⟨_, _, hcell0⟩ := World.cells?_some h4
         have h7 := hcell0 0 hpos
         have h8 : cs0.length = le.length := by
          rw [← h5, List.length_map]
          have := h6.1
          simpa using this
         rw [List.getElem?_eq_getElem (by omega)] at h7
         have := World.cell?_spot h7
         simpa [Addr.add] using this
        obtain ⟨b, off, spot⟩ := a
        simp only at hspot
        subst hspot
        rw [add_addr, add_addr] at hcr
        refine ⟨b, off, rfl, ?_, by rw [← Nat.add_assoc]; exact hcr⟩
        exact World.block_lt_of_cell? w _ hcr
       ·obtain ⟨e', he', hce⟩ := List.mem_flatten.1 hc
        obtain ⟨q, hq⟩ := List.mem_iff_getElem?.1 he'
        exact ((hes q e' hq).2.2 c hce).1
    ·cases hl
   ·cases hl
  ·rename_i fs ht
   split at hl
   ·rename_i l0 hl0
    split at hl
    ·rename_i hlen
     simp only [Option.some.injEq] at hl
     subst hl
     obtain ⟨xs, n', _, _, hcl, hxl, hf⟩ := DataW.trod_struct ht hx
     obtain ⟨as, k1, k2, k3⟩ := fields_open (sid := sid) (fun t cs x l h1 h2 => ihm n' t cs x l h1 h2) cs fs.toList 0 l0 hl0 (fun i f hfi => by
      have hfi' : fs[i]? = some f := by rw [← Array.getElem?_toList]; exact hfi
      have := hf i f hfi'
      have hil : i < xs.length := by rw [hxl]; exact (Array.getElem?_eq_some_iff.1 hfi').1
      rw [List.getElem?_eq_getElem hil] at this
      exact ⟨_, this⟩)
     refine ⟨as, ?_, k2, k3⟩
     rw [k1, hlen, ← hcl]
     simp
    ·cases hl
   ·cases hl
  ·cases hl
end
end Go.Vm
end
section
namespace Go.Vm
open Go.RowKit
def inCells (p : Nat) : Nat → List V → List (Cell Unit)
 | _, [] => []
 | c, v :: vs => ⟨v, if isRow v then .sp p c else .sc⟩ :: inCells p (c + 1) vs
def inSl (p : Nat) (agg : Bool) (vs : List V) : SU := ⟨if agg then .agg else .val, inCells p 0 vs⟩
def inSls : Nat → List (Bool × List V) → List SU
 | _, [] => []
 | p, x :: xs => inSl p x.1 x.2 :: inSls (p + 1) xs
def inCellsA (p : Nat) : Nat → List A → List (Cell Tg)
 | _, [] => []
 | c, v :: vs => ⟨v, if isRow v then .sp p c else .sc⟩ :: inCellsA p (c + 1) vs
def inSlA (p : Nat) (agg : Bool) (vs : List A) : SA := ⟨if agg then .agg else .val, inCellsA p 0 vs⟩
def inSlsA : Nat → List (Bool × List A) → List SA
 | _, [] => []
 | p, x :: xs => inSlA p x.1 x.2 :: inSlsA (p + 1) xs
theorem inCellsA_er (p : Nat) : ∀ (vs : List A) (c : Nat), (inCellsA p c vs).map Cell.er = inCells p c (vs.map VA.er)
 | [], _ => rfl
 | v :: vs, c => by simp [inCellsA, inCells, inCellsA_er p vs, Cell.er, isRow_er]
theorem inSlsA_er : ∀ (xs : List (Bool × List A)) (p : Nat), (inSlsA p xs).map Sl.er = inSls p (xs.map fun x => (x.1, x.2.map VA.er))
 | [], _ => rfl
 | (b, vs) :: xs, p => by
  simp only [inSlsA, inSls, List.map_cons, inSlsA_er xs (p + 1)]
  congr 1
  cases b <;> simp [inSlA, inSl, Sl.er, Kd.er, inCellsA_er]
theorem inCellsA_v (p : Nat) : ∀ (vs : List A) (c : Nat), (inCellsA p c vs).map (·.v) = vs
 | [], _ => rfl
 | v :: vs, c => by simp [inCellsA, inCellsA_v p vs]
theorem inCellsA_get (p : Nat) : ∀ (vs : List A) (c j : Nat) (x : Cell Tg), (inCellsA p c vs)[j]? = some x → ∃ v, vs[j]? = some v ∧ x = ⟨v, if isRow v then .sp p (c + j) else .sc⟩
 | [], _, _, x, h => by simp [inCellsA] at h
 | v :: vs, c, 0, x, h => by simp only [inCellsA, List.getElem?_cons_zero, Option.some.injEq] at h; exact ⟨v, rfl, h.symm⟩
 | v :: vs, c, j + 1, x, h => by
  simp only [inCellsA, List.getElem?_cons_succ] at h
  obtain ⟨u, h1, h2⟩ := inCellsA_get p vs (c + 1) j x h
  exact ⟨u, by simpa using h1, by rw [h2, show c + 1 + j = c + (j + 1) by omega]⟩
theorem inSlsA_get : ∀ (xs : List (Bool × List A)) (p i : Nat) (s : SA), (inSlsA p xs)[i]? = some s → ∃ x, xs[i]? = some x ∧ s = inSlA (p + i) x.1 x.2
 | [], _, _, s, h => by simp [inSlsA] at h
 | x :: xs, p, 0, s, h => by simp only [inSlsA, List.getElem?_cons_zero, Option.some.injEq] at h; exact ⟨x, rfl, h.symm⟩
 | x :: xs, p, i + 1, s, h => by
  simp only [inSlsA, List.getElem?_cons_succ] at h
  obtain ⟨y, h1, h2⟩ := inSlsA_get xs (p + 1) i s h
  exact ⟨y, by simpa using h1, by rw [h2, show p + 1 + i = p + (i + 1) by omega]⟩
def parSh (P : Program) (m : Nat) (t : TypeId) : Option (Bool × List Sh) := (shOf P m t).map fun l => (isAggT P t, l)
section
variable {sid : Nat → Nat} {P : Program} {W : World} {H : Type} {enc : TypeId × Value → H}
theorem okWide_cells {base : Nat} {t : TypeId} {v : Value} (hv : Value.okWide P W .any base t v) {m : Nat} {l : List Sh} (hl : shOf P m t = some l) {as : List A} (hc : as.map (VA.val sid) = v.cells.toList) (hlen : as.length = l.length) :
  v = slVal sid (inSlA 0 (isAggT P t) as) ∧ (isAggT P t = false → ∃ a, as = [a]) ∧ ∀ p, slVal sid (inSlA p (isAggT P t) as) = v := by
 have agg : ∀ cs : Array Value, isAggT P t = true → v = .agg cs → v = slVal sid (inSlA 0 (isAggT P t) as) ∧ (isAggT P t = false → ∃ a, as = [a]) ∧ ∀ p, slVal sid (inSlA p (isAggT P t) as) = v := by
  intro cs h1 h2
  subst h2
  have hm : ∀ p, (inCellsA p 0 as).map (·.v.val sid) = as.map (VA.val sid) := by
   intro p
   have := congrArg (List.map (VA.val sid)) (inCellsA_v p as 0)
   rw [List.map_map] at this
   exact this
  have hcs : (as.map (VA.val sid)).toArray = cs := by
   rw [← Array.toList_inj]; exact hc
  rw [h1]
  refine ⟨?_, by simp, fun p => ?_⟩
  ·simp only [slVal, inSlA, if_true, hm, hcs]
  ·simp only [slVal, inSlA, if_true, hm, hcs]
 have one : ∀ x : Value, isAggT P t = false → v = x → v.cells = #[v] → v = slVal sid (inSlA 0 (isAggT P t) as) ∧ (isAggT P t = false → ∃ a, as = [a]) ∧ ∀ p, slVal sid (inSlA p (isAggT P t) as) = v := by
  intro x h1 _ h3
  rw [h3] at hc
  obtain ⟨a, rfl, ha⟩ := List.map_eq_singleton_iff.1 hc
  rw [h1]
  refine ⟨?_, fun _ => ⟨a, rfl⟩, fun p => ?_⟩
  ·simp [slVal, inSlA, inCellsA, ha]
  ·simp [slVal, inSlA, inCellsA, ha]
 cases m with
 | zero => simp [shOf] at hl
 | succ m =>
  unfold shOf at hl
  split at hl
  ·rename_i k ht
   obtain ⟨n, rfl⟩ := WideShapes.okWide_int ht hv
   exact one _ (by simp [isAggT, ht]) rfl rfl
  ·rename_i ht
   obtain ⟨b, rfl⟩ := WideShapes.okWide_bool ht hv
   exact one _ (by simp [isAggT, ht]) rfl rfl
  ·rename_i ht
   obtain ⟨s, rfl⟩ := WideShapes.okWide_string ht hv
   exact one _ (by simp [isAggT, ht]) rfl rfl
  ·rename_i e ht
   obtain ⟨a, len, cap, rfl⟩ := WideShapes.okWide_slice ht hv
   exact one _ (by simp [isAggT, ht]) rfl rfl
  ·rename_i fs ht
   obtain ⟨cs, rfl, _⟩ := WideShapes.okWide_struct ht hv
   exact agg cs (by simp [isAggT, ht]) rfl
  ·cases hl
theorem open_args {base : Nat} {sp : Nat → Bool} {m : Nat} : ∀ (ts : List TypeId) (ls : List (Bool × List Sh)) (vs : List Value) (ds : List (DataW H)) (ps : List MemPlace), mapO (parSh P m) ts = some ls → DataW.TrodAll enc P W 0 sp true ts vs ds ps →
  (∀ (j : Nat) t v, ts[j]? = some t → vs[j]? = some v → Value.okWide P W .any base t v) →
  ∃ xs : List (Bool × List A), (∀ p, (inSlsA p xs).map (slVal sid) = vs) ∧ xs.length = ls.length ∧ (∀ (i : Nat) x y, xs[i]? = some x → ls[i]? = some y → x.1 = y.1 ∧ FitL y.2 (x.2.map VA.er)) ∧ (∀ x ∈ xs, (x.1 = false → ∃ a, x.2 = [a]) ∧ ∀ a ∈ x.2, Rd sid W (InHeap W) a ∧ (isRow a = true ∨ scal a = true))
 | [], ls, vs, ds, ps, hls, hA, _ => by
  simp only [mapO, Option.some.injEq] at hls
  subst hls
  obtain ⟨rfl, _⟩ := ChangeShapes.trodAll_nil hA
  exact ⟨[], fun _ => rfl, rfl, by simp, by simp⟩
 | t :: ts, ls, vs, ds, ps, hls, hA, hok => by
  unfold mapO at hls
  cases h1 : parSh P m t with
  | none => simp [h1] at hls
  | some y => cases h2 : mapO (parSh P m) ts with
   | none => simp [h1, h2] at hls
   | some ys =>
    simp [h1, h2] at hls
    subst hls
    obtain ⟨v, vs', d, ds', p, q, rfl, rfl, _, hT, hA'⟩ := ChangeShapes.trodAll_cons hA
    obtain ⟨fuel, hf⟩ := hT
    unfold parSh at h1
    rw [Option.map_eq_some_iff] at h1
    obtain ⟨l, hl, rfl⟩ := h1
    obtain ⟨as, a1, a2, a3⟩ := open_trod (sid := sid) m fuel t _ _ l hl hf
    have hv := hok 0 t v rfl rfl
    obtain ⟨_, c2, c3⟩ := okWide_cells (sid := sid) hv hl a1 (by have := a2.1; simpa using this)
    obtain ⟨xs, b1, b2, b3, b4⟩ := open_args (m := m) ts ys vs' ds' q h2 hA' (fun j t' v' h3 h4 => hok (j + 1) t' v' (by simpa using h3) (by simpa using h4))
    refine ⟨(isAggT P t, as) :: xs, fun p => ?_, by simp [b2], fun i x y hx hy => ?_, fun x hx => ?_⟩
    ·simp only [inSlsA, List.map_cons, c3 p, b1 (p + 1)]
    ·cases i with
     | zero =>
      simp only [List.getElem?_cons_zero, Option.some.injEq] at hx hy
      subst hx; subst hy
      exact ⟨rfl, a2⟩
     | succ i => exact b3 i x y (by simpa using hx) (by simpa using hy)
    ·rcases List.mem_cons.1 hx with rfl | hx
     ·exact ⟨c2, a3⟩
     ·exact b4 x hx
theorem trodAll_below (hl : laidOutB P = true) {W' : World} (hb : Below W.heap.size W W') : ∀ (ts : List TypeId) (vs : List Value) (ds : List (DataW H)) (ps : List MemPlace), (∀ t ∈ ts, P.readableRec t = true ∧ t < P.types.size) → (∀ x ∈ ps, x.block < W.heap.size) →
  DataW.TrodAll enc P W 0 (fun _ => true) true ts vs ds ps → DataW.TrodAll enc P W' 0 (fun b => decide (b < W.heap.size)) true ts vs ds ps
 | [], vs, ds, ps, _, _, h => by
  obtain ⟨rfl, rfl, rfl⟩ := ChangeShapes.trodAll_nil h
  exact rfl
 | t :: ts, vs, ds, ps, ht, hlt, h => by
  obtain ⟨v, vs', d, ds', p, q, rfl, rfl, rfl, hT, hA⟩ := ChangeShapes.trodAll_cons h
  obtain ⟨h1, h2⟩ := ht t (List.mem_cons_self ..)
  exact ⟨p, q, Below.trod hl h1 h2 hT hb (fun x hx => hlt x (List.mem_append.2 (.inl hx))), trodAll_below hl hb ts vs' ds' q (fun t' ht' => ht t' (List.mem_cons_of_mem _ ht')) (fun x hx => hlt x (List.mem_append.2 (.inr hx))) hA, rfl⟩
end
def Answers (T : Nat → Option FnIr) (modes : Modes) (g : Nat) (ls : List (Bool × List Sh)) : Prop :=
 ∀ xs : List (Bool × List V), xs.length = ls.length → (∀ (i : Nat) x y, xs[i]? = some x → ls[i]? = some y → x.1 = y.1 ∧ FitL y.2 x.2) → ∃ n f, evalFn T modes n g (inSls 0 xs) = some ⟨[⟨.val, [⟨.bool true, f⟩]⟩], [], none⟩
theorem law_contract {C : Checked} {sid : Nat → Nat} {canon : Nat → Option Nat} {modes : Modes} {T : Nat → Option FnIr} (ht : FnTab C.prog sid canon T) {g m : Nat} {fn : Func} {ls : List (Bool × List Sh)} (hls : mapO (parSh C.prog m) fn.params.toList = some ls)
  (hans : Answers T modes g ls) {s : ChangeSpec} (hvars : s.vars = []) (hfn : ∀ (H : Type) (ds : List (DataW H)), ds.length = fn.params.size → s.fn H ds = { results := [.lit (.bool true)], args := ds })
  {tb : TypeId} (hres : fn.resultTypes = #[tb]) (htb : C.prog.underlying tb = some .bool) (hlaid : laidOutB C.prog = true) (hread : ∀ t ∈ fn.params.toList, C.prog.readableRec t = true ∧ t < C.prog.types.size)
  {H : Type} {enc : TypeId × Value → H} {fresh handsOn : Bool} (W : World) (base : Nat) (args : Array Value) (ds gs : List (DataW H)) (before : List MemPlace)
  (hval : ∀ (j : Nat) t v, fn.params[j]? = some t → args[j]? = some v → Value.okWide C.prog W .any base t v) (hW : DataW.Whole enc C.prog fn.params.toList s.vars false W args.toList ds gs before) :
  Calls C.prog (sid g) args W fun e W' => ∃ v, e = .returned v ∧ s.post enc C.prog fn false fresh handsOn false W args v W' := by
 have hW' := hW
 obtain ⟨p, q, hA, hV, rfl, _, _⟩ := hW
 rw [hvars] at hV
 obtain ⟨rfl, rfl⟩ := ChangeShapes.trodVars_none hV
 obtain ⟨xs, x1, x2, x3, x4⟩ := open_args (sid := sid) fn.params.toList ls args.toList ds p hls hA (fun j t v h1 h2 => hval j t v (by rw [← Array.getElem?_toList]; exact h1) (by rw [← Array.getElem?_toList]; exact h2))
 obtain ⟨n, fl, hrun⟩ := hans (xs.map fun x => (x.1, x.2.map VA.er)) (by simp [x2]) (fun i x y hx hy => by
  rw [List.getElem?_map, Option.map_eq_some_iff] at hx
  obtain ⟨x0, hx0, rfl⟩ := hx
  exact x3 i x0 y hx0 hy)
 rw [← inSlsA_er] at hrun
 obtain ⟨E0, hE0⟩ : ∃ E0 : Env, E0 = ⟨C.prog, sid, 0, 0, fun _ _ => False, fun _ => False, fun _ _ => none, fun _ => none, ⟨none, 0, 0⟩⟩ := ⟨_, rfl⟩
 have hentry : Entry (viewOf E0 W (InHeap W) (inSlsA 0 xs)) W (inSlsA 0 xs) := by
  refine entry_vals (fun b j hb => hb) (fun i z hz => ?_)
  obtain ⟨x, hx, rfl⟩ := inSlsA_get xs 0 i z hz
  rw [Nat.zero_add]
  obtain ⟨q1, q2⟩ := x4 x (List.mem_of_getElem? hx)
  have hsid : E0.sid = sid := by rw [hE0]
  refine ⟨?_, fun E' hs' hE hpar c y hy => ?_, fun c y hy => ?_⟩
  ·cases hb : x.1 with
   | true => exact .inr (by simp [inSlA])
   | false =>
    obtain ⟨a, ha⟩ := q1 hb
    exact .inl ⟨by simp [inSlA], ⟨a, if isRow a then .sp i 0 else .sc⟩, by simp [inSlA, ha, inCellsA]⟩
  ·obtain ⟨v, hv, rfl⟩ := inCellsA_get i x.2 0 c y hy
   have h1 := hE c _ hy
   have h2 := hpar c _ hy
   rw [Nat.zero_add]
   simp only at h1 h2
   obtain ⟨_, hk⟩ := q2 v (List.mem_of_getElem? hv)
   cases hrow : isRow v with
   | true =>
    simp only [if_true]
    exact ⟨⟨hrow, by rw [hs']; exact h1, h2⟩, .inr (.inl ⟨_, _, rfl⟩)⟩
   | false =>
    rw [hrow] at hk
    simp only [Bool.false_eq_true, if_false, false_or] at hk ⊢
    exact ⟨hk, .inl trivial⟩
  ·obtain ⟨v, hv, rfl⟩ := inCellsA_get i x.2 0 c y hy
   rw [hsid]
   exact (q2 v (List.mem_of_getElem? hv)).1
 have hk := fn_keeps (modes := modes) ht n g (viewOf E0 W (InHeap W) (inSlsA 0 xs)) W (inSlsA 0 xs) _ (by rw [hE0]; rfl) (by rw [hE0]; rfl) hentry hrun
 rw [x1 0] at hk
 have hcalls := hk.2
 have hargs : args.toList.toArray = args := by simp
 rw [hargs] at hcalls
 refine Calls.mono hcalls ?_
 rintro e W' ⟨v, rs, outs, C', rfl, hl⟩
 have hsid : (viewOf E0 W (InHeap W) (inSlsA 0 xs)).sid = sid := by rw [hE0]; rfl
 have hv : v = .bool true := by
  have h1 := hl.er
  have h2 := hl.val
  match rs, h1, h2 with
  | [r], h1, h2 =>
   simp only [List.map_cons, List.map_nil, List.cons.injEq, and_true] at h1
   obtain ⟨k, cs⟩ := r
   simp only [Sl.er, Sl.mk.injEq] at h1
   obtain ⟨h3, h4⟩ := h1
   cases k <;> simp [Kd.er] at h3
   obtain ⟨c, rfl, hc⟩ := List.map_eq_singleton_iff.1 h4
   obtain ⟨cv, cf⟩ := c
   simp only [Cell.er, Cell.mk.injEq] at hc
   have := er_bool hc.1
   subst this
   rw [h2]; rfl
  | [], h1, _ => simp at h1
  | r :: r' :: rs, h1, _ => simp at h1
 subst hv
 have hb : Below W.heap.size W W' := ⟨hl.frame.os, hl.frame.tape, hl.frame.output, hl.frame.size, fun b hb => hl.frame.block b hb (fun hc => hc)⟩
 have hlt : ∀ x ∈ p, x.block < W.heap.size := fun x hx => by
  simp only [List.append_nil] at hW'
  exact hW'.lt x hx
 refine ⟨.bool true, rfl, ds, [], p ++ [], [], p, [], hW', ?_, ?_, ?_, ?_, by simp⟩
 ·have hdl : ds.length = fn.params.size := by
   have := hA
   clear hW' hval hrun hk hcalls hl hlt x1 x2 x3 x4 hentry hls hread
   have key : ∀ (ts : List TypeId) (vs : List Value) (ds : List (DataW H)) (ps : List MemPlace), DataW.TrodAll enc C.prog W 0 (fun _ => true) true ts vs ds ps → ds.length = ts.length := by
    intro ts
    induction ts with
    | nil =>
     intro vs ds ps h
     obtain ⟨_, rfl, _⟩ := ChangeShapes.trodAll_nil h
     rfl
    | cons t ts ih =>
     intro vs ds ps h
     obtain ⟨v, vs', d, ds', p, q, rfl, rfl, rfl, _, h2⟩ := ChangeShapes.trodAll_cons h
     simp [ih vs' ds' q h2]
   simpa using key _ _ _ _ this
  rw [List.append_nil, hfn H ds hdl, hres]
  exact ChangeShapes.trodAll_mk1 ⟨1, by simp [DataW.trod, htb, Value.cells]⟩
 ·have hdl : ds.length = fn.params.size := by
   have key : ∀ (ts : List TypeId) (vs : List Value) (ds : List (DataW H)) (ps : List MemPlace), DataW.TrodAll enc C.prog W 0 (fun _ => true) true ts vs ds ps → ds.length = ts.length := by
    intro ts
    induction ts with
    | nil =>
     intro vs ds ps h
     obtain ⟨_, rfl, _⟩ := ChangeShapes.trodAll_nil h
     rfl
    | cons t ts ih =>
     intro vs ds ps h
     obtain ⟨v, vs', d, ds', p, q, rfl, rfl, rfl, _, h2⟩ := ChangeShapes.trodAll_cons h
     simp [ih vs' ds' q h2]
   simpa using key _ _ _ _ hA
  rw [List.append_nil, hfn H ds hdl]
  exact trodAll_below hlaid hb _ _ _ _ hread hlt hA
 ·rw [hvars]
  have hdl : (s.fn H (ds ++ [])).vars = [] := by
   have key : ∀ (ts : List TypeId) (vs : List Value) (ds : List (DataW H)) (ps : List MemPlace), DataW.TrodAll enc C.prog W 0 (fun _ => true) true ts vs ds ps → ds.length = ts.length := by
    intro ts
    induction ts with
    | nil =>
     intro vs ds ps h
     obtain ⟨_, rfl, _⟩ := ChangeShapes.trodAll_nil h
     rfl
    | cons t ts ih =>
     intro vs ds ps h
     obtain ⟨v, vs', d, ds', p, q, rfl, rfl, rfl, _, h2⟩ := ChangeShapes.trodAll_cons h
     simp [ih vs' ds' q h2]
   rw [List.append_nil, hfn H ds (by simpa using key _ _ _ _ hA)]
  rw [hdl]
  rfl
 ·exact hb.frame _
end Go.Vm
end
section
namespace Go.Vm
def Ev (p : Nat → Prop) : Prop := ∃ N, ∀ n, N ≤ n → p n
theorem Ev.of {p : Nat → Prop} (h : ∀ n, p n) : Ev p := ⟨0, fun n _ => h n⟩
theorem Ev.imp {p q : Nat → Prop} (h : Ev p) (f : ∀ n, p n → q n) : Ev q := by
 obtain ⟨N, hN⟩ := h
 exact ⟨N, fun n hn => f n (hN n hn)⟩
theorem Ev.and {p q : Nat → Prop} (h : Ev p) (h' : Ev q) : Ev fun n => p n ∧ q n := by
 obtain ⟨N, hN⟩ := h
 obtain ⟨M, hM⟩ := h'
 exact ⟨N + M, fun n hn => ⟨hN n (by omega), hM n (by omega)⟩⟩
section
variable {O : Orac} {o : Nat → Orac} {modes : Modes} {nt : Nat}
def Agr {α : Type} (p : FM α) (q : Nat → FM α) (st : St) : Prop := ∀ r, p.run st = some r → Ev fun n => (q n).run st = some r ∧ (q n).log st = p.log st
theorem Agr.rfl' {α : Type} {p : FM α} {st : St} : Agr p (fun _ => p) st := fun _ h => Ev.of fun _ => ⟨h, rfl⟩
theorem FM.log_bind {α β : Type} : ∀ (p : FM α) (f : α → FM β) {st st' : St} {a : α}, p.run st = some (a, st') → (p.bind f).log st = ((p.log st).1 ++ ((f a).log st').1, (p.log st).2 ++ ((f a).log st').2)
 | .ret a, f, st, st', b, h => by
  obtain ⟨rfl, rfl⟩ := ret_run h
  simp [FM.bind, FM.log]
 | .get i k, f, st, st', b, h => by
  simp only [FM.run] at h
  cases hs : st[i]? with
  | none => rw [hs] at h; cases h
  | some s =>
   rw [hs] at h
   simp only at h
   simp only [FM.bind, FM.log, hs]
   rw [FM.log_bind (k s) f h]
   rfl
 | .set i s k, f, st, st', b, h => by
  simp only [FM.run] at h
  split at h
  ·rename_i hi
   simp only [FM.bind, FM.log, hi, if_true]
   rw [FM.log_bind k f h]
   rfl
  ·cases h
 | .fail, f, st, st', b, h => (fail_run h).elim
theorem Agr.bind {α β : Type} {p : FM α} {q : Nat → FM α} {f : α → FM β} {g : Nat → α → FM β} {st : St} (hp : Agr p q st) (hf : ∀ a st', p.run st = some (a, st') → Agr (f a) (fun n => g n a) st') : Agr (p.bind f) (fun n => (q n).bind (g n)) st := by
 intro r hr
 obtain ⟨a, st', h1, h2⟩ := FM.bind_some hr
 refine ((hp _ h1).and (hf a st' h1 r h2)).imp fun n ⟨⟨k1, k2⟩, k3, k4⟩ => ⟨?_, ?_⟩
 ·rw [FM.run_bind, k1]; exact k3
 ·rw [FM.log_bind _ _ k1, FM.log_bind _ _ h1, k2, k4]
theorem Agr.pre {α β : Type} {p : FM α} {f : α → FM β} {g : Nat → α → FM β} {st : St} (hf : ∀ a st', p.run st = some (a, st') → Agr (f a) (fun n => g n a) st') : Agr (p.bind f) (fun n => p.bind (g n)) st := Agr.bind Agr.rfl' hf
variable (h : ∀ g args r, O g args = some r → Ev fun n => o n g args = some r)
include h
theorem agr_ask {α : Type} (g : Nat) (as : List SU) (k : Option Ret → FM α) (hk : k none = .fail) (st : St) : Agr (k (O g as)) (fun n => k (o n g as)) st := by
 intro r hr
 cases hO : O g as with
 | none => rw [hO, hk] at hr; exact (fail_run hr).elim
 | some x =>
  rw [hO] at hr
  refine (h g as x hO).imp fun n hn => ?_
  simp only [hn]
  exact ⟨hr, trivial⟩
theorem agr_callVals (g : Nat) (args : List Opd) (caps : List V) (st : St) : Agr (callVals O g args caps) (fun n => callVals (o n) g args caps) st := by
 unfold callVals
 refine Agr.pre fun as st' _ => ?_
 exact agr_ask h g _ (fun x => match x with | some ⟨rs, [], none⟩ => if (as.all noCaps && caps.isEmpty) || rs.all noNo then .ret (retSl rs) else .fail | _ => .fail) rfl st'
theorem agr_callBox (g : Nat) (xs : List Opd) (r : Nat) (b : SU) (st : St) : Agr (callBox O g xs r b) (fun n => callBox (o n) g xs r b) st := by
 unfold callBox
 split
 ·split
  ·refine Agr.pre fun b' st' _ => Agr.pre fun as st'' _ => ?_
   split
   ·exact Agr.rfl'
   ·rename_i t _ _ _ _ _
    exact agr_ask h g _ (fun x => match x with | some ⟨rs, [], some cs⟩ => (opt (reBox cs b.cs)).bind fun cs' => (setS r ⟨.box t, cs'⟩).bind fun _ => .ret (retSl rs) | _ => .fail) rfl st''
  ·exact Agr.rfl'
 ·exact Agr.rfl'
theorem agr_call (op : Ir) (st : St) : Agr (evalCall O modes nt op) (fun n => evalCall (o n) modes nt op) st := by
 cases op with
 | call g args =>
  simp only [evalCall]
  split
  ·split
   ·split
    ·exact Agr.rfl'
    ·exact Agr.pre fun r st' _ => Agr.pre fun b st'' _ => agr_callBox h _ _ _ _ _
   ·exact Agr.rfl'
  ·split
   ·exact Agr.rfl'
   ·exact agr_callVals h _ _ _ _
 | callv f args =>
  simp only [evalCall]
  refine Agr.pre fun sl st' _ => ?_
  split
  ·split
   ·exact Agr.rfl'
   ·exact agr_callVals h _ _ _ _
  ·split
   ·exact Agr.rfl'
   ·exact Agr.pre fun caps st'' _ => agr_callVals h _ _ _ _
  ·exact Agr.rfl'
 | _ => exact Agr.rfl'
theorem agr_io (io : Io) (st : St) : Agr (ioF O modes nt io) (fun n => ioF (o n) modes nt io) st := by
 unfold ioF
 refine Agr.pre fun b st' _ => ?_
 cases b with
 | false => exact Agr.rfl'
 | true =>
  simp only [if_true]
  obtain ⟨d, op, gd, an⟩ := io
  unfold evalIo
  cases op <;> cases d <;> simp only <;> first | exact Agr.rfl' | exact Agr.bind (agr_call h _ _) fun _ _ _ => Agr.rfl'
theorem ev_callM (d : Option Nat) (g : Nat) (args : List Opd) (st : St) {st1 : St} (hr : callM O modes nt d g args st = some st1) : Ev fun n => callM (o n) modes nt d g args st = some st1 := by
 revert hr
 unfold callM
 split
 ·split
  ·intro hr; cases hr
  ·intro hr
   obtain ⟨sl, s2, h1, h2⟩ := runFM_some hr
   simp only [runFM, h1]
   split at h2
   ·rename_i hv
    simp only [hv, if_true]
    split at h2
    ·cases h2
    ·rename_i hs hh
     split at h2
     ·rename_i hap
      simp only [hap, if_true]
      obtain ⟨as, s3, h3, h4⟩ := runFM_some h2
      simp only [h3]
      split at h4
      ·rename_i hsc
       simp only [hsc, if_true]
       cases hO : O g (⟨sl.k, mpCells 0 sl.cs⟩ :: as) with
       | none => rw [hO] at h4; simp at h4
       | some x =>
        rw [hO] at h4
        exact (h _ _ _ hO).imp fun n hn => by rw [hn]; exact h4
      ·cases h4
     ·cases h2
   ·cases h2
 ·intro hr; cases hr
theorem ev_stepIo (io : Io) (st : St) {st1 : St} (hr : stepIo O modes nt io st = some st1) : Ev fun n => stepIo (o n) modes nt io st = some st1 ∧ logIo (o n) modes nt io st = logIo O modes nt io st := by
 unfold stepIo at hr
 split at hr
 ·rename_i he
  unfold effF at hr
  obtain ⟨b, s2, h1, h2⟩ := runFM_some hr
  have hlog : ∀ n, logIo (o n) modes nt io st = logIo O modes nt io st := fun n => by simp [logIo, he]
  cases b with
  | false =>
   refine Ev.of fun n => ⟨?_, hlog n⟩
   simp only [stepIo, he, if_true, effF, runFM, h1, Bool.false_eq_true, if_false] at h2 ⊢
   exact h2
  | true =>
   simp only [if_true] at h2
   have key : Ev fun n => stepEff (o n) modes nt io s2 = some st1 := by
    obtain ⟨d, op, gd, an⟩ := io
    unfold stepEff at h2 ⊢
    cases op <;> cases d <;> simp only at h2 ⊢ <;> first | exact Ev.of (fun _ => h2) | exact ev_callM h _ _ _ _ h2
   exact key.imp fun n hn => ⟨by simp only [stepIo, he, if_true, effF, runFM, h1]; exact hn, hlog n⟩
 ·rename_i he
  obtain ⟨u, s2, h1, h2⟩ := runFM_some hr
  simp only [Option.some.injEq] at h2
  subst h2
  refine (agr_io h io st _ h1).imp fun n ⟨k1, k2⟩ => ⟨?_, ?_⟩
  ·simp [stepIo, he, runFM, k1]
  ·simp only [logIo, he, k2]
theorem ev_stepIos : ∀ (ops : List Io) (st : St) {st1 : St}, stepIos O modes nt ops st = some st1 → Ev fun n => stepIos (o n) modes nt ops st = some st1 ∧ logs (o n) modes nt ops st = logs O modes nt ops st
 | [], st, st1, hr => Ev.of fun _ => ⟨hr, rfl⟩
 | io :: ops, st, st1, hr => by
  unfold stepIos at hr
  split at hr
  ·rename_i s2 h1
   refine ((ev_stepIo h io st h1).and (ev_stepIos ops s2 hr)).imp fun n ⟨⟨k1, k2⟩, k3, k4⟩ => ⟨?_, ?_⟩
   ·simp only [stepIos, k1]; exact k3
   ·simp only [logs, k1, h1, k2, k4]
  ·cases hr
omit h in
theorem loopN_mono {b b' : St → Option (Ex × St)} (hb : ∀ st r, b st = some r → b' st = some r) : ∀ (m m' : Nat) (st : St) {r : Ex × St}, m ≤ m' → loopN b m st = some r → loopN b' m' st = some r
 | 0, _, _, _, _, hr => by simp [loopN] at hr
 | m + 1, 0, _, _, hm, _ => by omega
 | m + 1, m' + 1, st, r, hm, hr => by
  unfold loopN at hr ⊢
  split at hr
  ·rename_i s2 h1
   rw [hb _ _ h1]
   exact loopN_mono hb m m' s2 (by omega) hr
  ·rename_i hne
   rw [hb _ _ hr]
   split
   ·rename_i s2 hs
    simp only [Option.some.injEq] at hs
    subst hs
    exact absurd hr (by intro h'; exact hne s2 h')
   ·rfl
theorem ev_code : ∀ (c : Cd) (m : Nat) (st : St) {r : Ex × St}, code O modes nt m c st = some r → Ev fun n => ∀ k, m ≤ k → code (o n) modes nt k c st = some r
 | .skip, m, st, r, hr => Ev.of fun _ _ _ => hr
 | .exit _, m, st, r, hr => Ev.of fun _ _ _ => hr
 | .ret, m, st, r, hr => Ev.of fun _ _ _ => hr
 | .bad, m, st, r, hr => by simp [code] at hr
 | .region d k0 k1 ops, m, st, r, hr => by
  unfold code at hr
  split at hr
  ·cases hr
  ·rename_i hd
   unfold region at hr
   split at hr
   ·rename_i s1 h1
    split at h1
    ·rename_i s2 h2
     refine (ev_stepIos h ops _ h2).imp fun n ⟨k1, k2⟩ k hk => ?_
     unfold code region
     rw [k2, k1]
     simp only [hd]
     simp only [Option.some.injEq] at h1
     subst h1
     exact hr
    ·cases h1
   ·cases hr
 | .seq a b, m, st, r, hr => by
  unfold code at hr
  split at hr
  ·rename_i s1 h1
   refine ((ev_code a m st h1).and (ev_code b m s1 hr)).imp fun n ⟨k1, k2⟩ k hk => ?_
   unfold code
   rw [k1 k hk]
   exact k2 k hk
  ·rename_i hne
   refine (ev_code a m st hr).imp fun n k1 k hk => ?_
   unfold code
   rw [k1 k hk]
   split
   ·rename_i s1 hs
    simp only [Option.some.injEq] at hs
    subst hs
    exact absurd hr (hne _)
   ·rfl
 | .cond x a b, m, st, r, hr => by
  unfold code at hr
  split at hr
  ·rename_i s1 h1
   exact (ev_code a m s1 hr).imp fun n k1 k hk => by unfold code; rw [h1]; exact k1 k hk
  ·rename_i s1 h1
   exact (ev_code b m s1 hr).imp fun n k1 k hk => by unfold code; rw [h1]; exact k1 k hk
  ·cases hr
 | .block id c, m, st, r, hr => by
  unfold code at hr
  split at hr
  ·rename_i id' s1 h1
   exact (ev_code c m st h1).imp fun n k1 k hk => by unfold code; rw [k1 k hk]; exact hr
  ·rename_i hne
   refine (ev_code c m st hr).imp fun n k1 k hk => ?_
   unfold code
   rw [k1 k hk]
   split
   ·rename_i id' s1 hs
    simp only [Option.some.injEq] at hs
    subst hs
    exact absurd hr (hne _ _)
   ·rfl
 | .loop c, m, st, r, hr => by
  unfold code at hr
  have key : ∀ (j : Nat) (st : St) {r : Ex × St}, loopN (code O modes nt m c) j st = some r → Ev fun n => ∀ k, m ≤ k → ∀ j', j ≤ j' → loopN (code (o n) modes nt k c) j' st = some r := by
   intro j
   induction j with
   | zero => intro st r hr; simp [loopN] at hr
   | succ j ih =>
    intro st r hr
    unfold loopN at hr
    split at hr
    ·rename_i s1 h1
     refine ((ev_code c m st h1).and (ih s1 hr)).imp fun n ⟨k1, k2⟩ k hk j' hj => ?_
     cases j' with
     | zero => omega
     | succ j' =>
      unfold loopN
      rw [k1 k hk]
      exact k2 k hk j' (by omega)
    ·rename_i hne
     refine (ev_code c m st hr).imp fun n k1 k hk j' hj => ?_
     cases j' with
     | zero => omega
     | succ j' =>
      unfold loopN
      rw [k1 k hk]
      split
      ·rename_i s1 hs
       simp only [Option.some.injEq] at hs
       subst hs
       exact absurd hr (hne _)
      ·rfl
  exact (key m st hr).imp fun n k1 k hk => by unfold code; exact k1 k hk k hk
end
theorem evalFn_succ {T : Nat → Option FnIr} {modes : Modes} : ∀ (n g : Nat) (args : List SU) (r : Ret), evalFn T modes n g args = some r → ∀ m, n ≤ m → evalFn T modes m g args = some r
 | 0, _, _, _, hr, _, _ => by simp [evalFn] at hr
 | n + 1, g, args, r, hr, 0, hm => by omega
 | n + 1, g, args, r, hr, m + 1, hm => by
  have hO : ∀ g args r, evalFn T modes n g args = some r → Ev fun _ => evalFn T modes m g args = some r := fun g args r hr => Ev.of fun _ => evalFn_succ n g args r hr m (by omega)
  have hc : ∀ {nt : Nat} {c : Cd} {st : St} {r : Ex × St}, code (evalFn T modes n) modes nt n c st = some r → code (evalFn T modes m) modes nt m c st = some r := fun hr => by
   obtain ⟨N, hN⟩ := ev_code (o := fun _ => evalFn T modes m) hO _ _ _ hr
   exact hN N (Nat.le_refl _) m (by omega)
  unfold evalFn at hr ⊢
  split at hr
  ·cases hr
  ·rename_i fn hT
   split at hr
   ·rename_i hsp
    split at hr
    ·rename_i hlen
     simp only [hsp, hlen, if_true]
     split at hr
     ·rename_i st h1
      rw [hc h1]; exact hr
     ·rename_i st h1
      rw [hc h1]; exact hr
     ·cases hr
    ·cases hr
   ·rename_i hsp
    simp only [hsp, if_false]
    exact hr
noncomputable def fix (T : Nat → Option FnIr) (modes : Modes) : Orac := fun g args =>
 open Classical in if h : ∃ r n, evalFn T modes n g args = some r then some h.choose else none
theorem fix_iff {T : Nat → Option FnIr} {modes : Modes} {g : Nat} {args : List SU} {r : Ret} : fix T modes g args = some r ↔ ∃ n, evalFn T modes n g args = some r := by
 unfold fix
 constructor
 ·intro h
  split at h
  ·rename_i he
   simp only [Option.some.injEq] at h
   subst h
   exact he.choose_spec
  ·cases h
 ·rintro ⟨n, hn⟩
  have he : ∃ r n, evalFn T modes n g args = some r := ⟨r, n, hn⟩
  rw [dif_pos he]
  obtain ⟨m, hm⟩ := he.choose_spec
  have h1 := evalFn_succ n g args _ hn (n + m) (by omega)
  have h2 := evalFn_succ m g args _ hm (n + m) (by omega)
  rw [h1] at h2
  exact h2.symm
theorem fix_ev {T : Nat → Option FnIr} {modes : Modes} : ∀ g args r, fix T modes g args = some r → Ev fun n => evalFn T modes n g args = some r := by
 intro g args r h
 obtain ⟨n, hn⟩ := fix_iff.1 h
 exact ⟨n, fun m hm => evalFn_succ n g args r hn m hm⟩
theorem fix_body {T : Nat → Option FnIr} {modes : Modes} {g : Nat} {fn : FnIr} (hT : T g = some fn) (hsp : fn.sp = 0) {args : List SU} (hlen : args.length = fn.np) (hle : fn.np ≤ fn.ntmps) {m : Nat} {ex : Ex} {st : St}
  (hc : code (fix T modes) modes fn.ntmps m fn.body (start fn (shutArgs fn.modes args)) = some (ex, st)) (hex : ex = .normal ∨ ex = .ret) {r : Ret} (hf : finish fn (shutArgs fn.modes args) st = some r) : fix T modes g args = some r := by
 obtain ⟨N, hN⟩ := ev_code (o := evalFn T modes) fix_ev _ _ _ hc
 refine fix_iff.2 ⟨N + m + 1, ?_⟩
 have := hN (N + m) (by omega) (N + m) (by omega)
 unfold evalFn
 simp only [hT, hsp, hlen, hle, and_self, if_true, this]
 rcases hex with rfl | rfl <;> exact hf
theorem fix_special {T : Nat → Option FnIr} {modes : Modes} {g : Nat} {fn : FnIr} (hT : T g = some fn) (hsp : fn.sp ≠ 0) {args : List SU} {r : Ret} (hr : special fn.sp args = some r) : fix T modes g args = some r := by
 refine fix_iff.2 ⟨1, ?_⟩
 unfold evalFn
 simp only [hT, hsp, if_false]
 exact hr
end Go.Vm
end
section
namespace Go.Vm
def look : List (Nat × SU) → Nat → SU
 | [], _ => dead
 | (k, s) :: m, i => if i = k then s else look m i
def ins : List (Nat × SU) → Nat → SU → List (Nat × SU)
 | [], i, s => [(i, s)]
 | (k, t) :: m, i, s => if i = k then (i, s) :: m else if i < k then (i, s) :: (k, t) :: m else (k, t) :: ins m i s
def del : List (Nat × SU) → Nat → List (Nat × SU)
 | [], _ => []
 | (k, t) :: m, i => if i = k then del m i else (k, t) :: del m i
def kil (ks : List Nat) : List (Nat × SU) → List (Nat × SU)
 | [] => []
 | (k, s) :: m => if ks.contains k then kil ks m else (k, cutRef ks (settleS s)) :: kil ks m
def los : List (Nat × SU) → List (Nat × SU)
 | [] => []
 | (k, s) :: m => (k, loseS s) :: los m
def S (L : Nat) (m : List (Nat × SU)) : St := (List.range L).map (look m)
theorem S_len (L : Nat) (m : List (Nat × SU)) : (S L m).length = L := by simp [S]
theorem S_get (L : Nat) (m : List (Nat × SU)) (i : Nat) : (S L m)[i]? = if i < L then some (look m i) else none := by
 unfold S
 rw [List.getElem?_map]
 split
 ·rename_i h; rw [List.getElem?_range h]; rfl
 ·rename_i h; rw [List.getElem?_eq_none (by simpa using h)]; rfl
theorem S_ext {L : Nat} {m : List (Nat × SU)} {st : St} (hl : st.length = L) (h : ∀ i, i < L → st[i]? = some (look m i)) : st = S L m := by
 apply List.ext_getElem?
 intro i
 rw [S_get]
 split
 ·rename_i hi; exact h i hi
 ·rename_i hi; exact List.getElem?_eq_none (by omega)
theorem look_ins : ∀ (m : List (Nat × SU)) (i j : Nat) (s : SU), look (ins m i s) j = if j = i then s else look m j
 | [], i, j, s => by simp [ins, look]
 | (k, t) :: m, i, j, s => by
  unfold ins
  split
  ·rename_i h; subst h
   simp only [look]
   split <;> rfl
  ·split
   ·simp only [look]
   ·rename_i h1 h2
    simp only [look]
    rw [look_ins m i j s]
    split
    ·rename_i h3; subst h3
     rw [if_neg (fun e => h1 e.symm)]
    ·rfl
theorem look_del : ∀ (m : List (Nat × SU)) (i j : Nat), look (del m i) j = if j = i then dead else look m j
 | [], i, j => by simp [del, look]
 | (k, t) :: m, i, j => by
  unfold del
  split
  ·rename_i h; subst h
   rw [look_del m i j]
   split
   ·rfl
   ·rename_i h; simp [look, h]
  ·rename_i h1
   simp only [look]
   rw [look_del m i j]
   split
   ·rename_i h3; subst h3
    rw [if_neg (fun e => h1 e.symm)]
   ·rfl
theorem S_set (L : Nat) (m : List (Nat × SU)) (i : Nat) (s : SU) : (S L m).set i s = S L (ins m i s) := by
 refine S_ext (by simp [S_len]) fun j hj => ?_
 rw [look_ins, List.getElem?_set, S_len, S_get, if_pos hj]
 by_cases h : i = j
 ·subst h; simp [hj]
 ·rw [if_neg h, if_neg (fun e => h e.symm)]
theorem S_del (L : Nat) (m : List (Nat × SU)) (i : Nat) : (S L m).set i dead = S L (del m i) := by
 refine S_ext (by simp [S_len]) fun j hj => ?_
 rw [look_del, List.getElem?_set, S_len, S_get, if_pos hj]
 by_cases h : i = j
 ·subst h; simp [hj]
 ·rw [if_neg h, if_neg (fun e => h e.symm)]
theorem look_kil (ks : List Nat) : ∀ (m : List (Nat × SU)) (j : Nat), look (kil ks m) j = if ks.contains j then dead else cutRef ks (settleS (look m j))
 | [], j => by simp [kil, look, dead, settleS, cutRef]
 | (k, s) :: m, j => by
  unfold kil
  split
  ·rename_i h
   rw [look_kil ks m j]
   split
   ·rfl
   ·rename_i hj
    simp only [look]
    rw [if_neg (fun e => by subst e; exact hj h)]
  ·rename_i h
   simp only [look]
   rw [look_kil ks m j]
   split
   ·rename_i e; subst e; rw [if_neg h]
   ·rfl
theorem killIn_get (ks : List Nat) : ∀ (st : St) (c i : Nat), (killIn ks c st)[i]? = (st[i]?).map fun s => if ks.contains (c + i) then dead else cutRef ks (settleS s)
 | [], _, _ => by simp [killIn]
 | s :: r, c, 0 => by simp [killIn]
 | s :: r, c, i + 1 => by
  simp only [killIn, List.getElem?_cons_succ]
  rw [killIn_get ks r (c + 1) i, show c + 1 + i = c + (i + 1) by omega]
theorem killIn_len (ks : List Nat) : ∀ (st : St) (c : Nat), (killIn ks c st).length = st.length
 | [], _ => rfl
 | s :: r, c => by simp [killIn, killIn_len ks r (c + 1)]
theorem S_kill (nt L : Nat) (ks : List Nat) (m : List (Nat × SU)) : killAll nt ks (S L m) = S L (kil (lockS nt :: ks) m) := by
 unfold killAll
 refine S_ext (by rw [killIn_len, S_len]) fun j hj => ?_
 rw [killIn_get, S_get, if_pos hj, look_kil, Nat.zero_add]
 rfl
theorem look_los : ∀ (m : List (Nat × SU)) (j : Nat), look (los m) j = loseS (look m j)
 | [], j => by simp [los, look, dead, loseS]
 | (k, s) :: m, j => by
  simp only [los, look]
  rw [look_los m j]
  split <;> rfl
theorem S_lose (L : Nat) (m : List (Nat × SU)) : lose (S L m) = S L (los m) := by
 unfold lose
 refine S_ext (by simp [S_len]) fun j hj => ?_
 rw [List.getElem?_map, S_get, if_pos hj, look_los]
 rfl
def enumS : Nat → List SU → List (Nat × SU)
 | _, [] => []
 | i, s :: r => (i, s) :: enumS (i + 1) r
theorem look_enum : ∀ (l : List SU) (c j : Nat), look (enumS c l) j = if c ≤ j then (l[j - c]?).getD dead else dead
 | [], c, j => by simp [enumS, look]
 | s :: r, c, j => by
  simp only [enumS, look]
  rw [look_enum r (c + 1) j]
  by_cases h : j = c
  ·subst h; simp
  ·rw [if_neg h]
   by_cases h2 : c ≤ j
   ·rw [if_pos h2, if_pos (by omega), show j - c = (j - (c + 1)) + 1 by omega, List.getElem?_cons_succ]
   ·rw [if_neg h2, if_neg (by omega)]
theorem look_app_ne : ∀ (m : List (Nat × SU)) (k j : Nat) (s : SU), j ≠ k → look (m ++ [(k, s)]) j = look m j
 | [], k, j, s, h => by simp [look, h]
 | (k', t) :: m, k, j, s, h => by
  simp only [List.cons_append, look]
  rw [look_app_ne m k j s h]
theorem look_app_eq : ∀ (m : List (Nat × SU)) (k : Nat) (s : SU), (∀ t, (k, t) ∉ m) → look (m ++ [(k, s)]) k = s
 | [], k, s, _ => by simp [look]
 | (k', t) :: m, k, s, h => by
  simp only [List.cons_append, look]
  rw [if_neg (fun e => h t (by rw [e]; exact List.mem_cons_self ..)), look_app_eq m k s (fun t ht => h t (List.mem_cons_of_mem _ ht))]
theorem start_S {fn : FnIr} {args : List SU} (hl : args.length = fn.np) (hle : fn.np ≤ fn.ntmps) (hb : ∀ s r t, args = s :: r → s.k ≠ .box t) : start fn args = S (2 * fn.ntmps + 2) (enumS 0 args) := by
 have hs : start fn args = (args ++ List.replicate (fn.ntmps - fn.np) dead) ++ (List.replicate (fn.ntmps + 1) dead ++ [dead]) := by
  unfold start
  split
  ·rename_i t cs r; exact absurd rfl (hb _ _ _ rfl)
  ·rfl
 rw [hs]
 refine S_ext (by simp; omega) fun j hj => ?_
 rw [look_enum, if_pos (Nat.zero_le _), Nat.sub_zero]
 by_cases h : j < args.length
 ·rw [List.append_assoc, List.getElem?_append_left h]
  rw [List.getElem?_eq_getElem h]; rfl
 ·rw [List.append_assoc, List.getElem?_append_right (by omega), List.getElem?_eq_none (Nat.le_of_not_lt h)]
  have : (List.replicate (fn.ntmps - fn.np) dead ++ (List.replicate (fn.ntmps + 1) dead ++ [dead])) = List.replicate (fn.ntmps - fn.np + (fn.ntmps + 1) + 1) dead := by
   rw [show ([dead] : List SU) = List.replicate 1 dead from rfl, List.replicate_append_replicate, List.replicate_append_replicate]
   congr 1
  rw [this, List.getElem?_replicate, if_pos (by omega)]
  rfl
theorem start_box {fn : FnIr} {t : Unit} {cs : List (Cell Unit)} {r : List SU} (hl : r.length + 1 = fn.np) (hle : fn.np ≤ fn.ntmps) : start fn (⟨.box t, cs⟩ :: r) = S (2 * fn.ntmps + 2) (enumS 0 (⟨.ptr (lockS fn.ntmps + 1) 0, []⟩ :: r) ++ [(lockS fn.ntmps + 1, ⟨.box t, cs⟩)]) := by
 have hs : start fn (⟨.box t, cs⟩ :: r) = (⟨.ptr (lockS fn.ntmps + 1) 0, []⟩ :: (r ++ List.replicate (fn.ntmps - fn.np) dead)) ++ (List.replicate (fn.ntmps + 1) dead ++ [⟨.box t, cs⟩]) := rfl
 rw [hs]
 have hr : r.length + 1 ≤ fn.ntmps := by omega
 have key : ∀ (l : List SU) (x : SU), l.length = 2 * fn.ntmps + 1 → ∀ m, (∀ j, j < 2 * fn.ntmps + 1 → l[j]? = some (look m j)) → (∀ t, (2 * fn.ntmps + 1, t) ∉ m) → l ++ [x] = S (2 * fn.ntmps + 2) (m ++ [(2 * fn.ntmps + 1, x)]) := by
  intro l x hlen m hm hno
  refine S_ext (by simp; omega) fun j hj => ?_
  by_cases h : j < 2 * fn.ntmps + 1
  ·rw [List.getElem?_append_left (by omega), hm j h, look_app_ne _ _ _ _ (by omega)]
  ·have : j = 2 * fn.ntmps + 1 := by omega
   subst this
   rw [List.getElem?_append_right (by omega), hlen, look_app_eq _ _ _ hno]
   simp
 have hlk : lockS fn.ntmps + 1 = 2 * fn.ntmps + 1 := rfl
 rw [hlk, ← List.append_assoc]
 have hmem : ∀ (l : List SU) (c j : Nat) (t : SU), (j, t) ∈ enumS c l → j < c + l.length := by
  intro l
  induction l with
  | nil => intro c j t h; simp [enumS] at h
  | cons s l ih =>
   intro c j t h
   simp only [enumS, List.mem_cons, Prod.mk.injEq] at h
   rcases h with ⟨rfl, _⟩ | h
   ·simp
   ·have := ih _ _ _ h; simp; omega
 refine key _ _ (by simp; omega) _ (fun j hj => ?_) (fun t ht => ?_)
 ·rw [look_enum, if_pos (Nat.zero_le _), Nat.sub_zero]
  have e : ((⟨.ptr (2 * fn.ntmps + 1) 0, []⟩ : SU) :: (r ++ List.replicate (fn.ntmps - fn.np) dead)) ++ List.replicate (fn.ntmps + 1) dead = (⟨.ptr (2 * fn.ntmps + 1) 0, []⟩ :: r) ++ List.replicate (fn.ntmps - fn.np + (fn.ntmps + 1)) dead := by
   rw [List.cons_append, List.cons_append, List.append_assoc, List.replicate_append_replicate]
  rw [e]
  by_cases h : j < ((⟨.ptr (2 * fn.ntmps + 1) 0, []⟩ : SU) :: r).length
  ·rw [List.getElem?_append_left h, List.getElem?_eq_getElem h]; rfl
  ·rw [List.getElem?_append_right (by omega), List.getElem?_eq_none (Nat.le_of_not_lt h), List.getElem?_replicate]
   simp only [List.length_cons] at h ⊢
   rw [if_pos (by omega)]
   rfl
 ·have := hmem _ _ _ _ ht
  simp only [List.length_cons] at this
  omega
end Go.Vm
end
section
namespace Go.Vm
structure Prims where
 add : IntKind → Int → Int → Int
 sub : IntKind → Int → Int → Int
 mul : IntKind → Int → Int → Int
 arith : BinOp → IntKind → Int → Int → Option V
 eq : Int → Int → Bool
 ne : Int → Int → Bool
 lt : Int → Int → Bool
 le : Int → Int → Bool
 gt : Int → Int → Bool
 ge : Int → Int → Bool
 neg : IntKind → Int → Int
 conv : IntKind → Int → Int
 mn : Int → Int → Int
 mx : Int → Int → Int
 not : Bool → Bool
 beq : Bool → Bool → Bool
 len : List (List V) → Int
 at' : Nat → List (List V) → Int → Option (Nat × List V)
 ln : List (List V) → Nat
 bd : Nat → Int → Option Nat
 cut : Nat → List (List V) → Nat → Nat → Option (List (List V))
 app : Nat → List (List V) → List (List V) → Option (List (List V))
 allS : List (List V) → Bool
 isNil : List (List V) → Bool
 mks : List V → Int → Int → Option (List (List V))
 set : List (List V) → Nat → List V → Option (List (List V))
def stdAt (k : Nat) (es : List (List V)) (i : Int) : Option (Nat × List V) := match idx es.length i with
 | none => none
 | some j => match es[j]? with
  | none => none
  | some e => if k ≠ 0 ∧ e.length = k ∧ es.all (fun e => e.length = k) then some (j * k, e) else none
def stdBd (n : Nat) (i : Int) : Option Nat := if 0 ≤ i ∧ i ≤ n then some i.toNat else none
def stdCut (k : Nat) (es : List (List V)) (h l : Nat) : Option (List (List V)) := if es.all (fun e => e.length = k) then some ((es.take h).drop l) else none
def stdApp (k : Nat) (es ys : List (List V)) : Option (List (List V)) := if rowsOf k es ∧ rowsOf k ys ∧ es.length + ys.length ≤ lim then some (es ++ ys) else none
def stdNil (es : List (List V)) : Bool := match es with
 | [] => true
 | _ :: _ => false
def stdMk (z : List V) (n m : Int) : Option (List (List V)) := if n = m ∧ 0 ≤ n ∧ n ≤ lim ∧ !z.isEmpty then some (List.replicate n.toNat z) else none
def std : Prims where
 add k x y := k.wrap (x + y)
 sub k x y := k.wrap (x - y)
 mul k x y := k.wrap (x * y)
 arith op k x y := match op with
  | .shl => shiftV .shl k x y
  | .shr => shiftV .shr k x y
  | op => binInt op k x y
 eq x y := x == y
 ne x y := x != y
 lt x y := x < y
 le x y := x ≤ y
 gt x y := x > y
 ge x y := x ≥ y
 neg k n := k.wrap (0 - n)
 conv k n := k.wrap n
 mn a b := if b < a then b else a
 mx a b := if b > a then b else a
 not b := !b
 beq a b := a == b
 len es := es.length
 at' := stdAt
 ln es := es.length
 bd := stdBd
 cut := stdCut
 app := stdApp
 allS := allScal
 isNil := stdNil
 mks := stdMk
 set := setFlat
def isSh : BinOp → Bool
 | .shl | .shr => true
 | _ => false
def binP (P : Prims) (op : BinOp) (a b : V) : FM V := match a, b with
 | .int k x, .int k' y =>
  match isSh op || decide (k = k') with
  | true => match op with
   | .add => .ret (.int k (P.add k x y))
   | .sub => .ret (.int k (P.sub k x y))
   | .mul => .ret (.int k (P.mul k x y))
   | .eql => .ret (.bool (P.eq x y))
   | .neq => .ret (.bool (P.ne x y))
   | .lss => .ret (.bool (P.lt x y))
   | .leq => .ret (.bool (P.le x y))
   | .gtr => .ret (.bool (P.gt x y))
   | .geq => .ret (.bool (P.ge x y))
   | op => opt (P.arith op k x y)
  | false => .fail
 | _, _ => .fail
def boundP (f : Int → Option Nat) (d : Nat) : Option Opd → FM Nat
 | none => .ret d
 | some x => (intOf' x).bind fun y => opt (f y.2)
def takeElemsP (P : Prims) (es : List (List V)) (y : Opd) : FM (List (List V) × Lv) :=
 match P.allS es with
 | true => .ret (es, .own)
 | false => (take y).bind fun z => match z with
  | (false, [⟨.row _ es', .ow false⟩]) => .ret (es', .own)
  | (false, [⟨.row _ es', .os _⟩]) => .ret (es', .fre)
  | _ => .ret (es, .any)
def append1P (P : Prims) (k : Nat) (ok : Lv) (es ys : List (List V)) (f : Fl) : FM SU :=
 match P.app k es ys with
 | none => .fail
 | some es' => match f with
  | .ow false => .ret ⟨.val, [⟨.row () es', rowFl ok⟩]⟩
  | .ow true => match decide (k = 1), P.allS ys with
   | true, true => .ret ⟨.val, [⟨.row () es', .ow (P.isNil ys)⟩]⟩
   | _, _ => .fail
  | .nl => match P.isNil ys with
   | true => .ret ⟨.val, [⟨.row () es', .nl⟩]⟩
   | false => .ret ⟨.val, [⟨.row () es', rowFl ok⟩]⟩
  | .os _ => .ret ⟨.val, [⟨.row () es', rowFl (Lv.and .fre ok)⟩]⟩
  | _ => .fail
def evalIrP (P : Prims) (nt : Nat) : Ir → FM SU
 | .pick c a b => (boolOf' c).bind fun c => match c with
  | true => (boolOf' a).bind fun v => .ret (sval (.bool v))
  | false => (boolOf' b).bind fun v => .ret (sval (.bool v))
 | .bin op x y => (one x).bind fun a => (one y).bind fun b => (binP P op a.v b.v).bind fun v => .ret (sval v)
 | .beq neg x y => (boolOf' x).bind fun a => (boolOf' y).bind fun b => .ret (sval (.bool (match neg with | true => P.not (P.beq a b) | false => P.beq a b)))
 | .un op x => (one x).bind fun a => (match op, a.v with
  | .neg, .int k n => .ret (sval (.int k (P.neg k n)))
  | .not, .bool b => .ret (sval (.bool (P.not b)))
  | _, _ => .fail)
 | .conv k x => (intOf' x).bind fun y => .ret (sval (.int k (P.conv k y.2)))
 | .len ofStr x => (one x).bind fun c =>
  match ofStr, c.v with
  | false, .row _ es => .ret (sval (.int .i64 (P.len es)))
  | true, .str s => .ret (sval (.int .i64 s.size))
  | _, _ => .fail
 | .min x y => (intOf' x).bind fun a => (intOf' y).bind fun b => .ret (sval (.int a.1 (P.mn a.2 b.2)))
 | .max x y => (intOf' x).bind fun a => (intOf' y).bind fun b => .ret (sval (.int a.1 (P.mx a.2 b.2)))
 | .append k x y => (rowOf y).bind fun ys =>
  match decide (k = 0) with
  | true => .fail
  | false => (one x).bind fun c =>
   match c.v, c.f with
   | .row _ es, .cp .own s' c' (some ix) =>
    (getS s').bind fun sl =>
    (getS (lockS nt)).bind fun l =>
    match flAt sl c', l.k with
    | some (.ow false), .dead =>
     match P.allS es, P.allS ys.1, P.app k es ys.1 with
     | true, true, some es' => (setS (lockS nt) ⟨.und, []⟩).bind fun _ => .ret ⟨.val, [⟨.row () es', .ap s' c' ix⟩]⟩
     | _, _, _ => .fail
    | _, _ => .fail
   | _, _ =>
    (take x).bind fun xs =>
    (takeElemsP P ys.1 y).bind fun z =>
    match xs with
    | (false, [⟨.row _ es, f⟩]) => append1P P k z.2 es z.1 f
    | _ => .fail
 | .slice k x lo hi => (rowOf x).bind fun r =>
  (boundP (P.bd (P.ln r.1)) (P.ln r.1) hi).bind fun h => (boundP (P.bd h) 0 lo).bind fun l =>
  (opt (P.cut k r.1 h l)).bind fun es => .ret ⟨.val, [⟨.row () es, sliceFl r.2⟩]⟩
 | .iaddr k x i => (rowOf x).bind fun r => (intOf' i).bind fun n =>
  (opt (P.at' k r.1 n.2)).bind fun e =>
   .ret ⟨.ept () (match r.2 with | .cp _ s c none => some (s, c) | _ => none) e.1, e.2.map (elemCell r.2)⟩
 | .mkslice z l c => (intOf' l).bind fun n => (intOf' c).bind fun m => (opt (P.mks z n.2 m.2)).bind fun es => .ret ⟨.val, [⟨.row () es, .ow false⟩]⟩
 | op => evalIr nt op
theorem bind_ext {α β : Type} {p : FM α} {f g : α → FM β} (h : ∀ a, f a = g a) : p.bind f = p.bind g := by
 have : f = g := funext h
 rw [this]
theorem FM.bind_assoc {α β γ : Type} : ∀ (p : FM α) (f : α → FM β) (g : β → FM γ), (p.bind f).bind g = p.bind fun x => (f x).bind g
 | .ret a, f, g => rfl
 | .get i k, f, g => by
  simp only [FM.bind]
  congr 1
  funext s
  exact FM.bind_assoc (k s) f g
 | .set i s k, f, g => by
  simp only [FM.bind]
  congr 1
  exact FM.bind_assoc k f g
 | .fail, f, g => rfl
theorem binP_std (op : BinOp) (a b : V) : binP std op a b = opt (binV op a b) := by
 unfold binP binV
 split
 ·rename_i k x k' y
  by_cases hk : k = k'
  ·subst hk
   cases op <;> simp [isSh, std, binInt, opt]
  ·cases op <;> simp [isSh, std, hk, opt]
 ·rename_i h
  split
  ·rename_i k x k' y
   exact absurd rfl (h k x k' y rfl)
  ·rfl
theorem bound_std (n d : Nat) (o : Option Opd) : boundP (stdBd n) d o = bound n d o := by
 unfold boundP bound
 cases o with
 | none => rfl
 | some x =>
  refine bind_ext fun y => ?_
  unfold stdBd
  split <;> rfl
theorem takeElems_std (es : List (List V)) (y : Opd) : takeElemsP std es y = takeElems es y := by
 unfold takeElemsP takeElems
 show (match allScal es with | true => _ | false => _) = _
 cases allScal es <;> rfl
theorem append1_std (k : Nat) (ok : Lv) (es ys : List (List V)) (f : Fl) : append1P std k ok es ys f = append1 k ok es ys f := by
 unfold append1P append1
 show (match stdApp k es ys with | none => _ | some es' => _) = _
 unfold stdApp
 split
 ·rename_i h
  split at h
  ·cases h
  ·rename_i hc; rw [if_neg hc]
 ·rename_i es' h
  split at h
  ·rename_i hc
   rw [if_pos hc]
   simp only [Option.some.injEq] at h
   subst h
   split
   ·rfl
   ·show (match decide (k = 1), allScal ys with | true, true => _ | _, _ => _) = _
    by_cases h1 : k = 1
    ·cases h2 : allScal ys
     ·simp [h1]
     ·simp only [h1, decide_true, and_self, if_true, std, stdNil]
      cases ys <;> rfl
    ·simp [h1]
   ·show (match stdNil ys with | true => _ | false => _) = _
    cases ys <;> rfl
   ·rfl
   ·rename_i h1 h2 h3 h4
    split
    ·exact (h1 rfl).elim
    ·exact (h2 rfl).elim
    ·exact (h3 rfl).elim
    ·exact (h4 _ rfl).elim
    ·rfl
  ·cases h
theorem evalIr_std (nt : Nat) (op : Ir) : evalIrP std nt op = evalIr nt op := by
 cases op with
 | pick c a b =>
  refine bind_ext fun c => ?_
  cases c <;> rfl
 | bin op x y =>
  refine bind_ext fun a => bind_ext fun b => ?_
  rw [binP_std]
 | beq neg x y =>
  refine bind_ext fun a => bind_ext fun b => ?_
  cases neg <;> rfl
 | un op x =>
  refine bind_ext fun a => ?_
  obtain ⟨v, f⟩ := a
  cases op <;> cases v <;> rfl
 | conv k x => rfl
 | len ofStr x => rfl
 | min x y => rfl
 | max x y => rfl
 | append k x y =>
  refine bind_ext fun ys => ?_
  by_cases hk : k = 0
  ·simp [hk]
  ·simp only [hk, decide_false, if_false]
   refine bind_ext fun c => ?_
   have other : ((take x).bind fun xs => (takeElemsP std ys.1 y).bind fun z => match xs with
     | (false, [⟨.row _ es, f⟩]) => append1P std k z.2 es z.1 f
     | _ => .fail) = ((take x).bind fun xs => (takeElems ys.1 y).bind fun z => match xs with
     | (false, [⟨.row _ es, f⟩]) => append1 k z.2 es z.1 f
     | _ => .fail) := by
    refine bind_ext fun xs => ?_
    rw [takeElems_std]
    refine bind_ext fun z => ?_
    split
    ·rw [append1_std]
    ·rfl
   have main : ∀ (es : List (List V)) (s' c' ix : Nat), (((getS s').bind fun sl => (getS (lockS nt)).bind fun l => match flAt sl c', l.k with
     | some (.ow false), .dead => (match std.allS es, std.allS ys.1, std.app k es ys.1 with
      | true, true, some es' => (setS (lockS nt) ⟨.und, []⟩).bind fun _ => (FM.ret ⟨.val, [⟨.row () es', .ap s' c' ix⟩]⟩ : FM SU)
      | _, _, _ => .fail)
     | _, _ => .fail) : FM SU) = ((getS s').bind fun sl => (getS (lockS nt)).bind fun l => match flAt sl c', l.k with
     | some (.ow false), .dead => if allScal es ∧ allScal ys.1 ∧ rowsOf k es ∧ rowsOf k ys.1 ∧ es.length + ys.1.length ≤ lim then (setS (lockS nt) ⟨.und, []⟩).bind fun _ => (FM.ret ⟨.val, [⟨.row () (es ++ ys.1), .ap s' c' ix⟩]⟩ : FM SU) else .fail
     | _, _ => .fail) := by
    intro es s' c' ix
    refine bind_ext fun sl => bind_ext fun l => ?_
    split
    ·show (match allScal es, allScal ys.1, stdApp k es ys.1 with | true, true, some es' => _ | _, _, _ => _) = _
     unfold stdApp
     cases h1 : allScal es with
     | false => simp
     | true => cases h2 : allScal ys.1 with
      | false => simp
      | true =>
       simp only [true_and]
       by_cases hd : rowsOf k es = true ∧ rowsOf k ys.1 = true ∧ es.length + ys.1.length ≤ lim
       ·simp only [hd, and_self, if_true]
       ·simp only [hd, if_false]
    ·rfl
   obtain ⟨v, f⟩ := c
   cases v with
   | row t es =>
    cases f with
    | cp m s' c' ix =>
     cases ix with
     | some ix => cases m with
      | own => exact main es s' c' ix
      | grn => exact other
      | chg => exact other
      | spn => exact other
     | none => cases m <;> exact other
    | _ => exact other
   | _ => exact other
 | slice k x lo hi =>
  refine bind_ext fun r => ?_
  show (boundP (stdBd r.1.length) r.1.length hi).bind _ = _
  rw [bound_std]
  refine bind_ext fun h => ?_
  show (boundP (stdBd h) 0 lo).bind _ = _
  rw [bound_std]
  refine bind_ext fun l => ?_
  show (opt (stdCut k r.1 h l)).bind _ = _
  unfold stdCut
  split <;> rfl
 | iaddr k x i =>
  refine bind_ext fun r => bind_ext fun n => ?_
  show (opt (stdAt k r.1 n.2)).bind _ = (opt (idx r.1.length n.2)).bind fun j => (opt r.1[j]?).bind fun e => _
  unfold stdAt
  cases h1 : idx r.1.length n.2 with
  | none => rfl
  | some j =>
   simp only
   show _ = (opt r.1[j]?).bind fun e => _
   cases h2 : r.1[j]? with
   | none => rfl
   | some e =>
    simp only
    show _ = (if _ then _ else _)
    by_cases hc : k ≠ 0 ∧ e.length = k ∧ (r.1.all fun e => decide (e.length = k)) = true
    ·rw [if_pos hc, if_pos hc]; rfl
    ·rw [if_neg hc, if_neg hc]; rfl
 | mkslice z l c =>
  refine bind_ext fun n => bind_ext fun m => ?_
  show (opt (stdMk z n.2 m.2)).bind _ = _
  unfold stdMk
  split <;> rfl
 | _ => rfl
end Go.Vm
end
section
namespace Go.Vm
abbrev Mp := List (Nat × SU)
def FM.wpL {α : Type} (L : Nat) : FM α → Mp → List Nat → List Nat → (α → Mp → List Nat → List Nat → Prop) → Prop
 | .ret a, m, r, w, Q => Q a m r w
 | .get i k, m, r, w, Q => match Nat.blt i L with
  | true => (k (look m i)).wpL L m (i :: r) w Q
  | false => False
 | .set i s k, m, r, w, Q => match Nat.blt i L with
  | true => k.wpL L (ins m i s) (i :: r) (i :: w) Q
  | false => False
 | .fail, _, _, _, _ => False
theorem wpL_run {α : Type} {L : Nat} : ∀ (p : FM α) {m : Mp} {r w : List Nat} {Q : α → Mp → List Nat → List Nat → Prop}, p.wpL L m r w Q →
  ∃ a m', p.run (S L m) = some (a, S L m') ∧ Q a m' ((p.log (S L m)).1.reverse ++ r) ((p.log (S L m)).2.reverse ++ w)
 | .ret a, m, r, w, Q, h => ⟨a, m, rfl, h⟩
 | .get i k, m, r, w, Q, h => by
  unfold FM.wpL at h
  split at h
  ·rename_i hb
   have hi : i < L := by simpa [Nat.blt_eq] using hb
   have hg : (S L m)[i]? = some (look m i) := by rw [S_get, if_pos hi]
   obtain ⟨a, m', h1, h2⟩ := wpL_run (k (look m i)) h
   refine ⟨a, m', by simp only [FM.run, hg]; exact h1, ?_⟩
   simp only [FM.log, hg, List.reverse_cons, List.append_assoc, List.singleton_append]
   exact h2
  ·exact h.elim
 | .set i s k, m, r, w, Q, h => by
  unfold FM.wpL at h
  split at h
  ·rename_i hb
   have hi : i < L := by simpa [Nat.blt_eq] using hb
   obtain ⟨a, m', h1, h2⟩ := wpL_run k h
   refine ⟨a, m', by simp only [FM.run, S_len, hi, if_true, S_set]; exact h1, ?_⟩
   simp only [FM.log, S_len, hi, if_true, S_set, List.reverse_cons, List.append_assoc, List.singleton_append]
   exact h2
  ·exact h.elim
 | .fail, m, r, w, Q, h => h.elim
section
variable (P : Prims) (O : Orac) (md : Modes) (nt L : Nat)
def retK (g : Nat) (as : List SU) (b : Bool) : FM SU := match O g as with
 | some ⟨rs, [], none⟩ => match b || rs.all noNo with
  | true => .ret (retSl rs)
  | false => .fail
 | _ => .fail
def boxK (g : Nat) (as : List SU) (r : Nat) (t : Unit) (cs0 : List (Cell Unit)) : FM SU := match O g as with
 | some ⟨rs, [], some cs⟩ => (opt (reBox cs cs0)).bind fun cs' => (setS r ⟨.box t, cs'⟩).bind fun _ => .ret (retSl rs)
 | _ => .fail
def callValsP (g : Nat) (args : List Opd) (caps : List V) : FM SU :=
 (argVs 0 args).bind fun as => retK O g (as ++ capSlots caps) (as.all noCaps && caps.isEmpty)
def callBoxP (g : Nat) (xs : List Opd) (r : Nat) (b : SU) : FM SU :=
 match b.k with
 | .box t => match plainBox b.cs with
  | true => (opt (boxArg b)).bind fun b' => (argVs 1 xs).bind fun as => match as.all noCaps with
    | false => .fail
    | true => boxK O g (b' :: as) r t b.cs
  | false => .fail
 | _ => .fail
def callK (g : Nat) (args : List Opd) (ms : List Pm) : FM SU := match ms with
 | .mbox :: ms => match args with
  | x :: xs => match isMut ms with
   | true => .fail
   | false => (rootOf x).bind fun r => (getS r).bind fun b => callBoxP O g xs r b
  | [] => .fail
 | ms => match isMut ms with
  | true => .fail
  | false => callValsP O g args []
def evalCallP : Ir → FM SU
 | .call g args => callK O g args (md g)
 | .callv f args => (opd f).bind fun sl =>
  match sl.k, sl.cs with
  | .val, [⟨.fn g caps, .sh⟩] => match isMut (md g) with
   | true => .fail
   | false => callValsP O g args caps
  | .clo g roots, _ => match isMut (md g) with
   | true => .fail
   | false => (capsOf roots).bind fun caps => callValsP O g args caps
  | _, _ => .fail
 | op => evalIrP P nt op
def evalIoP (o : Io) : FM Unit :=
 match o.op, o.dst with
 | .assign x, some d => evalAssign nt d x
 | .store n a x, none => evalStore n a x
 | op, some d => (evalCallP P O md nt op).bind fun s => putS nt d s
 | op, none => (evalCallP P O md nt op).bind fun _ => .ret ()
def wantC (g : Option (Nat × Bool)) (m : Mp) (k : Bool → List Nat → Prop) : Prop := match g with
 | none => k true []
 | some (j, b) => match Nat.blt j L with
  | false => False
  | true => match (look m j).k, (look m j).cs with
   | .val, [c] => match c.v with
    | .bool x => match x with
     | true => k b [j]
     | false => k (!b) [j]
    | _ => False
   | .und, _ => k false [j]
   | _, _ => False
def rowAtL (m : Mp) (s c : Nat) : Option (List (List V) × Fl) := match Nat.blt s L with
 | true => match (look m s).cs[c]? with
  | some ⟨.row _ es, .ow false⟩ => some (es, .ow false)
  | some ⟨.row _ es, .mp i⟩ => some (es, .mp i)
  | _ => none
 | false => none
def setRowL (m : Mp) (s c : Nat) (v : V) : Mp := match (look m s).cs[c]? with
 | some x => ins m s ⟨(look m s).k, (look m s).cs.set c ⟨v, x.f⟩⟩
 | none => m
def homeIsL (p : Fl → Bool) (m : Mp) (h : Nat × Nat × Option Nat) : Bool := match rowAtL L m h.1 h.2.1 with
 | some (_, f) => p f
 | none => false
def homeOkL (m : Mp) (hs : List (Nat × Nat × Option Nat)) : Bool := hs.all (homeIsL L isOw m) || hs.all (homeIsL L isMp m)
def putOutsL : List (Nat × Nat × Option Nat) → List V → Mp → (Mp → Prop) → Prop
 | [], [], m, Q => Q m
 | (s, c, ix) :: hs, v :: vs, m, Q =>
  match rowAtL L m s c with
  | none => False
  | some (es, _) => match ix with
   | none => putOutsL hs vs (setRowL m s c v) Q
   | some ix => match P.set es ix [v] with
    | some es' => putOutsL hs vs (setRowL m s c (.row () es')) Q
    | none => False
 | _, _, _, _ => False
def mutK (d : Option Nat) (hs : List (Nat × Nat × Option Nat)) (m : Mp) (Q : Mp → Prop) (g : Nat) (as : List SU) : Prop := match O g as with
 | some ⟨rs, outs, none⟩ => putOutsL P L hs outs (los m) fun m => match d with
  | none => Q m
  | some d => match Nat.blt d L && freeS (look m d) && Nat.blt d nt && rs.all scalS with
   | true => Q (ins m d (retSl rs))
   | false => False
 | _ => False
def wpEff (o : Io) (m : Mp) (Q : Mp → Prop) : Prop := match o.op, o.dst with
 | .clear, some d => match Nat.blt d L && freeS (look m d) && Nat.blt d nt with
  | true => Q (del m d)
  | false => False
 | .rstore n a x, none => (opd a).wpL L m [] [] fun sl m _ _ => match sl.k with
  | .ept _ (some (s, c)) ix => (takeAp s c ix x).wpL L m [] [] fun cs m _ _ => match Nat.blt 0 n && Nat.beq cs.length n && owned cs with
   | true => match rowAtL L (los m) s c with
    | some (es, _) => match P.set es ix (vals cs) with
     | some es' => Q (setRowL (los m) s c (.row () es'))
     | none => False
    | none => False
   | false => False
  | _ => False
 | .call g args, d => match md g, args with
  | .mrow :: ms, x :: xs => match isMut ms with
   | true => False
   | false => (opd x).wpL L m [] [] fun sl m _ _ => match valAgg sl.k with
    | false => False
    | true => match homes (slotOf x) 0 sl.cs with
     | none => False
     | some hs => match apartHomes hs && homeOkL L m hs with
      | false => False
      | true => (opds xs).wpL L m [] [] fun as m _ _ => match as.all scalS with
       | false => False
       | true => mutK P O nt L d hs m Q g (⟨sl.k, mpCells 0 sl.cs⟩ :: as)
  | _, _ => False
 | _, _ => False
def lgR (l : Lg) : Lg := l.map fun l => (l.1.reverse, l.2.reverse)
def chk (an : List Nat) (before : List Lg) (l : Lg) : Bool := before.zipIdx.all fun (m, i) => an.contains i || swaps m l
def nextIo (d : Bool) (an : List Nat) (before : List Lg) (l : Lg) (k : List Lg → Prop) : Prop := match d with
 | false => k []
 | true => match chk an before l with
  | true => k (before ++ [l])
  | false => False
def wpIos (d : Bool) : List Io → Mp → List Lg → (Mp → Prop) → Prop
 | [], m, _, Q => Q m
 | o :: os, m, before, Q => wantC L o.guard m fun x r => match effect md o.op with
  | false => match x with
   | true => (evalIoP P O md nt o).wpL L m r [] fun _ m r w => nextIo d o.anc before (some (r, w)) fun b => wpIos d os m b Q
   | false => (skipF nt o).wpL L m r [] fun _ m r w => nextIo d o.anc before (some (r, w)) fun b => wpIos d os m b Q
  | true => match x with
   | true => wpEff P O md nt L o m fun m => nextIo d o.anc before none fun b => wpIos d os m b Q
   | false => (skipF nt o).wpL L m [] [] fun _ m _ _ => nextIo d o.anc before none fun b => wpIos d os m b Q
def Wp (c : Cd) (st : St) (Q : Ex → St → Prop) : Prop := ∃ n ex st', code O md nt n c st = some (ex, st') ∧ Q ex st'
inductive LoopP (c : Cd) (m : Mp) (Q : Ex → Mp → Prop) : Prop
 | mk (h : Wp O md nt (.loop c) (S L m) fun ex st => ∃ m', st = S L m' ∧ Q ex m')
def wpc : Cd → Mp → (Ex → Mp → Prop) → Prop
 | .skip, m, Q => Q .normal m
 | .region d k0 k1 ops, m, Q => wpIos P O md nt L d ops (kil (lockS nt :: k0) m) [] fun m => Q .normal (kil (lockS nt :: k1) m)
 | .seq a b, m, Q => wpc a m fun ex m => match ex with
  | .normal => wpc b m Q
  | .exit i => Q (.exit i) m
  | .ret => Q .ret m
 | .cond x a b, m, Q => match x with
  | .t i => match Nat.blt i L with
   | true => match (look m i).k, (look m i).cs with
    | .val, [⟨.bool b', _⟩] => match b' with
     | true => wpc a (del m i) Q
     | false => wpc b (del m i) Q
    | _, _ => False
   | false => False
  | .c false [.bool b'] => match b' with
   | true => wpc a m Q
   | false => wpc b m Q
  | _ => False
 | .block id c, m, Q => wpc c m fun ex m => match ex with
  | .exit i => match Nat.beq i id with
   | true => Q .normal m
   | false => Q (.exit i) m
  | .normal => Q .normal m
  | .ret => Q .ret m
 | .loop c, m, Q => LoopP O md nt L c m Q
 | .exit id, m, Q => Q (.exit id) m
 | .ret, m, Q => Q .ret m
 | .bad, _, _ => False
end
section
variable {O : Orac} {md : Modes} {nt L : Nat}
theorem retK_eq (g : Nat) (as : List SU) (b : Bool) : retK O g as b = (match O g as with | some ⟨rs, [], none⟩ => if b || rs.all noNo then .ret (retSl rs) else .fail | _ => .fail) := by
 unfold retK
 split
 ·split <;> rename_i h <;> simp [h]
 ·rfl
theorem callVals_std (g : Nat) (args : List Opd) (caps : List V) : callValsP O g args caps = callVals O g args caps := by
 unfold callValsP callVals
 refine bind_ext fun as => ?_
 rw [retK_eq]
 cases O g (as ++ capSlots caps) with
 | none => rfl
 | some x =>
  obtain ⟨rs, outs, ob⟩ := x
  cases outs <;> cases ob <;> rfl
theorem callBox_std (g : Nat) (xs : List Opd) (r : Nat) (b : SU) : callBoxP O g xs r b = callBox O g xs r b := by
 unfold callBoxP callBox
 cases b.k with
 | box t =>
  simp only
  cases plainBox b.cs with
  | true =>
   simp only [if_true]
   refine bind_ext fun b' => bind_ext fun as => ?_
   cases h : as.all noCaps <;> rfl
  | false => rfl
 | _ => rfl
theorem evalCall_std (op : Ir) : evalCallP std O md nt op = evalCall O md nt op := by
 cases op with
 | call g args =>
  unfold evalCallP evalCall
  simp only
  generalize md g = l
  have v : ∀ l : List Pm, (match isMut l with | true => (.fail : FM SU) | false => callValsP O g args []) = if isMut l then .fail else callVals O g args [] := by
   intro l
   cases isMut l with
   | true => rfl
   | false => exact callVals_std g args []
  match l with
  | [] => exact v []
  | .val :: ms => exact v (.val :: ms)
  | .mrow :: ms => exact v (.mrow :: ms)
  | .mbox :: ms =>
   cases args with
   | nil => rfl
   | cons x xs =>
    show (match isMut ms with | true => (.fail : FM SU) | false => (rootOf x).bind fun r => (getS r).bind fun b => callBoxP O g xs r b) = if isMut ms then .fail else (rootOf x).bind fun r => (getS r).bind fun b => callBox O g xs r b
    cases isMut ms with
    | true => rfl
    | false => exact bind_ext fun r => bind_ext fun b => callBox_std g xs r b
 | callv f args =>
  unfold evalCallP evalCall
  refine bind_ext fun sl => ?_
  obtain ⟨k, cs⟩ := sl
  have v : ∀ g caps, (match isMut (md g) with | true => (.fail : FM SU) | false => callValsP O g args caps) = if isMut (md g) then .fail else callVals O g args caps := by
   intro g caps
   cases isMut (md g) with
   | true => rfl
   | false => exact callVals_std g args caps
  cases k with
  | val => match cs with
   | [] => rfl
   | [⟨w, f⟩] => cases w with
    | fn g caps => cases f with
     | sh => exact v g caps
     | _ => rfl
    | _ => rfl
   | ⟨w, f⟩ :: _ :: _ => cases w with
    | fn g caps => cases f <;> rfl
    | _ => rfl
  | clo g roots =>
   show (match isMut (md g) with | true => (.fail : FM SU) | false => (capsOf roots).bind fun caps => callValsP O g args caps) = if isMut (md g) then .fail else (capsOf roots).bind fun caps => callVals O g args caps
   cases isMut (md g) with
   | true => rfl
   | false => exact bind_ext fun caps => callVals_std g args caps
  | _ => rfl
 | _ => first | rfl | (unfold evalCallP evalCall; exact evalIr_std nt _)
theorem evalIo_std (o : Io) : evalIoP std O md nt o = evalIo O md nt o := by
 obtain ⟨d, op, g, an⟩ := o
 unfold evalIoP evalIo
 cases op <;> cases d <;> simp only [evalCall_std]
theorem want_run {o : Io} {m : Mp} {k : Bool → List Nat → Prop} (h : wantC L o.guard m k) : ∃ x r, (wantF o).run (S L m) = some (x, S L m) ∧ (wantF o).log (S L m) = (r.reverse, []) ∧ k x r := by
 unfold wantC at h
 unfold wantF
 cases hg : o.guard with
 | none =>
  rw [hg] at h
  exact ⟨true, [], rfl, rfl, h⟩
 | some p =>
  obtain ⟨j, b⟩ := p
  rw [hg] at h
  simp only at h ⊢
  split at h
  ·exact h.elim
  ·rename_i hb
   have hj : j < L := by simpa [Nat.blt_eq] using hb
   have hget : (S L m)[j]? = some (look m j) := by rw [S_get, if_pos hj]
   have e1 : (getS j).run (S L m) = some (look m j, S L m) := by simp only [getS, FM.run, hget]
   have e2 : (getS j).log (S L m) = ([j], []) := by simp only [getS, FM.log, hget]
   rw [FM.run_bind, e1, FM.log_bind _ _ e1, e2]
   generalize look m j = sl at h ⊢
   obtain ⟨kd, cs⟩ := sl
   cases kd with
   | und => exact ⟨false, [j], rfl, rfl, h⟩
   | val => match cs, h with
    | [], h => exact h.elim
    | [c], h =>
     obtain ⟨v, f⟩ := c
     cases v with
     | bool x => cases x with
      | true => cases b <;> exact ⟨_, [j], rfl, rfl, h⟩
      | false => cases b <;> exact ⟨_, [j], rfl, rfl, h⟩
     | _ => exact h.elim
    | c :: c' :: r, h => exact h.elim
   | _ => exact h.elim
theorem rowAt_L {m : Mp} {s c : Nat} : rowAtL L m s c = rowAt (S L m) s c := by
 unfold rowAtL rowAt
 rw [S_get]
 by_cases h : s < L
 ·have hb : Nat.blt s L = true := by simpa [Nat.blt_eq] using h
  rw [hb, if_pos h]
  simp only
  cases (look m s).cs[c]? with
  | none => rfl
  | some x =>
   obtain ⟨v, f⟩ := x
   cases v with
   | row t es => cases f with
    | ow g => cases g <;> rfl
    | _ => rfl
   | _ => rfl
 ·have hb : Nat.blt s L = false := by
   cases hb : Nat.blt s L
   ·rfl
   ·exact absurd (by simpa [Nat.blt_eq] using hb) h
  rw [hb, if_neg h]
theorem setRow_L {m : Mp} {s c : Nat} {v : V} (hs : s < L) : S L (setRowL m s c v) = setRow (S L m) s c v := by
 unfold setRowL setRow
 rw [S_get, if_pos hs]
 cases h : (look m s).cs[c]? with
 | some x => simp only [h]; rw [S_set]
 | none => simp only [h]
theorem rowAtL_lt {m : Mp} {s c : Nat} {r : List (List V) × Fl} (h : rowAtL L m s c = some r) : s < L := by
 unfold rowAtL at h
 split at h
 ·rename_i hb; simpa [Nat.blt_eq] using hb
 ·cases h
theorem homeOk_L {m : Mp} (hs : List (Nat × Nat × Option Nat)) : homeOkL L m hs = homeOk (S L m) hs := by
 unfold homeOkL homeOk
 have : ∀ p, homeIsL L p m = homeIs p (S L m) := by
  intro p; funext h
  unfold homeIsL homeIs
  rw [rowAt_L]
  cases rowAt (S L m) h.1 h.2.1 <;> rfl
 rw [this, this]
theorem putOuts_L : ∀ (hs : List (Nat × Nat × Option Nat)) (vs : List V) (m : Mp) {Q : Mp → Prop}, putOutsL std L hs vs m Q → ∃ m', putOuts hs vs (S L m) = some (S L m') ∧ Q m'
 | [], [], m, Q, h => ⟨m, rfl, h⟩
 | [], _ :: _, m, Q, h => h.elim
 | _ :: _, [], m, Q, h => h.elim
 | (s, c, ix) :: hs, v :: vs, m, Q, h => by
  unfold putOutsL at h
  unfold putOuts
  rw [← rowAt_L]
  split at h
  ·exact h.elim
  ·rename_i es f hr
   rw [hr]
   have hlt := rowAtL_lt hr
   split at h
   ·simp only
    rw [← setRow_L hlt]
    exact putOuts_L hs vs _ h
   ·rename_i ix
    simp only
    have e : std.set es ix [v] = setFlat es ix [v] := rfl
    rw [e] at h
    split at h
    ·rename_i es' hset
     rw [hset]
     simp only
     rw [← setRow_L hlt]
     exact putOuts_L hs vs _ h
    ·exact h.elim
theorem eff_sound {o : Io} {m : Mp} {Q : Mp → Prop} (h : wpEff std O md nt L o m Q) : ∃ m', stepEff O md nt o (S L m) = some (S L m') ∧ Q m' := by
 obtain ⟨d, op, g, an⟩ := o
 unfold wpEff at h
 simp only at h
 split at h
 ·rename_i d
  split at h
  ·rename_i hb
   simp only [Bool.and_eq_true, Nat.blt_eq] at hb
   refine ⟨_, ?_, h⟩
   unfold stepEff
   simp only
   rw [S_get, if_pos hb.1.1]
   simp only [hb.1.2, hb.2, and_self, if_true, S_del]
  ·exact h.elim
 ·rename_i n a x
  obtain ⟨sl, m1, h1, h2⟩ := wpL_run _ h
  split at h2
  ·rename_i t s c ix hk
   obtain ⟨cs, m2, h3, h4⟩ := wpL_run _ h2
   split at h4
   ·rename_i hb
    simp only [Bool.and_eq_true, Nat.blt_eq, Nat.beq_eq] at hb
    split at h4
    ·rename_i es f hr
     have e : std.set es ix (vals cs) = setFlat es ix (vals cs) := rfl
     rw [e] at h4
     split at h4
     ·rename_i es' hset
      refine ⟨_, ?_, h4⟩
      unfold stepEff storeS
      simp only [runFM, h1, hk, h3]
      rw [if_pos ⟨by omega, hb.1.2, hb.2⟩, S_lose, ← rowAt_L, hr]
      simp only [hset]
      rw [← setRow_L (rowAtL_lt hr)]
     ·exact h4.elim
    ·exact h4.elim
   ·exact h4.elim
  ·exact h2.elim
 ·rename_i gf args d'
  split at h
  ·rename_i ms x xs hm
   split at h
   ·exact h.elim
   ·rename_i hmut
    obtain ⟨sl, m1, h1, h2⟩ := wpL_run _ h
    split at h2
    ·exact h2.elim
    ·rename_i hv
     split at h2
     ·exact h2.elim
     ·rename_i hs hh
      split at h2
      ·exact h2.elim
      ·rename_i hap
       obtain ⟨as, m2, h3, h4⟩ := wpL_run _ h2
       split at h4
       ·exact h4.elim
       ·rename_i hsc
        unfold mutK at h4
        split at h4
        ·rename_i rs outs hO
         obtain ⟨m3, h5, h6⟩ := putOuts_L hs outs _ h4
         rw [homeOk_L] at hap
         unfold stepEff
         simp only
         unfold callM
         rw [hm]
         simp only [hmut, Bool.false_eq_true, if_false, runFM, h1, hv, if_true, hh, hap, h3, hsc, hO, S_lose, h5]
         split at h6
         ·exact ⟨_, rfl, h6⟩
         ·rename_i d
          split at h6
          ·rename_i hb
           simp only [Bool.and_eq_true, Nat.blt_eq] at hb
           refine ⟨_, ?_, h6⟩
           simp only
           rw [S_get, if_pos hb.1.1.1]
           simp only [hb.1.1.2, hb.1.2, hb.2, and_self, if_true, S_set]
          ·exact h6.elim
        ·exact h4.elim
  ·exact h.elim
 ·exact h.elim
theorem disj_rev (a b : List Nat) : disj a.reverse b.reverse = disj a b := by
 unfold disj
 rw [List.all_reverse]
 congr 1
 funext x
 simp
theorem swaps_rev (a b : Lg) : swaps (lgR a) (lgR b) = swaps a b := by
 cases a <;> cases b <;> simp [swaps, lgR, disj_rev]
theorem chk_rev (an : List Nat) (before : List Lg) (l : Lg) : chk an (before.map lgR) (lgR l) = chk an before l := by
 unfold chk
 have key : ∀ (bs : List Lg) (n : Nat), ((bs.map lgR).zipIdx n).all (fun (m, i) => an.contains i || swaps m (lgR l)) = (bs.zipIdx n).all (fun (m, i) => an.contains i || swaps m l) := by
  intro bs
  induction bs with
  | nil => intro n; rfl
  | cons b bs ih =>
   intro n
   simp only [List.map_cons, List.zipIdx_cons, List.all_cons, swaps_rev, ih]
 exact key before 0
theorem ios_sound {d : Bool} : ∀ (ops : List Io) (m : Mp) (bs : List Lg) {b : List Lg} {Q : Mp → Prop}, (d = true → b = bs.map lgR) → wpIos std O md nt L d ops m b Q →
  ∃ m', stepIos O md nt ops (S L m) = some (S L m') ∧ (d = true → drawOk ops (logs O md nt ops (S L m)) bs = true) ∧ Q m'
 | [], m, bs, b, Q, hb, h => ⟨m, rfl, fun _ => by simp [drawOk], h⟩
 | o :: os, m, bs, b, Q, hb, h => by
  have fin : ∀ {m1 : Mp} (l : Lg), stepIo O md nt o (S L m) = some (S L m1) → lgR (logIo O md nt o (S L m)) = l →
    nextIo d o.anc b l (fun b => wpIos std O md nt L d os m1 b Q) → ∃ m', stepIos O md nt (o :: os) (S L m) = some (S L m') ∧ (d = true → drawOk (o :: os) (logs O md nt (o :: os) (S L m)) bs = true) ∧ Q m' := by
   intro m1 l h1 hl hq
   unfold nextIo at hq
   cases d with
   | false =>
    obtain ⟨m', k1, _, k3⟩ := ios_sound os m1 [] (by simp) hq
    exact ⟨m', by unfold stepIos; rw [h1]; exact k1, by simp, k3⟩
   | true =>
    simp only at hq
    split at hq
    ·rename_i hc
     have hb := hb rfl
     obtain ⟨m', k1, k2, k3⟩ := ios_sound os m1 (bs ++ [logIo O md nt o (S L m)]) (fun _ => by rw [hb, List.map_append, ← hl]; rfl) hq
     refine ⟨m', by unfold stepIos; rw [h1]; exact k1, fun _ => ?_, k3⟩
     unfold logs
     rw [h1]
     simp only [drawOk, Bool.and_eq_true]
     refine ⟨?_, k2 rfl⟩
     rw [hb, ← hl] at hc
     exact (chk_rev _ _ _).symm.trans hc
    ·exact hq.elim
  unfold wpIos at h
  obtain ⟨x, r, hw, hlw, h⟩ := want_run h
  split at h
  ·rename_i he
   split at h
   ·rw [evalIo_std] at h
    obtain ⟨u, m1, h1, h2⟩ := wpL_run _ h
    refine fin _ ?_ ?_ h2
    ·unfold stepIo runFM ioF
     simp only [he, Bool.false_eq_true, if_false, FM.run_bind, hw, if_true, h1]
    ·unfold logIo ioF
     simp only [he, Bool.false_eq_true, if_false, lgR, Option.map_some, FM.log_bind _ _ hw, hlw, if_true, List.reverse_append, List.reverse_reverse, List.nil_append, List.append_nil]
   ·obtain ⟨u, m1, h1, h2⟩ := wpL_run _ h
    refine fin _ ?_ ?_ h2
    ·unfold stepIo runFM ioF
     simp only [he, Bool.false_eq_true, if_false, FM.run_bind, hw, h1]
    ·unfold logIo ioF
     simp only [he, Bool.false_eq_true, if_false, lgR, Option.map_some, FM.log_bind _ _ hw, hlw, List.reverse_append, List.reverse_reverse, List.nil_append, List.append_nil]
  ·rename_i he
   have hl : lgR (logIo O md nt o (S L m)) = none := by
    unfold logIo
    simp only [he, if_true, lgR, Option.map_none]
   split at h
   ·obtain ⟨m2, h3, h4⟩ := eff_sound h
    refine fin _ ?_ hl h4
    unfold stepIo effF runFM
    simp only [he, if_true, hw, h3]
   ·obtain ⟨u, m2, h3, h4⟩ := wpL_run _ h
    refine fin _ ?_ hl h4
    unfold stepIo effF runFM
    simp only [he, if_true, hw, Bool.false_eq_true, if_false, h3]
theorem code_mono {c : Cd} {m k : Nat} {st : St} {r : Ex × St} (h : code O md nt m c st = some r) (hk : m ≤ k) : code O md nt k c st = some r := by
 obtain ⟨N, hN⟩ := ev_code (O := O) (o := fun _ => O) (fun g args r h => Ev.of fun _ => h) _ _ _ h
 exact hN N (Nat.le_refl _) k hk
variable {st : St} {Qe : Ex → St → Prop}
theorem Wp.mono {c : Cd} {Q' : Ex → St → Prop} (h : Wp O md nt c st Q') (hq : ∀ ex st, Q' ex st → Qe ex st) : Wp O md nt c st Qe := by
 obtain ⟨m, ex, st', h1, h2⟩ := h
 exact ⟨m, ex, st', h1, hq _ _ h2⟩
theorem Wp_seq {a b : Cd} (h : Wp O md nt a st (fun ex st' => match ex with | .normal => Wp O md nt b st' Qe | .exit i => Qe (.exit i) st' | .ret => Qe .ret st')) : Wp O md nt (.seq a b) st Qe := by
 obtain ⟨m, ex, s1, h1, hQ⟩ := h
 cases ex with
 | normal =>
  obtain ⟨k, ex, st', h2, hQ⟩ := hQ
  exact ⟨m + k, ex, st', by unfold code; rw [code_mono h1 (Nat.le_add_right m k)]; exact code_mono h2 (Nat.le_add_left k m), hQ⟩
 | exit i => exact ⟨m, .exit i, s1, by unfold code; rw [h1], hQ⟩
 | ret => exact ⟨m, .ret, s1, by unfold code; rw [h1], hQ⟩
theorem Wp_block {id : Nat} {c : Cd} (h : Wp O md nt c st (fun ex st' => match ex with | .exit i => if i = id then Qe .normal st' else Qe (.exit i) st' | ex => Qe ex st')) : Wp O md nt (.block id c) st Qe := by
 obtain ⟨m, ex, s1, h1, hQ⟩ := h
 cases ex with
 | normal => exact ⟨m, .normal, s1, by unfold code; rw [h1], hQ⟩
 | ret => exact ⟨m, .ret, s1, by unfold code; rw [h1], hQ⟩
 | exit i =>
  simp only at hQ
  split at hQ
  ·rename_i hi
   exact ⟨m, .normal, s1, by unfold code; rw [h1]; simp [hi], hQ⟩
  ·rename_i hi
   exact ⟨m, .exit i, s1, by unfold code; rw [h1]; simp [hi], hQ⟩
theorem Wp_loop {c : Cd} (h : Wp O md nt c st (fun ex st' => match ex with | .normal => Wp O md nt (.loop c) st' Qe | .exit i => Qe (.exit i) st' | .ret => Qe .ret st')) : Wp O md nt (.loop c) st Qe := by
 obtain ⟨m, ex, s1, h1, hQ⟩ := h
 cases ex with
 | normal =>
  obtain ⟨k, ex, st', h2, hQ⟩ := hQ
  refine ⟨m + k + 1, ex, st', ?_, hQ⟩
  have h3 := code_mono h2 (Nat.le_add_left k m)
  unfold code at h3 ⊢
  unfold loopN
  rw [code_mono h1 (by omega : m ≤ m + k + 1)]
  exact loopN_mono (fun st r hr => code_mono hr (Nat.le_succ _)) _ _ _ (Nat.le_refl _) h3
 | exit i => exact ⟨m + 1, .exit i, s1, by unfold code loopN; rw [code_mono h1 (Nat.le_succ m)], hQ⟩
 | ret => exact ⟨m + 1, .ret, s1, by unfold code loopN; rw [code_mono h1 (Nat.le_succ m)], hQ⟩
theorem wpc_sound : ∀ (c : Cd) (m : Mp) {Q : Ex → Mp → Prop}, wpc std O md nt L c m Q → Wp O md nt c (S L m) fun ex st => ∃ m', st = S L m' ∧ Q ex m'
 | .skip, m, Q, h => ⟨0, .normal, _, rfl, m, rfl, h⟩
 | .exit i, m, Q, h => ⟨0, .exit i, _, rfl, m, rfl, h⟩
 | .ret, m, Q, h => ⟨0, .ret, _, rfl, m, rfl, h⟩
 | .bad, m, Q, h => h.elim
 | .loop c, m, Q, h => by
  obtain ⟨h⟩ := h
  exact h
 | .region d k0 k1 ops, m, Q, h => by
  unfold wpc at h
  obtain ⟨m', h1, h2, h3⟩ := ios_sound ops _ [] (by simp) h
  refine ⟨0, .normal, _, ?_, _, rfl, h3⟩
  unfold code region
  rw [S_kill, h1]
  have : ¬ ((d && !drawOk ops (logs O md nt ops (S L (kil (lockS nt :: k0) m))) []) = true) := by
   cases d with
   | false => simp
   | true => simp [h2 rfl]
  rw [if_neg this]
  simp only
  rw [S_kill]
 | .seq a b, m, Q, h => by
  unfold wpc at h
  refine Wp_seq ((wpc_sound a m h).mono fun ex st hq => ?_)
  obtain ⟨m', rfl, hq⟩ := hq
  cases ex with
  | normal => exact wpc_sound b m' hq
  | exit i => exact ⟨m', rfl, hq⟩
  | ret => exact ⟨m', rfl, hq⟩
 | .cond x a b, m, Q, h => by
  unfold wpc at h
  split at h
  ·rename_i i
   split at h
   ·rename_i hb
    have hi : i < L := by simpa [Nat.blt_eq] using hb
    have hg : (S L m)[i]? = some (look m i) := by rw [S_get, if_pos hi]
    split at h
    ·rename_i b' f hk hcs
     have hc : condS (.t i) (S L m) = some (b', S L (del m i)) := by
      unfold condS
      simp only [hg, hk, hcs, S_del]
     split at h
     ·obtain ⟨n, ex, st', h1, h2⟩ := wpc_sound a _ h
      exact ⟨n, ex, st', by unfold code; rw [hc]; exact h1, h2⟩
     ·obtain ⟨n, ex, st', h1, h2⟩ := wpc_sound b _ h
      exact ⟨n, ex, st', by unfold code; rw [hc]; exact h1, h2⟩
    ·exact h.elim
   ·exact h.elim
  ·rename_i b'
   split at h
   ·obtain ⟨n, ex, st', h1, h2⟩ := wpc_sound a _ h
    exact ⟨n, ex, st', by unfold code; exact h1, h2⟩
   ·obtain ⟨n, ex, st', h1, h2⟩ := wpc_sound b _ h
    exact ⟨n, ex, st', by unfold code; exact h1, h2⟩
  ·exact h.elim
 | .block id c, m, Q, h => by
  unfold wpc at h
  refine Wp_block ((wpc_sound c m h).mono fun ex st hq => ?_)
  obtain ⟨m', rfl, hq⟩ := hq
  cases ex with
  | normal => exact ⟨m', rfl, hq⟩
  | ret => exact ⟨m', rfl, hq⟩
  | exit i =>
   simp only at hq ⊢
   split at hq
   ·rename_i hb
    rw [if_pos (by simpa [Nat.beq_eq] using hb)]
    exact ⟨m', rfl, hq⟩
   ·rename_i hb
    rw [if_neg (fun e => by subst e; simp at hb)]
    exact ⟨m', rfl, hq⟩
theorem loop_round {P : Prims} (hP : P = std) {c : Cd} {m : Mp} {Q : Ex → Mp → Prop} (h : wpc P O md nt L c m fun ex m => match ex with | .normal => LoopP O md nt L c m Q | .exit i => Q (.exit i) m | .ret => Q .ret m) : LoopP O md nt L c m Q := by
 subst hP
 refine ⟨Wp_loop ((wpc_sound c m h).mono fun ex st hq => ?_)⟩
 obtain ⟨m', rfl, hq⟩ := hq
 cases ex with
 | normal => exact hq.1
 | exit i => exact ⟨m', rfl, hq⟩
 | ret => exact ⟨m', rfl, hq⟩
end
def finQ (fn : FnIr) (args : List SU) (L : Nat) (r : Ret) (ex : Ex) (m : Mp) : Prop := match ex with
 | .normal => finish fn args (S L m) = some r
 | .ret => finish fn args (S L m) = some r
 | .exit _ => False
theorem fix_wp {T : Nat → Option FnIr} {md : Modes} {g : Nat} {fn : FnIr} (hT : T g = some fn) (hsp : fn.sp = 0) {args : List SU} (hlen : args.length = fn.np) (hle : fn.np ≤ fn.ntmps) {r : Ret} {m : Mp} (hm : start fn (shutArgs fn.modes args) = S (2 * fn.ntmps + 2) m)
  (hw : wpc std (fix T md) md fn.ntmps (2 * fn.ntmps + 2) fn.body m (finQ fn (shutArgs fn.modes args) (2 * fn.ntmps + 2) r)) : fix T md g args = some r := by
 obtain ⟨n, ex, st, h, m', rfl, hq⟩ := wpc_sound _ _ hw
 rw [← hm] at h
 cases ex with
 | normal => exact fix_body hT hsp hlen hle h (.inl rfl) hq
 | ret => exact fix_body hT hsp hlen hle h (.inr rfl) hq
 | exit i => exact hq.elim
theorem shut_len (ms : List Pm) (args : List SU) : (shutArgs ms args).length = args.length := by
 unfold shutArgs
 split <;> simp
theorem fix_vals {T : Nat → Option FnIr} {md : Modes} {g : Nat} {fn : FnIr} (hT : T g = some fn) (hsp : fn.sp = 0) {args : List SU} (hlen : args.length = fn.np) (hle : fn.np ≤ fn.ntmps) (hb : args.all noBox = true) {r : Ret}
  (hw : ∀ P : Prims, P = std → wpc P (fix T md) md fn.ntmps (2 * fn.ntmps + 2) fn.body (enumS 0 (shutArgs fn.modes args)) (finQ fn (shutArgs fn.modes args) (2 * fn.ntmps + 2) r)) : fix T md g args = some r := by
 refine fix_wp hT hsp hlen hle ?_ (hw std rfl)
 refine start_S (by rw [shut_len]; exact hlen) hle (fun s l t e hk => ?_)
 unfold shutArgs at e
 have hbs : ∀ x ∈ args, noBox x = true := by simpa using hb
 split at e
 ·have := hbs s (by rw [e]; exact List.mem_cons_self ..)
  simp [noBox, hk] at this
 ·cases args with
  | nil => simp at e
  | cons x xs =>
   simp only [List.map_cons, List.cons.injEq] at e
   have := hbs x (List.mem_cons_self ..)
   obtain ⟨k, cs⟩ := x
   rw [← e.1] at hk
   cases k <;> simp [shutS] at hk
   simp [noBox] at this
end Go.Vm
end
section
namespace Go.Vm
structure Facts (add sub mul : IntKind → Int → Int → Int) (arith : BinOp → IntKind → Int → Int → Option V) (eq ne lt le gt ge : Int → Int → Bool) (neg conv : IntKind → Int → Int) (mn mx : Int → Int → Int) (not : Bool → Bool) (beq : Bool → Bool → Bool)
  (len : List (List V) → Int) (at' : Nat → List (List V) → Int → Option (Nat × List V)) (ln : List (List V) → Nat) (bd : Nat → Int → Option Nat) (cut : Nat → List (List V) → Nat → Nat → Option (List (List V))) (app : Nat → List (List V) → List (List V) → Option (List (List V)))
  (allS isNil : List (List V) → Bool) (mks : List V → Int → Int → Option (List (List V))) (set : List (List V) → Nat → List V → Option (List (List V))) : Prop where
 add : ∀ k x y, add k x y = k.wrap (x + y)
 sub : ∀ k x y, sub k x y = k.wrap (x - y)
 mul : ∀ k x y, mul k x y = k.wrap (x * y)
 arith : ∀ op k x y, arith op k x y = std.arith op k x y
 eq : ∀ x y, eq x y = decide (x = y)
 ne : ∀ x y, ne x y = decide (x ≠ y)
 lt : ∀ x y, lt x y = decide (x < y)
 le : ∀ x y, le x y = decide (x ≤ y)
 gt : ∀ x y, gt x y = decide (y < x)
 ge : ∀ x y, ge x y = decide (y ≤ x)
 neg : ∀ k x, neg k x = k.wrap (0 - x)
 conv : ∀ k x, conv k x = k.wrap x
 mn : ∀ x y, mn x y = if y < x then y else x
 mx : ∀ x y, mx x y = if y > x then y else x
 not : ∀ b, not b = !b
 beq : ∀ a b, beq a b = (a == b)
 len : ∀ es, len es = es.length
 at' : ∀ k es i, at' k es i = stdAt k es i
 ln : ∀ es, ln es = es.length
 bd : ∀ n i, bd n i = stdBd n i
 cut : ∀ k es h l, cut k es h l = stdCut k es h l
 app : ∀ k es ys, app k es ys = stdApp k es ys
 allS : ∀ es, allS es = allScal es
 isNil : ∀ es, isNil es = stdNil es
 mks : ∀ z n m, mks z n m = stdMk z n m
 set : ∀ es ix vs, set es ix vs = setFlat es ix vs
def Sym (F : Prims → Orac → Prop) (O : Orac) : Prop :=
 ∀ add sub mul arith eq ne lt le gt ge neg conv mn mx not beq len at' ln bd cut app allS isNil mks set (o : Orac), Prims.mk add sub mul arith eq ne lt le gt ge neg conv mn mx not beq len at' ln bd cut app allS isNil mks set = std → Facts add sub mul arith eq ne lt le gt ge neg conv mn mx not beq len at' ln bd cut app allS isNil mks set → o = O →
  F ⟨add, sub, mul, arith, eq, ne, lt, le, gt, ge, neg, conv, mn, mx, not, beq, len, at', ln, bd, cut, app, allS, isNil, mks, set⟩ o
theorem facts_std : Facts std.add std.sub std.mul std.arith std.eq std.ne std.lt std.le std.gt std.ge std.neg std.conv std.mn std.mx std.not std.beq std.len std.at' std.ln std.bd std.cut std.app std.allS std.isNil std.mks std.set := by
 refine ⟨?_, ?_, ?_, ?_, ?_, ?_, ?_, ?_, ?_, ?_, ?_, ?_, ?_, ?_, ?_, ?_, ?_, ?_, ?_, ?_, ?_, ?_, ?_, ?_, ?_, ?_⟩ <;> intros <;> first | rfl | (simp [std]; done) | (simp only [std, bne]; rename_i x y; by_cases h : x = y <;> simp [h])
theorem Sym.at {F : Prims → Orac → Prop} {O : Orac} (h : Sym F O) : F std O := by
 have := h std.add std.sub std.mul std.arith std.eq std.ne std.lt std.le std.gt std.ge std.neg std.conv std.mn std.mx std.not std.beq std.len std.at' std.ln std.bd std.cut std.app std.allS std.isNil std.mks std.set O rfl facts_std rfl
 exact this
theorem fix_fn {T : Nat → Option FnIr} {md : Modes} {g : Nat} {fn : FnIr} (hT : T g = some fn) (hsp : fn.sp = 0) {args : List SU} (hlen : args.length = fn.np) (hle : fn.np ≤ fn.ntmps) (hb : args.all noBox = true) {r : Ret}
  (hw : Sym (fun P O => wpc P O md fn.ntmps (2 * fn.ntmps + 2) fn.body (enumS 0 (shutArgs fn.modes args)) (finQ fn (shutArgs fn.modes args) (2 * fn.ntmps + 2) r)) (fix T md)) : fix T md g args = some r :=
 fix_vals hT hsp hlen hle hb fun P hP => by subst hP; exact hw.at
theorem both {x : Bool} {A B : Prop} (h1 : x = true → A) (h2 : x = false → B) : (match (generalizing := false) x with | true => A | false => B) := by
 cases x
 ·exact h2 rfl
 ·exact h1 rfl
def At (i : Int) (n : Nat) : Prop := i = n
def row {α : Type} (f : α → List V) (l : List α) : List (List V) := l.map f
theorem row_len {α : Type} (f : α → List V) (l : List α) : (row f l).length = l.length := by simp [row]
theorem row_at {α : Type} {f : α → List V} {k : Nat} (hk : ∀ a, (f a).length = k) (h0 : k ≠ 0) {pre : List α} {x : α} {suf : List α} : stdAt k (row f (pre ++ x :: suf)) (pre.length : Int) = some (pre.length * k, f x) := by
 unfold stdAt idx
 rw [row_len, if_pos ⟨by omega, by simp; omega⟩]
 simp [row, hk, h0]
theorem row_at_get {α : Type} {f : α → List V} {k : Nat} (hk : ∀ a, (f a).length = k) (h0 : k ≠ 0) {l : List α} {i : Int} {x : α} (h : 0 ≤ i) (hx : l[i.toNat]? = some x) : stdAt k (row f l) i = some (i.toNat * k, f x) := by
 have hlt : i.toNat < l.length := (List.getElem?_eq_some_iff.1 hx).1
 unfold stdAt idx
 rw [row_len, if_pos ⟨h, by omega⟩]
 have hall : (row f l).all (fun e => decide (e.length = k)) = true := by
  rw [List.all_eq_true]
  intro e he
  obtain ⟨a, _, rfl⟩ := List.mem_map.1 he
  simp [hk]
 have hg : (row f l)[i.toNat]? = some (f x) := by unfold row; rw [List.getElem?_map, hx]; rfl
 simp only [hg]
 rw [if_pos ⟨h0, hk x, hall⟩]
theorem row_of {α : Type} {f : α → List V} {k : Nat} (hk : ∀ a, (f a).length = k) (l : List α) : rowsOf k (row f l) = true := by
 unfold rowsOf
 rw [List.all_eq_true]
 intro e he
 obtain ⟨a, _, rfl⟩ := List.mem_map.1 he
 simp [hk]
theorem row_app {α : Type} {f : α → List V} {k : Nat} (hk : ∀ a, (f a).length = k) {l l' : List α} (h : l.length + l'.length ≤ lim) : stdApp k (row f l) (row f l') = some (row f (l ++ l')) := by
 unfold stdApp
 rw [if_pos ⟨row_of hk l, row_of hk l', by rw [row_len, row_len]; exact h⟩]
 simp [row]
theorem row_cut {α : Type} {f : α → List V} {k : Nat} (hk : ∀ a, (f a).length = k) {l : List α} {h l0 : Nat} : stdCut k (row f l) h l0 = some (row f ((l.take h).drop l0)) := by
 have := row_of hk l
 unfold rowsOf at this
 unfold stdCut
 rw [if_pos this]
 simp [row]
theorem row_nil {α : Type} {f : α → List V} {l : List α} : stdNil (row f l) = l.isEmpty := by
 cases l <;> rfl
theorem row_scal {α : Type} {f : α → List V} (hf : ∀ a, (f a).all scal = true) {l : List α} : allScal (row f l) = true := by
 unfold allScal
 rw [List.all_eq_true]
 intro e he
 obtain ⟨a, _, rfl⟩ := List.mem_map.1 he
 exact hf a
theorem row_mk {α : Type} {f : α → List V} {z : List V} {a : α} (hz : z = f a) (hne : f a ≠ []) {n : Nat} (h : n ≤ lim) : stdMk z (n : Int) (n : Int) = some (row f (List.replicate n a)) := by
 subst hz
 unfold stdMk
 rw [if_pos ⟨rfl, by omega, by exact_mod_cast h, by cases hf : f a with | nil => exact absurd hf hne | cons x xs => rfl⟩]
 simp [row]
def fI (n : Int) : List V := [.int .i64 n]
def fB (b : Bool) : List V := [.bool b]
abbrev I (n : Int) : SU := ⟨.val, [⟨.int .i64 n, .sc⟩]⟩
abbrev B (b : Bool) : SU := ⟨.val, [⟨.bool b, .sc⟩]⟩
abbrev R (es : List (List V)) (f : Fl) : SU := ⟨.val, [⟨.row () es, f⟩]⟩
theorem wrap64 {x : Int} (h : -9223372036854775808 ≤ x) (h' : x < 9223372036854775808) : IntKind.wrap .i64 x = x := by
 have e1 : IntKind.bits .i64 = 64 := rfl
 have e2 : IntKind.signed .i64 = true := rfl
 unfold IntKind.wrap
 simp only [e1, e2, Bool.true_and]
 by_cases hx : 0 ≤ x
 ·have hm : x % (2 ^ 64 : Int) = x := Int.emod_eq_of_lt hx (by omega)
  rw [hm, if_neg (by simp; omega)]
 ·have hm : x % (2 ^ 64 : Int) = x + 2 ^ 64 := by omega
  rw [hm, if_pos (by simp; omega)]
  omega
theorem loop_ind {P : Prims} {O : Orac} {md : Modes} {nt L : Nat} (hP : P = std) {c : Cd} {m : Mp} {Q : Ex → Mp → Prop} {σ : Type} (st : σ → Mp) (inv : σ → Prop) (μ : σ → Nat) (s0 : σ) (hm : m = st s0) (h0 : inv s0)
  (step : ∀ s, inv s → (∀ s', inv s' → μ s' < μ s → LoopP O md nt L c (st s') Q) → wpc P O md nt L c (st s) fun ex m => match ex with | .normal => LoopP O md nt L c m Q | .exit i => Q (.exit i) m | .ret => Q .ret m) : LoopP O md nt L c m Q := by
 have key : ∀ (n : Nat) (s : σ), μ s < n → inv s → LoopP O md nt L c (st s) Q := by
  intro n
  induction n with
  | zero => intro s h; omega
  | succ n ih =>
   intro s h hi
   exact loop_round hP (step s hi fun s' hi' hlt => ih s' (by omega) hi')
 rw [hm]
 exact key (μ s0 + 1) s0 (Nat.lt_succ_self _) h0
theorem split_flat {α : Type} {f : α → List V} {k : Nat} (hk : ∀ a, (f a).length = k) {pre : List α} {x : α} {suf : List α} {j : Nat} (hj : j < k) : splitIx (pre.length * k + j) (row f (pre ++ x :: suf)) = some (pre.length, j) := by
 induction pre with
 | nil => simp [row, splitIx, hk, hj]
 | cons p ps ih =>
  simp only [List.cons_append, row, List.map_cons, splitIx, hk, List.length_cons]
  rw [if_neg (by rw [Nat.succ_mul]; omega), show (ps.length + 1) * k + j - k = ps.length * k + j by rw [Nat.succ_mul]; omega]
  have := ih
  unfold row at this
  rw [this]; rfl
theorem set_one {α : Type} {pre suf : List α} {f : α → List V} {x y : α} {v : V} (h1 : ∀ a, (f a).length = 1) (hy : f y = [v]) : setFlat (row f (pre ++ x :: suf)) (pre.length * 1) [v] = some (row f (pre ++ y :: suf)) := by
 have h := split_flat (f := f) h1 (pre := pre) (x := x) (suf := suf) (j := 0) (by omega)
 unfold setFlat
 rw [Nat.add_zero] at h
 rw [h]
 have hg : (row f (pre ++ x :: suf))[pre.length]? = some (f x) := by simp [row]
 simp only [hg, setFlat, Option.some.injEq]
 have hl := h1 x
 have hs : (f x).set 0 v = f y := by
  rw [hy]
  cases hfx : f x with
  | nil => rw [hfx] at hl; simp at hl
  | cons a r => cases r with
   | nil => rfl
   | cons b r => rw [hfx] at hl; simp at hl
 rw [hs]
 simp [row]
def inFl : Fl → Bool
 | .sp _ _ | .nl | .sh => true
 | _ => false
theorem shut_in {v : V} {f : Fl} (h : inFl f = true) : shutCell (⟨v, f⟩ : Cell Unit) = ⟨v, .sh⟩ := by
 cases f <;> simp [inFl] at h <;> rfl
end Go.Vm
end
section
namespace Go.Vm
section
variable {add sub mul : IntKind → Int → Int → Int} {arith : BinOp → IntKind → Int → Int → Option V} {eq ne lt le gt ge : Int → Int → Bool} {neg conv : IntKind → Int → Int} {mn mx : Int → Int → Int} {not : Bool → Bool} {beq : Bool → Bool → Bool}
 {len : List (List V) → Int} {at' : Nat → List (List V) → Int → Option (Nat × List V)} {ln : List (List V) → Nat} {bd : Nat → Int → Option Nat} {cut : Nat → List (List V) → Nat → Nat → Option (List (List V))} {app : Nat → List (List V) → List (List V) → Option (List (List V))}
 {allS isNil : List (List V) → Bool} {mks : List V → Int → Int → Option (List (List V))} {set : List (List V) → Nat → List V → Option (List (List V))}
 (F : Facts add sub mul arith eq ne lt le gt ge neg conv mn mx not beq len at' ln bd cut app allS isNil mks set)
include F
theorem Facts.len_at {α : Type} {f : α → List V} {l : List α} {e : List (List V)} (h : e = row f l) : At (len e) l.length := by
 unfold At; rw [F.len, h, row_len]
theorem Facts.lt_t {i j : Int} {n m : Nat} (hi : At i n) (hj : At j m) (h : n < m) : lt i j = true := by
 unfold At at hi hj; rw [F.lt, hi, hj]; simp; omega
theorem Facts.lt_f {i j : Int} {n m : Nat} (hi : At i n) (hj : At j m) (h : m ≤ n) : lt i j = false := by
 unfold At at hi hj; rw [F.lt, hi, hj]; simp; omega
theorem Facts.ne_t {i j : Int} (h : i ≠ j) : ne i j = true := by rw [F.ne]; simp [h]
theorem Facts.ne_f {i j : Int} (h : i = j) : ne i j = false := by rw [F.ne]; simp [h]
theorem Facts.eq_t {i j : Int} (h : i = j) : eq i j = true := by rw [F.eq]; simp [h]
theorem Facts.eq_f {i j : Int} (h : i ≠ j) : eq i j = false := by rw [F.eq]; simp [h]
theorem Facts.inc {i : Int} {n : Nat} (hi : At i n) (h : n ≤ 1099511627776) : At (add .i64 i 1) (n + 1) := by
 unfold At at hi ⊢; rw [F.add, hi, wrap64 (by omega) (by omega)]; rfl
theorem Facts.get {α : Type} {f : α → List V} {k : Nat} {i : Int} {e : List (List V)} {l pre suf : List α} {x : α} (hi : At i pre.length) (he : e = row f l) (hl : l = pre ++ x :: suf) (hk : ∀ a, (f a).length = k) (h0 : k ≠ 0) : at' k e i = some (pre.length * k, f x) := by
 unfold At at hi
 rw [F.at', he, hi, hl]; exact row_at hk h0
theorem Facts.app' {α : Type} {f : α → List V} {k : Nat} {e1 e2 : List (List V)} {l1 l2 : List α} (h1 : e1 = row f l1) (h2 : e2 = row f l2) (hk : ∀ a, (f a).length = k) (h : l1.length + l2.length ≤ 1099511627776) : app k e1 e2 = some (row f (l1 ++ l2)) := by
 rw [F.app, h1, h2]; exact row_app hk h
theorem Facts.scal {α : Type} {f : α → List V} {e : List (List V)} {l : List α} (h : e = row f l) (hf : ∀ a, (f a).all scal = true) : allS e = true := by
 rw [F.allS, h]; exact row_scal hf
theorem Facts.nil {α : Type} {f : α → List V} {e : List (List V)} {l : List α} (h : e = row f l) : isNil e = l.isEmpty := by
 rw [F.isNil, h]; exact row_nil
theorem Facts.app_nil {α : Type} {f : α → List V} {k : Nat} {e : List (List V)} {l : List α} (h : e = row f l) (hk : ∀ a, (f a).length = k) (hl : l.length ≤ 1099511627776) : app k [] e = some e := by
 have := F.app' (f := f) (l1 := []) (e1 := []) rfl h hk (by simpa using hl)
 rw [this, h]; rfl
theorem Facts.push {α : Type} {f : α → List V} {k : Nat} {e : List (List V)} {l : List α} {x : α} {c : List V} (h : e = row f l) (hk : ∀ a, (f a).length = k) (hc : f x = c) (hl : l.length < 1099511627776) : app k e [c] = some (row f (l ++ [x])) :=
 F.app' (f := f) (l2 := [x]) h (by simp [row, hc]) hk (by simp; omega)
theorem Facts.bd' {i : Int} {n m : Nat} (hi : At i n) (h : n ≤ m) : bd m i = some n := by
 unfold At at hi
 rw [F.bd]; unfold stdBd
 rw [if_pos ⟨by omega, by omega⟩]; simp [hi]
theorem Facts.ln' {α : Type} {f : α → List V} {l : List α} {e : List (List V)} (h : e = row f l) : ln e = l.length := by rw [F.ln, h, row_len]
theorem Facts.cut' {α : Type} {f : α → List V} {k : Nat} {e : List (List V)} {l : List α} {h0 l0 : Nat} (h : e = row f l) (hk : ∀ a, (f a).length = k) : cut k e h0 l0 = some (row f ((l.take h0).drop l0)) := by
 rw [F.cut, h]; exact row_cut hk
theorem Facts.le_n {i k : Int} {n m : Nat} (hi : At i n) (hk : k = (m : Int)) : le i k = decide (n ≤ m) := by unfold At at hi; rw [F.le, hi, hk]; simp
theorem Facts.lt_n {i k : Int} {n m : Nat} (hi : At i n) (hk : k = (m : Int)) : lt i k = decide (n < m) := by unfold At at hi; rw [F.lt, hi, hk]; simp
theorem Facts.gt_n {i k : Int} {n m : Nat} (hi : At i n) (hk : k = (m : Int)) : gt i k = decide (m < n) := by unfold At at hi; rw [F.gt, hi, hk]; simp
theorem Facts.ge_n {i k : Int} {n m : Nat} (hi : At i n) (hk : k = (m : Int)) : ge i k = decide (m ≤ n) := by unfold At at hi; rw [F.ge, hi, hk]; simp
theorem Facts.eq_n {i k : Int} {n m : Nat} (hi : At i n) (hk : k = (m : Int)) : eq i k = decide (n = m) := by unfold At at hi; rw [F.eq, hi, hk]; simp; omega
theorem Facts.ne_n {i k : Int} {n m : Nat} (hi : At i n) (hk : k = (m : Int)) : ne i k = decide (n ≠ m) := by unfold At at hi; rw [F.ne, hi, hk]; simp; omega
theorem Facts.not_t {b : Bool} (h : not b = true) : b = false := by rw [F.not] at h; simpa using h
theorem Facts.not_f {b : Bool} (h : not b = false) : b = true := by rw [F.not] at h; simpa using h
end
def md (g : Nat) : List Pm := if g < 1000 then [] else if g < 2000 then [.mrow, .val] else if g < 3000 then [.mrow] else [.mbox]
theorem fix_fn2 {T : Nat → Option FnIr} {md : Modes} {g : Nat} {fn : FnIr} (hT : T g = some fn) (hsp : fn.sp = 0) {args : List SU} (hlen : args.length = fn.np) (hle : fn.np ≤ fn.ntmps) (hb : args.all noBox = true) {r : Ret}
  (hw : ∀ Q, Q = finQ fn (shutArgs fn.modes args) (2 * fn.ntmps + 2) r → Sym (fun P O => wpc P O md fn.ntmps (2 * fn.ntmps + 2) fn.body (enumS 0 (shutArgs fn.modes args)) Q) (fix T md)) : fix T md g args = some r :=
 fix_fn hT hsp hlen hle hb (hw _ rfl)
theorem loop_ind2 {P : Prims} {O : Orac} {md : Modes} {nt L : Nat} (hP : P = std) {c : Cd} {m : Mp} {Q : Ex → Mp → Prop} {σ : Type} (st : σ → Mp) (inv : σ → Prop) (μ : σ → Nat) (s0 : σ) (hm : m = st s0) (h0 : inv s0)
  (step : ∀ (c' : Cd) (Q' : Ex → Mp → Prop), c' = c → Q' = Q → ∀ s, inv s → (∀ s', inv s' → μ s' < μ s → LoopP O md nt L c' (st s') Q') → wpc P O md nt L c (st s) fun ex m => match ex with | .normal => LoopP O md nt L c' m Q' | .exit i => Q' (.exit i) m | .ret => Q' .ret m) : LoopP O md nt L c m Q :=
 loop_ind hP st inv μ s0 hm h0 (step c Q rfl rfl)
theorem at0 : At 0 0 := rfl
theorem at_len {i : Int} {n m : Nat} (h : At i n) (e : n = m) : At i m := e ▸ h
def inR (n lo hi : Int) : Bool := decide (lo ≤ n) && decide (n ≤ hi)
def bytes (l : List Int) : Bool := l.all fun n => inR n 0 255
end Go.Vm
end
section
namespace Go.Vm
open Go.RowKit
theorem fit_int {k : IntKind} {v : V} (h : Fit (.int k) v) : ∃ n, v = .int k n ∧ k.min ≤ n ∧ n ≤ k.max := by cases h; exact ⟨_, rfl, by assumption, by assumption⟩
theorem fit_i64 {v : V} (h : Fit (.int .i64) v) : ∃ n, v = .int .i64 n ∧ -9223372036854775808 ≤ n ∧ n ≤ 9223372036854775807 := by
 obtain ⟨n, h1, h2, h3⟩ := fit_int h
 exact ⟨n, h1, Int.le_trans (by decide) h2, Int.le_trans h3 (by decide)⟩
theorem fit_bool {v : V} (h : Fit .bool v) : ∃ b, v = .bool b := by cases h; exact ⟨_, rfl⟩
theorem fitL_nil {vs : List V} (h : FitL [] vs) : vs = [] := by simpa using h.1
theorem fitL_cons {s : Sh} {l : List Sh} {vs : List V} (h : FitL (s :: l) vs) : ∃ v vs', vs = v :: vs' ∧ Fit s v ∧ FitL l vs' := by
 obtain ⟨h1, h2⟩ := h
 match vs, h1 with
 | v :: vs', h1 => exact ⟨v, vs', rfl, h2 0 s v rfl rfl, by simpa using h1, fun i s' v' a b => h2 (i + 1) s' v' (by simpa using a) (by simpa using b)⟩
theorem fit_row {α : Type} {f : α → List V} {Q : α → Prop} {l : List Sh} (hf : ∀ vs, FitL l vs → ∃ a, vs = f a ∧ Q a) {v : V} (h : Fit (.row l) v) : ∃ as : List α, v = .row () (row f as) ∧ as.length ≤ 9223372036854775807 ∧ ∀ a ∈ as, Q a := by
 cases h with
 | row _ es hl hk he =>
  have key : ∀ es : List (List V), (∀ e ∈ es, FitL l e) → ∃ as : List α, es = row f as ∧ ∀ a ∈ as, Q a := by
   intro es
   induction es with
   | nil => intro _; exact ⟨[], rfl, by simp⟩
   | cons e es ih =>
    intro h
    obtain ⟨a, h1, h2⟩ := hf e (h e (by simp))
    obtain ⟨as, h3, h4⟩ := ih (fun x hx => h x (by simp [hx]))
    exact ⟨a :: as, by simp [row, h1, h3], by simpa using ⟨h2, h4⟩⟩
  obtain ⟨as, h1, h2⟩ := key es (fun e h => ⟨hk e h, he e h⟩)
  refine ⟨as, by rw [h1], ?_, h2⟩
  rw [h1, row_len] at hl
  simpa [maxLen] using hl
def Int64 (n : Int) : Prop := -9223372036854775808 ≤ n ∧ n ≤ 9223372036854775807
theorem fitL_I {vs : List V} (h : FitL [.int .i64] vs) : ∃ n, vs = fI n ∧ Int64 n := by
 obtain ⟨v, vs', rfl, h1, h2⟩ := fitL_cons h
 obtain ⟨n, rfl, h3⟩ := fit_i64 h1
 exact ⟨n, by rw [fitL_nil h2]; rfl, h3⟩
theorem fitL_B {vs : List V} (h : FitL [.bool] vs) : ∃ b, vs = fB b ∧ True := by
 obtain ⟨v, vs', rfl, h1, h2⟩ := fitL_cons h
 obtain ⟨n, rfl⟩ := fit_bool h1
 exact ⟨n, by rw [fitL_nil h2]; rfl, trivial⟩
def fR (l : List Int) : List V := [.row () (row fI l)]
theorem fit_ints {v : V} (h : Fit (.row [.int .i64]) v) : ∃ l : List Int, v = .row () (row fI l) ∧ l.length ≤ 9223372036854775807 ∧ ∀ n ∈ l, Int64 n := fit_row (fun _ => fitL_I) h
theorem fitL_R {vs : List V} (h : FitL [.row [.int .i64]] vs) : ∃ l, vs = fR l ∧ (l.length ≤ 9223372036854775807 ∧ ∀ n ∈ l, Int64 n) := by
 obtain ⟨v, vs', rfl, h1, h2⟩ := fitL_cons h
 obtain ⟨n, rfl, h3⟩ := fit_ints h1
 exact ⟨n, by rw [fitL_nil h2]; rfl, h3⟩
def ForArgs : List (Bool × List Sh) → (List (Bool × List V) → Prop) → Prop
 | [], p => p []
 | x :: ls, p => ∀ vs, FitL x.2 vs → ForArgs ls (fun xs => p ((x.1, vs) :: xs))
theorem forArgs_iff : ∀ (ls : List (Bool × List Sh)) (p : List (Bool × List V) → Prop), ForArgs ls p → ∀ xs : List (Bool × List V), xs.length = ls.length → (∀ (i : Nat) x y, xs[i]? = some x → ls[i]? = some y → x.1 = y.1 ∧ FitL y.2 x.2) → p xs
 | [], p, h, xs, hl, _ => by
  have : xs = [] := by simpa using hl
  subst this
  exact h
 | y :: ls, p, h, xs, hl, hf => by
  match xs, hl, hf with
  | x :: xs, hl, hf =>
   obtain ⟨h1, h2⟩ := hf 0 x y rfl rfl
   have := forArgs_iff ls _ (h x.2 h2) xs (by simpa using hl) (fun i x' y' a b => hf (i + 1) x' y' (by simpa using a) (by simpa using b))
   rw [← h1] at this
   exact this
theorem answers_of {T : Nat → Option FnIr} {modes : Modes} {g : Nat} {ls : List (Bool × List Sh)} (h : ForArgs ls fun xs => fix T modes g (inSls 0 xs) = some ⟨[B true], [], none⟩) : Answers T modes g ls := by
 intro xs h1 h2
 obtain ⟨n, hn⟩ := fix_iff.1 (forArgs_iff ls _ h xs h1 h2)
 exact ⟨n, _, hn⟩
def Good (P : Program) (sid : Nat → Nat) (canon : Nat → Option Nat) (p : Nat × FnIr) : Prop :=
 (p.2.sp = 0 ∧ ∃ fn ms, P.funcs[sid p.1]? = some fn ∧ (fn.name == "runtime.NumGoroutine") = false ∧ cFn P canon 0 ms fn = some p.2) ∨ (p.2.sp ≠ 0 ∧ Special P sid p.1 p.2.sp)
theorem lookup_mem {β : Type} {g : Nat} {x : β} : ∀ {L : List (Nat × β)}, L.lookup g = some x → (g, x) ∈ L
 | [], h => by simp at h
 | (k, y) :: L, h => by
  rw [List.lookup_cons] at h
  split at h
  ·rename_i e
   rw [beq_iff_eq] at e
   simp only [Option.some.injEq] at h
   subst e; subst h
   exact List.mem_cons_self ..
  ·exact List.mem_cons_of_mem _ (lookup_mem h)
theorem fnTab_of {P : Program} {sid : Nat → Nat} (L : List (Nat × Nat)) (hL : ∀ p ∈ L, sid p.2 = p.1) (hm : P.follows .mixedOrders = true) (tbl : List (Nat × FnIr)) (h : ∀ p ∈ tbl, Good P sid (fun f => L.lookup f) p) : FnTab P sid (fun f => L.lookup f) (fun g => tbl.lookup g) where
 ids f g hf := hL (f, g) (lookup_mem hf)
 mixed := hm
 fn g ir hg := h (g, ir) (lookup_mem hg)
theorem split_raw {k : Nat} {A : List (List V)} (hA : ∀ a ∈ A, a.length = k) {e : List V} (he : e.length = k) {Z : List (List V)} {j : Nat} (hj : j < k) : splitIx (A.length * k + j) (A ++ e :: Z) = some (A.length, j) := by
 induction A with
 | nil => simp [splitIx, he, hj]
 | cons p ps ih =>
  have hp : p.length = k := hA p (by simp)
  simp only [List.cons_append, splitIx, List.length_cons, hp]
  rw [if_neg (by rw [Nat.succ_mul]; omega), show (ps.length + 1) * k + j - k = ps.length * k + j by rw [Nat.succ_mul]; omega]
  rw [ih (fun a ha => hA a (by simp [ha]))]; rfl
theorem set_raw {k : Nat} : ∀ (vs : List V) (j : Nat) (A : List (List V)) (e : List V) (Z : List (List V)), (∀ a ∈ A, a.length = k) → e.length = k → j + vs.length ≤ k → setFlat (A ++ e :: Z) (A.length * k + j) vs = some (A ++ (e.take j ++ vs ++ e.drop (j + vs.length)) :: Z)
 | [], j, A, e, Z, _, _, _ => by simp [setFlat]
 | v :: vs, j, A, e, Z, hA, he, hj => by
  simp only [List.length_cons] at hj
  unfold setFlat
  rw [split_raw hA he (by omega)]
  have hg : (A ++ e :: Z)[A.length]? = some e := by simp
  simp only [hg]
  have hs : (A ++ e :: Z).set A.length (e.set j v) = A ++ e.set j v :: Z := by simp
  rw [hs, Nat.add_assoc, set_raw vs (j + 1) A (e.set j v) Z hA (by simpa using he) (by omega)]
  congr 3
  have h1 : (e.set j v).take (j + 1) = e.take j ++ [v] := by
   rw [List.take_succ_eq_append_getElem (by simp; omega), List.take_set_of_le (Nat.le_refl j)]
   simp
  rw [h1, List.drop_set_of_lt (by omega)]
  simp only [List.append_assoc, List.cons_append, List.nil_append, List.length_cons]
  rw [show j + 1 + vs.length = j + (vs.length + 1) by omega]
theorem set_all {α : Type} {pre suf : List α} {f : α → List V} {k : Nat} {x y : α} {vs : List V} (hk : ∀ a, (f a).length = k) (hy : f y = vs) : setFlat (row f (pre ++ x :: suf)) (pre.length * k) vs = some (row f (pre ++ y :: suf)) := by
 have := set_raw (k := k) vs 0 (row f pre) (f x) (row f suf) (by intro a ha; obtain ⟨b, _, rfl⟩ := List.mem_map.1 ha; exact hk b) (hk x) (by rw [← hy, hk]; omega)
 rw [row_len, Nat.add_zero] at this
 rw [show row f (pre ++ x :: suf) = row f pre ++ f x :: row f suf by simp [row], this]
 have hl : vs.length = k := by rw [← hy, hk]
 simp [row, ← hy, hk]
end Go.Vm
end
section
set_option linter.unusedVariables false
namespace Go.Vm
def sz1 (n : Nat) (left : Int) : Int := if left - (n : Int) < 0 then -1 else left - (n : Int)
structure Sz (n : Int → Int) (P : Prop) : Prop where
 lo : ∀ left, left ≤ 1048576 → -1 ≤ n left
 hi : ∀ left, 0 ≤ n left → n left ≤ left
 neg : ∀ left, left < 0 → n left = -1
 ok : ∀ left, left ≤ 1048576 → 0 ≤ n left → P
theorem Sz.up {n : Int → Int} {P : Prop} (h : Sz n P) {left : Int} (hl : left ≤ 1048576) : n left ≤ 1048576 := by
 by_cases h0 : 0 ≤ n left
 ·exact Int.le_trans (h.hi left h0) hl
 ·omega
theorem Sz.of1 (k : Nat) : Sz (sz1 k) (k ≤ 1048576) where
 lo left h := by unfold sz1; split <;> omega
 hi left h := by unfold sz1 at *; split <;> split at h <;> omega
 neg left h := by unfold sz1; split <;> omega
 ok left h h' := by unfold sz1 at h'; split at h' <;> omega
theorem Sz.comp {n n' : Int → Int} {P P' : Prop} (h : Sz n P) (h' : Sz n' P') : Sz (fun l => n' (n l)) (P ∧ P') where
 lo left hl := h'.lo _ (h.up hl)
 hi left hl := by
  have h1 := h'.hi _ hl
  exact Int.le_trans h1 (h.hi left (Int.le_trans hl h1))
 neg left hl := h'.neg _ (by rw [h.neg left hl]; decide)
 ok left hl h0 := by
  have h1 := h'.hi _ h0
  exact ⟨h.ok left hl (Int.le_trans h0 h1), h'.ok _ (h.up hl) h0⟩
theorem Sz.id0 : Sz (sz1 0) True where
 lo left h := (Sz.of1 0).lo left h
 hi left h := (Sz.of1 0).hi left h
 neg left h := (Sz.of1 0).neg left h
 ok _ _ _ := trivial
def szL {α : Type} (f : α → Int → Int) (l : List α) (left : Int) : Int := l.foldl (fun a x => f x a) (sz1 l.length left)
theorem szF_hi {α : Type} {f : α → Int → Int} {P : α → Prop} (h : ∀ x, Sz (f x) (P x)) : ∀ (l : List α) (left : Int), 0 ≤ l.foldl (fun a x => f x a) left → l.foldl (fun a x => f x a) left ≤ left
 | [], left, _ => Int.le_refl _
 | x :: l, left, h0 => by
  rw [List.foldl_cons] at *
  have h1 := szF_hi h l (f x left) h0
  exact Int.le_trans h1 ((h x).hi left (by omega))
theorem szF_neg {α : Type} {f : α → Int → Int} {P : α → Prop} (h : ∀ x, Sz (f x) (P x)) : ∀ (l : List α) (left : Int), left = -1 → l.foldl (fun a x => f x a) left = -1
 | [], left, h0 => h0
 | x :: l, left, h0 => by
  rw [List.foldl_cons]
  exact szF_neg h l _ ((h x).neg left (by omega))
theorem szF_lo {α : Type} {f : α → Int → Int} {P : α → Prop} (h : ∀ x, Sz (f x) (P x)) : ∀ (l : List α) (left : Int), -1 ≤ left → left ≤ 1048576 → -1 ≤ l.foldl (fun a x => f x a) left
 | [], left, h0, _ => h0
 | x :: l, left, h0, h1 => by
  rw [List.foldl_cons]
  exact szF_lo h l _ ((h x).lo left h1) ((h x).up h1)
theorem szF_ok {α : Type} {f : α → Int → Int} {P : α → Prop} (h : ∀ x, Sz (f x) (P x)) : ∀ (l : List α) (left : Int), left ≤ 1048576 → 0 ≤ l.foldl (fun a x => f x a) left → ∀ x ∈ l, P x
 | [], left, _, _ => by simp
 | x :: l, left, h1, h0 => by
  rw [List.foldl_cons] at h0
  have h2 := szF_hi h l _ h0
  intro y hy
  rcases List.mem_cons.1 hy with rfl | hy
  ·exact (h y).ok left h1 (by omega)
  ·exact szF_ok h l _ ((h x).up h1) h0 y hy
theorem Sz.list {α : Type} {f : α → Int → Int} {P : α → Prop} (h : ∀ x, Sz (f x) (P x)) (l : List α) : Sz (szL f l) (l.length ≤ 1048576 ∧ ∀ x ∈ l, P x) where
 lo left hl := szF_lo h l _ ((Sz.of1 _).lo left hl) ((Sz.of1 _).up hl)
 hi left hl := by
  have h1 := szF_hi h l _ hl
  unfold szL at *
  exact Int.le_trans h1 ((Sz.of1 _).hi left (by omega))
 neg left hl := szF_neg h l _ ((Sz.of1 _).neg left hl)
 ok left hl h0 := by
  have h1 := szF_hi h l _ h0
  unfold szL at *
  exact ⟨(Sz.of1 _).ok left hl (by omega), szF_ok h l _ ((Sz.of1 _).up hl) h0⟩
def szR (l : List Int) : Int → Int := sz1 l.length
theorem szR_Sz (l : List Int) : Sz (szR l) (l.length ≤ 1048576) := Sz.of1 _
def szI (_ : Int) : Int → Int := sz1 0
structure Ext where
 tag : Int
 body : List Int
theorem Ext.eq_iff {a b : Ext} : a = b ↔ a.tag = b.tag ∧ a.body = b.body := by cases a; cases b; simp
instance : DecidableEq Ext := fun a b => decidable_of_iff (a.tag = b.tag ∧ a.body = b.body) Ext.eq_iff.symm
def fExt (x : Ext) : List V := [.int .i64 x.tag, .row () (row fI x.body)]
abbrev sExt (tag : Int) (body : List (List V)) (g1 : Fl) : SU := ⟨.agg, [⟨.int .i64 tag, .sc⟩, ⟨.row () body, g1⟩]⟩
def Ext.Fits (x : Ext) : Prop := Int64 x.tag ∧ (x.body.length ≤ 9223372036854775807 ∧ ∀ n ∈ x.body, Int64 n)
theorem fitL_Ext {vs : List V} (h : FitL [.int .i64, .row [.int .i64]] vs) : ∃ x : Ext, vs = fExt x ∧ x.Fits := by
 obtain ⟨_, _, rfl, h0, h⟩ := fitL_cons h
 obtain ⟨_, _, rfl, h1, h⟩ := fitL_cons h
 cases fitL_nil h
 obtain ⟨tag, rfl, w0⟩ := fit_i64 h0
 obtain ⟨body, rfl, w1⟩ := fit_ints h1
 exact ⟨⟨tag, body⟩, rfl, ⟨w0, w1⟩⟩
def szExt (x : Ext) (left : Int) : Int := sz1 x.body.length left
def Ext.Small (x : Ext) : Prop := x.body.length ≤ 1048576
theorem szExt_Sz (x : Ext) : Sz (szExt x) x.Small := Sz.of1 _
def Ext.Mid (x : Ext) : Prop := x.body.length ≤ 1073741824
theorem Ext.Small.mid {x : Ext} (h : x.Small) : x.Mid := by
 unfold Ext.Small at h; unfold Ext.Mid
 exact Nat.le_trans h (by decide)
structure Hello where
 versions : List Int
 exts : List Ext
theorem Hello.eq_iff {a b : Hello} : a = b ↔ a.versions = b.versions ∧ a.exts = b.exts := by cases a; cases b; simp
instance : DecidableEq Hello := fun a b => decidable_of_iff (a.versions = b.versions ∧ a.exts = b.exts) Hello.eq_iff.symm
def fHello (x : Hello) : List V := [.row () (row fI x.versions), .row () (row fExt x.exts)]
abbrev sHello (versions : List (List V)) (exts : List (List V)) (g1 : Fl) (g2 : Fl) : SU := ⟨.agg, [⟨.row () versions, g1⟩, ⟨.row () exts, g2⟩]⟩
def Hello.Fits (x : Hello) : Prop := (x.versions.length ≤ 9223372036854775807 ∧ ∀ n ∈ x.versions, Int64 n) ∧ (x.exts.length ≤ 9223372036854775807 ∧ ∀ y ∈ x.exts, y.Fits)
theorem fitL_Hello {vs : List V} (h : FitL [.row [.int .i64], .row [.int .i64, .row [.int .i64]]] vs) : ∃ x : Hello, vs = fHello x ∧ x.Fits := by
 obtain ⟨_, _, rfl, h0, h⟩ := fitL_cons h
 obtain ⟨_, _, rfl, h1, h⟩ := fitL_cons h
 cases fitL_nil h
 obtain ⟨versions, rfl, w0⟩ := fit_ints h0
 obtain ⟨exts, rfl, w1⟩ := fit_row (fun _ => fitL_Ext) h1
 exact ⟨⟨versions, exts⟩, rfl, ⟨w0, w1⟩⟩
def szHello (x : Hello) (left : Int) : Int := szL szExt x.exts (sz1 x.versions.length left)
def Hello.Small (x : Hello) : Prop := (x.versions.length ≤ 1048576) ∧ (x.exts.length ≤ 1048576 ∧ ∀ y ∈ x.exts, y.Small)
theorem szHello_Sz (x : Hello) : Sz (szHello x) x.Small := Sz.comp (n := sz1 x.versions.length) (n' := szL szExt x.exts) (Sz.of1 _) (Sz.list szExt_Sz _)
def Hello.Mid (x : Hello) : Prop := (x.versions.length ≤ 1073741824) ∧ (x.exts.length ≤ 1073741824 ∧ ∀ y ∈ x.exts, y.Mid)
theorem Hello.Small.mid {x : Hello} (h : x.Small) : x.Mid := by
 unfold Hello.Small at h; unfold Hello.Mid
 exact ⟨Nat.le_trans h.1 (by decide), ⟨Nat.le_trans h.2.1 (by decide), fun y hy => (h.2.2 y hy).mid⟩⟩
structure Answer where
 version : Int
 exts : List Ext
theorem Answer.eq_iff {a b : Answer} : a = b ↔ a.version = b.version ∧ a.exts = b.exts := by cases a; cases b; simp
instance : DecidableEq Answer := fun a b => decidable_of_iff (a.version = b.version ∧ a.exts = b.exts) Answer.eq_iff.symm
def fAnswer (x : Answer) : List V := [.int .i64 x.version, .row () (row fExt x.exts)]
abbrev sAnswer (version : Int) (exts : List (List V)) (g1 : Fl) : SU := ⟨.agg, [⟨.int .i64 version, .sc⟩, ⟨.row () exts, g1⟩]⟩
def Answer.Fits (x : Answer) : Prop := Int64 x.version ∧ (x.exts.length ≤ 9223372036854775807 ∧ ∀ y ∈ x.exts, y.Fits)
theorem fitL_Answer {vs : List V} (h : FitL [.int .i64, .row [.int .i64, .row [.int .i64]]] vs) : ∃ x : Answer, vs = fAnswer x ∧ x.Fits := by
 obtain ⟨_, _, rfl, h0, h⟩ := fitL_cons h
 obtain ⟨_, _, rfl, h1, h⟩ := fitL_cons h
 cases fitL_nil h
 obtain ⟨version, rfl, w0⟩ := fit_i64 h0
 obtain ⟨exts, rfl, w1⟩ := fit_row (fun _ => fitL_Ext) h1
 exact ⟨⟨version, exts⟩, rfl, ⟨w0, w1⟩⟩
def szAnswer (x : Answer) (left : Int) : Int := szL szExt x.exts left
def Answer.Small (x : Answer) : Prop := (x.exts.length ≤ 1048576 ∧ ∀ y ∈ x.exts, y.Small)
theorem szAnswer_Sz (x : Answer) : Sz (szAnswer x) x.Small := Sz.list szExt_Sz _
def Answer.Mid (x : Answer) : Prop := (x.exts.length ≤ 1073741824 ∧ ∀ y ∈ x.exts, y.Mid)
theorem Answer.Small.mid {x : Answer} (h : x.Small) : x.Mid := by
 unfold Answer.Small at h; unfold Answer.Mid
 exact ⟨Nat.le_trans h.1 (by decide), fun y hy => (h.2 y hy).mid⟩
structure Edit where
 kind : Int
 n : Int
theorem Edit.eq_iff {a b : Edit} : a = b ↔ a.kind = b.kind ∧ a.n = b.n := by cases a; cases b; simp
instance : DecidableEq Edit := fun a b => decidable_of_iff (a.kind = b.kind ∧ a.n = b.n) Edit.eq_iff.symm
def fEdit (x : Edit) : List V := [.int .i64 x.kind, .int .i64 x.n]
abbrev sEdit (kind : Int) (n : Int) : SU := ⟨.agg, [⟨.int .i64 kind, .sc⟩, ⟨.int .i64 n, .sc⟩]⟩
def Edit.Fits (x : Edit) : Prop := Int64 x.kind ∧ Int64 x.n
theorem fitL_Edit {vs : List V} (h : FitL [.int .i64, .int .i64] vs) : ∃ x : Edit, vs = fEdit x ∧ x.Fits := by
 obtain ⟨_, _, rfl, h0, h⟩ := fitL_cons h
 obtain ⟨_, _, rfl, h1, h⟩ := fitL_cons h
 cases fitL_nil h
 obtain ⟨kind, rfl, w0⟩ := fit_i64 h0
 obtain ⟨n, rfl, w1⟩ := fit_i64 h1
 exact ⟨⟨kind, n⟩, rfl, ⟨w0, w1⟩⟩
def szEdit (x : Edit) (left : Int) : Int := sz1 0 left
def Edit.Small (x : Edit) : Prop := True
theorem szEdit_Sz (x : Edit) : Sz (szEdit x) x.Small := Sz.id0
def Edit.Mid (x : Edit) : Prop := True
theorem Edit.Small.mid {x : Edit} (h : x.Small) : x.Mid := by
 unfold Edit.Small at h; unfold Edit.Mid
 exact trivial
structure Deal where
 ok : Bool
 version : Int
 tags : List Int
theorem Deal.eq_iff {a b : Deal} : a = b ↔ a.ok = b.ok ∧ a.version = b.version ∧ a.tags = b.tags := by cases a; cases b; simp
instance : DecidableEq Deal := fun a b => decidable_of_iff (a.ok = b.ok ∧ a.version = b.version ∧ a.tags = b.tags) Deal.eq_iff.symm
def fDeal (x : Deal) : List V := [.bool x.ok, .int .i64 x.version, .row () (row fI x.tags)]
abbrev sDeal (ok : Bool) (version : Int) (tags : List (List V)) (g1 : Fl) : SU := ⟨.agg, [⟨.bool ok, .sc⟩, ⟨.int .i64 version, .sc⟩, ⟨.row () tags, g1⟩]⟩
def Deal.Fits (x : Deal) : Prop := Int64 x.version ∧ (x.tags.length ≤ 9223372036854775807 ∧ ∀ n ∈ x.tags, Int64 n)
theorem fitL_Deal {vs : List V} (h : FitL [.bool, .int .i64, .row [.int .i64]] vs) : ∃ x : Deal, vs = fDeal x ∧ x.Fits := by
 obtain ⟨_, _, rfl, h0, h⟩ := fitL_cons h
 obtain ⟨_, _, rfl, h1, h⟩ := fitL_cons h
 obtain ⟨_, _, rfl, h2, h⟩ := fitL_cons h
 cases fitL_nil h
 obtain ⟨ok, rfl⟩ := fit_bool h0
 obtain ⟨version, rfl, w1⟩ := fit_i64 h1
 obtain ⟨tags, rfl, w2⟩ := fit_ints h2
 exact ⟨⟨ok, version, tags⟩, rfl, ⟨w1, w2⟩⟩
def szDeal (x : Deal) (left : Int) : Int := sz1 x.tags.length left
def Deal.Small (x : Deal) : Prop := x.tags.length ≤ 1048576
theorem szDeal_Sz (x : Deal) : Sz (szDeal x) x.Small := Sz.of1 _
def Deal.Mid (x : Deal) : Prop := x.tags.length ≤ 1073741824
theorem Deal.Small.mid {x : Deal} (h : x.Small) : x.Mid := by
 unfold Deal.Small at h; unfold Deal.Mid
 exact Nat.le_trans h (by decide)
structure Box where
 limit : Int
 drops : List Int
 strips : List Int
 lists : Bool
theorem Box.eq_iff {a b : Box} : a = b ↔ a.limit = b.limit ∧ a.drops = b.drops ∧ a.strips = b.strips ∧ a.lists = b.lists := by cases a; cases b; simp
instance : DecidableEq Box := fun a b => decidable_of_iff (a.limit = b.limit ∧ a.drops = b.drops ∧ a.strips = b.strips ∧ a.lists = b.lists) Box.eq_iff.symm
def fBox (x : Box) : List V := [.int .i64 x.limit, .row () (row fI x.drops), .row () (row fI x.strips), .bool x.lists]
abbrev sBox (limit : Int) (drops : List (List V)) (strips : List (List V)) (lists : Bool) (g1 : Fl) (g2 : Fl) : SU := ⟨.agg, [⟨.int .i64 limit, .sc⟩, ⟨.row () drops, g1⟩, ⟨.row () strips, g2⟩, ⟨.bool lists, .sc⟩]⟩
def Box.Fits (x : Box) : Prop := Int64 x.limit ∧ (x.drops.length ≤ 9223372036854775807 ∧ ∀ n ∈ x.drops, Int64 n) ∧ (x.strips.length ≤ 9223372036854775807 ∧ ∀ n ∈ x.strips, Int64 n)
theorem fitL_Box {vs : List V} (h : FitL [.int .i64, .row [.int .i64], .row [.int .i64], .bool] vs) : ∃ x : Box, vs = fBox x ∧ x.Fits := by
 obtain ⟨_, _, rfl, h0, h⟩ := fitL_cons h
 obtain ⟨_, _, rfl, h1, h⟩ := fitL_cons h
 obtain ⟨_, _, rfl, h2, h⟩ := fitL_cons h
 obtain ⟨_, _, rfl, h3, h⟩ := fitL_cons h
 cases fitL_nil h
 obtain ⟨limit, rfl, w0⟩ := fit_i64 h0
 obtain ⟨drops, rfl, w1⟩ := fit_ints h1
 obtain ⟨strips, rfl, w2⟩ := fit_ints h2
 obtain ⟨lists, rfl⟩ := fit_bool h3
 exact ⟨⟨limit, drops, strips, lists⟩, rfl, ⟨w0, w1, w2⟩⟩
def szBox (x : Box) (left : Int) : Int := sz1 x.strips.length (sz1 x.drops.length left)
def Box.Small (x : Box) : Prop := (x.drops.length ≤ 1048576) ∧ x.strips.length ≤ 1048576
theorem szBox_Sz (x : Box) : Sz (szBox x) x.Small := Sz.comp (n := sz1 x.drops.length) (n' := sz1 x.strips.length) (Sz.of1 _) (Sz.of1 _)
def Box.Mid (x : Box) : Prop := (x.drops.length ≤ 1073741824) ∧ x.strips.length ≤ 1073741824
theorem Box.Small.mid {x : Box} (h : x.Small) : x.Mid := by
 unfold Box.Small at h; unfold Box.Mid
 exact ⟨Nat.le_trans h.1 (by decide), Nat.le_trans h.2 (by decide)⟩
structure Dialed where
 deal : Deal
 tries : Int
 up : List Int
theorem Dialed.eq_iff {a b : Dialed} : a = b ↔ a.deal = b.deal ∧ a.tries = b.tries ∧ a.up = b.up := by cases a; cases b; simp
instance : DecidableEq Dialed := fun a b => decidable_of_iff (a.deal = b.deal ∧ a.tries = b.tries ∧ a.up = b.up) Dialed.eq_iff.symm
def fDialed (x : Dialed) : List V := [.bool x.deal.ok, .int .i64 x.deal.version, .row () (row fI x.deal.tags), .int .i64 x.tries, .row () (row fI x.up)]
abbrev sDialed (ok : Bool) (version : Int) (tags : List (List V)) (tries : Int) (up : List (List V)) (g1 : Fl) (g2 : Fl) : SU := ⟨.agg, [⟨.bool ok, .sc⟩, ⟨.int .i64 version, .sc⟩, ⟨.row () tags, g1⟩, ⟨.int .i64 tries, .sc⟩, ⟨.row () up, g2⟩]⟩
def Dialed.Fits (x : Dialed) : Prop := x.deal.Fits ∧ Int64 x.tries ∧ (x.up.length ≤ 9223372036854775807 ∧ ∀ n ∈ x.up, Int64 n)
theorem fitL_Dialed {vs : List V} (h : FitL [.bool, .int .i64, .row [.int .i64], .int .i64, .row [.int .i64]] vs) : ∃ x : Dialed, vs = fDialed x ∧ x.Fits := by
 obtain ⟨_, _, rfl, h0, h⟩ := fitL_cons h
 obtain ⟨_, _, rfl, h1, h⟩ := fitL_cons h
 obtain ⟨_, _, rfl, h2, h⟩ := fitL_cons h
 obtain ⟨_, _, rfl, h3, h⟩ := fitL_cons h
 obtain ⟨_, _, rfl, h4, h⟩ := fitL_cons h
 cases fitL_nil h
 obtain ⟨ok, rfl⟩ := fit_bool h0
 obtain ⟨version, rfl, w1⟩ := fit_i64 h1
 obtain ⟨tags, rfl, w2⟩ := fit_ints h2
 obtain ⟨tries, rfl, w3⟩ := fit_i64 h3
 obtain ⟨up, rfl, w4⟩ := fit_ints h4
 exact ⟨⟨⟨ok, version, tags⟩, tries, up⟩, rfl, ⟨⟨w1, w2⟩, w3, w4⟩⟩
def szDialed (x : Dialed) (left : Int) : Int := sz1 x.up.length (szDeal x.deal left)
def Dialed.Small (x : Dialed) : Prop := (x.deal.Small) ∧ x.up.length ≤ 1048576
theorem szDialed_Sz (x : Dialed) : Sz (szDialed x) x.Small := Sz.comp (n := szDeal x.deal) (n' := sz1 x.up.length) (szDeal_Sz _) (Sz.of1 _)
def Dialed.Mid (x : Dialed) : Prop := (x.deal.Mid) ∧ x.up.length ≤ 1073741824
theorem Dialed.Small.mid {x : Dialed} (h : x.Small) : x.Mid := by
 unfold Dialed.Small at h; unfold Dialed.Mid
 exact ⟨h.1.mid, Nat.le_trans h.2 (by decide)⟩
structure Known where
 cls : Int
 lost : List Int
 tick : Int
theorem Known.eq_iff {a b : Known} : a = b ↔ a.cls = b.cls ∧ a.lost = b.lost ∧ a.tick = b.tick := by cases a; cases b; simp
instance : DecidableEq Known := fun a b => decidable_of_iff (a.cls = b.cls ∧ a.lost = b.lost ∧ a.tick = b.tick) Known.eq_iff.symm
def fKnown (x : Known) : List V := [.int .i64 x.cls, .row () (row fI x.lost), .int .i64 x.tick]
abbrev sKnown (cls : Int) (lost : List (List V)) (tick : Int) (g1 : Fl) : SU := ⟨.agg, [⟨.int .i64 cls, .sc⟩, ⟨.row () lost, g1⟩, ⟨.int .i64 tick, .sc⟩]⟩
def Known.Fits (x : Known) : Prop := Int64 x.cls ∧ (x.lost.length ≤ 9223372036854775807 ∧ ∀ n ∈ x.lost, Int64 n) ∧ Int64 x.tick
theorem fitL_Known {vs : List V} (h : FitL [.int .i64, .row [.int .i64], .int .i64] vs) : ∃ x : Known, vs = fKnown x ∧ x.Fits := by
 obtain ⟨_, _, rfl, h0, h⟩ := fitL_cons h
 obtain ⟨_, _, rfl, h1, h⟩ := fitL_cons h
 obtain ⟨_, _, rfl, h2, h⟩ := fitL_cons h
 cases fitL_nil h
 obtain ⟨cls, rfl, w0⟩ := fit_i64 h0
 obtain ⟨lost, rfl, w1⟩ := fit_ints h1
 obtain ⟨tick, rfl, w2⟩ := fit_i64 h2
 exact ⟨⟨cls, lost, tick⟩, rfl, ⟨w0, w1, w2⟩⟩
def szKnown (x : Known) (left : Int) : Int := sz1 x.lost.length left
def Known.Small (x : Known) : Prop := x.lost.length ≤ 1048576
theorem szKnown_Sz (x : Known) : Sz (szKnown x) x.Small := Sz.of1 _
def Known.Mid (x : Known) : Prop := x.lost.length ≤ 1073741824
theorem Known.Small.mid {x : Known} (h : x.Small) : x.Mid := by
 unfold Known.Small at h; unfold Known.Mid
 exact Nat.le_trans h (by decide)
theorem sz_len (l : List Edit) {left : Int} (h : left ≤ 1048576) : szL szEdit l left = sz1 l.length left := by
 have key : ∀ (l : List Edit) (v : Int), -1 ≤ v → l.foldl (fun a x => szEdit x a) v = v := by
  intro l
  induction l with
  | nil => intro v _; rfl
  | cons x l ih =>
   intro v hv
   rw [List.foldl_cons]
   have : szEdit x v = v := by unfold szEdit sz1; split <;> omega
   rw [this, ih v hv]
 exact key l _ ((Sz.of1 _).lo left h)
end Go.Vm
end
section
namespace Go.Vm
def zM (d s : Nat) : Io := ⟨some d, .move (.t s), none, []⟩
def zA (d s : Nat) : Io := ⟨some d, .assign (.t s), none, []⟩
def zK (d : Nat) (x : Opd) : Io := ⟨some d, .assign x, none, []⟩
def zL (d s : Nat) : Io := ⟨some d, .load false 1 (.t s), none, []⟩
def zF (d o s : Nat) : Io := ⟨some d, .faddr o (.t s), none, []⟩
def zO (d : Nat) (x : Ir) : Io := ⟨some d, x, none, []⟩
def zG (d : Nat) (x : Ir) (g : Nat) (b : Bool) : Io := ⟨some d, x, some (g, b), []⟩
def zN (x : Ir) : Io := ⟨none, x, none, []⟩
def zI (n : Int) : Opd := .c false [.int .i64 n]
def zB (b : Bool) : Opd := .c false [.bool b]
def zE : Opd := .c false [.row () []]
def zT : List Nat → List Opd
 | [] => []
 | i :: is => .t i :: zT is
def zC (d g : Nat) (l : List Nat) : Io := ⟨some d, .call g (zT l), none, []⟩
def zR (a b : List Nat) (l : List Io) : Cd := .region false a b l
def zr (a : Nat) : Nat → List Nat
 | 0 => []
 | n + 1 => a :: zr (a + 1) n
def zq (a n : Nat) (l : List Nat) : List Nat := zr a n ++ l
def zv (o : Io) (l : List Nat) : Io := ⟨o.dst, o.op, o.guard, l⟩
def zs (a b : List Nat) (l : List Io) (c : Cd) : Cd := .seq (.region false a b l) c
def zc (i : Nat) (a b : Cd) : Cd := .cond (.t i) a b
def zS (d n s : Nat) : Io := ⟨some d, .load true n (.t s), none, []⟩
def zb (d : Nat) (op : BinOp) (x y : Nat) : Io := ⟨some d, .bin op (.t x) (.t y), none, []⟩
def zn (d s : Nat) : Io := ⟨some d, .un .not (.t s), none, []⟩
def zl (d s : Nat) : Io := ⟨some d, .len false (.t s), none, []⟩
def zp (d k x i : Nat) : Io := ⟨some d, .iaddr k (.t x) (.t i), none, []⟩
theorem nm {α : Sort _} (x : α) : ∃ y, y = x := ⟨_, rfl⟩
end Go.Vm
end
