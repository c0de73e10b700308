/- The value machine, part 4: code read as work on values, and its soundness over memory. -/
import Derived.Test.YtmojgceacpclpaaVmC
set_option maxHeartbeats 4000000
set_option maxRecDepth 10000
set_option linter.unusedVariables false
set_option linter.unusedSimpArgs false
section
namespace Go.Vm
section
variable {E : Env} {cx : Cx} {S : StA} {X : List (Cell Tg)} {C : Nat → Nat → Prop} {a : Act} {w w' : World}
theorem all_rd (h : Inv E S X C a w) : ∃ C1, Inv E S X C1 a w ∧ (∀ b j, C b j → C1 b j) ∧ ∀ (i : Nat) (s : SA), S[i]? = some s → ∀ x ∈ s.cs, x.f ≠ .dd → (∀ p q r, x.f ≠ .ap p q r) → Rd E.sid w C1 x.v := by
 obtain ⟨C1, h1, h2, h3⟩ := commitAll (S.flatMap (·.cs)) h (fun z hz => List.mem_append.2 (.inl hz))
 refine ⟨C1, h1, h2, fun i s hs x hx hd hap => ?_⟩
 have hm : x ∈ S.flatMap (·.cs) := List.mem_flatMap.2 ⟨s, List.mem_of_getElem? hs, hx⟩
 have hk := h1.cells i s hs x hx
 have ho := h3 x hm
 obtain ⟨v, f⟩ := x
 have own' : ∀ g, Shp' E.sid w C1 g v → owns f = true → Rd E.sid w C1 v := fun g hs hof =>
  (own_rd hs).mono (fun b j hj => hj.elim id (ho hof b j)) (fun _ _ _ => rfl)
 cases f with
 | sc => exact .of_scal hk
 | sp p q => exact hk.2.1.mono h1.olt (fun _ _ _ => rfl)
 | sh => exact Rd.mono hk h1.olt (fun _ _ _ => rfl)
 | nl =>
  obtain ⟨k, hv⟩ := hk
  have hv : v = .row ⟨none, 0, k⟩ [] := hv
  subst hv
  exact .row _ _ (by simp) (by simp) (by simp) (by simp)
 | ow g => exact own' g hk.2.1 rfl
 | nw g => exact own' g hk.2.1 rfl
 | mp i => exact own' false (by simpa [Shp'] using hk.1) rfl
 | cp ck p q ix => exact hk.2.1
 | ap p q r => exact absurd rfl (hap p q r)
 | fr => exact hk.2.1
 | no => exact hk.2
 | os n => exact hk.2.1
 | dd => exact absurd rfl hd
theorem Inv.widen (h : Inv E S X C a w) (hg : Grow w w') {D : Nat → Nat → Prop} (hD : ∀ b j, D b j → w.heap.size ≤ b ∧ b < w'.heap.size) (hb : E.base ≤ w.heap.size) : Inv E S X (fun b j => C b j ∨ D b j) a w' := by
 have hw := h.grow hg
 have hmono : ∀ b j, C b j → C b j ∨ D b j := fun _ _ => .inl
 have hrd : ∀ {v : A}, Rd E.sid w' C v → Rd E.sid w' (fun b j => C b j ∨ D b j) v := fun hr => hr.mono hmono (fun _ _ _ => rfl)
 have hne : ∀ {b : Nat}, b < w.heap.size → ∀ j, C b j ∨ D b j → C b j := fun hb j hj => hj.resolve_right (fun hd => by have := (hD _ j hd).1; omega)
 have hshp' : ∀ {g : Bool} {v : A}, Shp' E.sid w C g v → Shp' E.sid w' C g v → Shp' E.sid w' (fun b j => C b j ∨ D b j) g v := by
  intro g v hs hs'
  exact hs'.world (fun _ _ => rfl) (fun b hb j hj => hne (hs.lt b hb) j hj)
 have hcell : ∀ x, COk E w C S X x → COk E w' C S X x → COk E w' (fun b j => C b j ∨ D b j) S X x := by
  intro x hx0 hx
  obtain ⟨v, f⟩ := x
  cases f with
  | ow g => exact ⟨hx.1, hshp' hx0.2.1 hx.2.1, hx.2.2⟩
  | nw g => exact ⟨hx.1, hshp' hx0.2.1 hx.2.1, hx.2.2⟩
  | mp i => exact ⟨hx.1.mono (fun b hb j hj => hne (hx0.1.lt b hb) j hj) (fun _ _ => rfl), hx.2⟩
  | cp ck s c ix => exact ⟨hx.1, hrd hx.2.1, hx.2.2⟩
  | fr => exact ⟨hx.1, hrd hx.2.1, hx.2.2⟩
  | no => exact ⟨hx.1, hrd hx.2⟩
  | os n => exact ⟨hx.1, hrd hx.2.1, hx.2.2.1, hx.2.2.2.mono (fun b hb j hj => hne (hx0.2.2.2.lt b hb) j hj) (fun _ _ => rfl)⟩
  | ap s c ix => exact ⟨hx.1, hx.2.1, fun y hy hyg => ⟨(hx.2.2 y hy hyg).1, (hx.2.2 y hy hyg).2.imp (fun hn b hb => ⟨(hn b hb).1, fun j hj => (hn b hb).2 j (hne ((hx0.2.2 y hy hyg).1.1.lt b hb) j hj)⟩) id⟩⟩
  | _ => exact hx
 refine ⟨hw.len, hw.tsz, hw.nodef, hw.slv, hw.high, hw.emp, hw.lock, hw.noap, ?_, ?_, ?_, ?_, hw.cnt, fun b j ho => .inl (hw.olt b j ho), ?_, ?_, hw.ownlt⟩
 ·intro i s t hs hk
  obtain ⟨b, T, k1, k2, k3⟩ := h.box i s t hs hk
  obtain ⟨b', T', m1, m2, m3⟩ := hw.box i s t hs hk
  rw [k1] at m1
  simp only [Option.some.injEq, Addr.mk.injEq, and_true] at m1
  subst m1
  exact ⟨b, T', k1, m2, fun j hj => k3.1 j (hne (Array.getElem?_eq_some_iff.1 k2).1 j hj), k3.2⟩
 ·intro i s t src ix hs hk
  obtain ⟨b, o, k1, k2, k3⟩ := hw.ept i s t src ix hs hk
  exact ⟨b, o, k1, fun j y hy => ⟨.inl (k2 j y hy).1, (k2 j y hy).2⟩, k3⟩
 ·exact fun i s hs x hx => hcell x (h.cells i s hs x hx) (hw.cells i s hs x hx)
 ·exact fun x hx => hcell x (h.hand x hx) (hw.hand x hx)
 ·rintro b j (hj | hj)
  ·exact hw.clt b j hj
  ·exact (hD b j hj).2
 ·rintro b j (hj | hj)
  ·exact hw.cbase b j hj
  ·exact .inl (Nat.le_trans hb (hD b j hj).1)
theorem Inv.gain {rs : List (Cell Tg)} (h : Inv E S X C a w) (hg : Grow w w') {D : Nat → Nat → Prop} (hD : ∀ b j, D b j → w.heap.size ≤ b ∧ b < w'.heap.size) (hb : E.base ≤ w.heap.size)
  (hr : ∀ r ∈ rs, COk E w' (fun b j => C b j ∨ D b j) S (rs ++ X) r ∧ ∀ p q k, r.f ≠ .ap p q k)
  (hcnt : ∀ b, (rs.flatMap Cell.own).count b ≤ 1) (hlt : ∀ b ∈ rs.flatMap Cell.own, w.heap.size ≤ b ∧ b < w'.heap.size) : Inv E S (rs ++ X) (fun b j => C b j ∨ D b j) a w' := by
 have h1 := h.widen hg hD hb
 have hzero : ∀ b, w.heap.size ≤ b → (ownAll S X).count b = 0 := by
  intro b hb
  rw [List.count_eq_zero]
  intro hm
  have := (h.ownlt b hm).1
  omega
 have hnew : ∀ b, b < w.heap.size → (rs.flatMap Cell.own).count b = 0 := by
  intro b hb
  rw [List.count_eq_zero]
  intro hm
  have := (hlt b hm).1
  omega
 have hown : ∀ b, (ownAll S (rs ++ X)).count b = (ownAll S X).count b + (rs.flatMap Cell.own).count b := by
  intro b
  simp only [ownAll, List.flatMap_append, List.count_append]
  omega
 have hcok : ∀ x, COk E w C S X x → COk E w' (fun b j => C b j ∨ D b j) S X x → COk E w' (fun b j => C b j ∨ D b j) S (rs ++ X) x := by
  intro x h0 hx
  obtain ⟨v, f⟩ := x
  cases f with
  | ap s c ix =>
   obtain ⟨k2, k3, k4⟩ := hx
   refine ⟨k2, k3, fun y hy hyg => ⟨(k4 y hy hyg).1, (k4 y hy hyg).2.imp (fun hn b hb => ⟨fun hm => ?_, (hn b hb).2⟩) id⟩⟩
   have hb' : b < w.heap.size := (h0.2.2 y hy hyg).1.1.lt b hb
   have h2 := hown b
   rw [hnew b hb'] at h2
   have h3 := List.count_pos_iff.2 hm
   exact (hn b hb).1 (List.count_pos_iff.1 (by omega))
  | _ => exact hx
 refine ⟨h1.len, h1.tsz, h1.nodef, h1.slv, h1.high, h1.emp, h1.lock, ?_, h1.box, ?_, ?_, ?_, ?_, h1.olt, h1.clt, h1.cbase, ?_⟩
 ·intro l hl hd
  obtain ⟨k1, k2⟩ := h1.noap l hl hd
  refine ⟨k1, fun x hx => ?_⟩
  rcases List.mem_append.1 hx with hx | hx
  ·exact (hr x hx).2
  ·exact k2 x hx
 ·intro i s t src ix hs hk
  obtain ⟨b, o, k1, k2, k3⟩ := h1.ept i s t src ix hs hk
  exact ⟨b, o, k1, k2, k3⟩
 ·exact fun i s hs x hx => hcok x (h.cells i s hs x hx) (h1.cells i s hs x hx)
 ·intro x hx
  rcases List.mem_append.1 hx with hx | hx
  ·exact (hr x hx).1
  ·exact hcok x (h.hand x hx) (h1.hand x hx)
 ·intro b
  rw [hown b]
  by_cases hb' : w.heap.size ≤ b
  ·have h2 := hzero b hb'
   have h3 := hcnt b
   omega
  ·rw [hnew b (by omega)]
   have := h.cnt b
   omega
 ·intro b hm
  simp only [ownAll, List.flatMap_append, List.mem_append] at hm
  rcases hm with hm | hm | hm
  ·exact h1.ownlt b (List.mem_append.2 (.inl hm))
  ·refine ⟨(hlt b hm).2, fun j hj => ?_⟩
   have := h.clt b j (h.olt b j hj)
   have := (hlt b hm).1
   omega
  ·exact h1.ownlt b (List.mem_append.2 (.inr hm))
end
def slVal (sid : Nat → Nat) (s : SA) : Value :=
 match s.k with
 | .val => match s.cs with
  | [c] => c.v.val sid
  | _ => undef
 | .agg => .agg (s.cs.map (·.v.val sid)).toArray
 | .box t => .pointer t.a
 | _ => undef
def retVal (sid : Nat → Nat) (rs : List SA) : Value :=
 match rs with
 | [s] => slVal sid s
 | rs => .tuple (rs.map (slVal sid)).toArray
structure Entry (E : Env) (w : World) (args : List SA) : Prop where
 base : E.base = w.heap.size
 kinds : ∀ (i : Nat) (s : SA), args[i]? = some s → (s.k = .val ∧ ∃ c, s.cs = [c]) ∨ s.k = .agg ∨ (i = 0 ∧ ∃ t, s.k = .box t)
 flags : ∀ s ∈ args, ∀ x ∈ s.cs, x.f = .sc ∨ (∃ p q, x.f = .sp p q) ∨ x.f = .sh ∨ x.f = .nl ∨ ∃ i, x.f = .mp i
 cells : ∀ s ∈ args, ∀ x ∈ s.cs, COk E w E.old [] [] x
 box : ∀ s ∈ args, ∀ t, s.k = .box t → BoxOk E w E.old t s.cs
 cnt : ∀ b, (args.flatMap Sl.own).count b ≤ 1
 own : ∀ b ∈ args.flatMap Sl.own, b < w.heap.size ∧ ∀ j, ¬ E.old b j
 olt : ∀ b j, E.old b j → b < w.heap.size
def LeftOk (E : Env) (w' : World) (C : Nat → Nat → Prop) (arg : SA) (cs' : List V) : Prop :=
 ∃ t b T, ∃ vs : List A, arg.k = .box t ∧ t.a = some ⟨b, 0, none⟩ ∧ w'.heap[b]? = some (.cells (vs.map (VA.val E.sid)).toArray T (0, 0)) ∧ vs.map VA.er = cs' ∧ vs.length = arg.cs.length ∧ (∀ j, ¬ C b j) ∧
  ∀ (c : Nat) (x : Cell Tg) (v : A), arg.cs[c]? = some x → vs[c]? = some v → (scal x.v = true ∧ scal v = true) ∨ (scal x.v = false ∧ v.val E.sid = x.v.val E.sid)
structure Leave (E : Env) (w w' : World) (args : List SA) (ret : Ret) (v : Value) (rs : List SA) (outs : List A) (C : Nat → Nat → Prop) : Prop where
 er : rs.map Sl.er = ret.res
 val : v = retVal E.sid rs
 kinds : ∀ s ∈ rs, (s.k = .val ∧ ∃ c, s.cs = [c]) ∨ s.k = .agg ∨ ((∃ t, s.k = .box t) ∧ rs.length = 1 ∧ ret.obox = none)
 flags : ∀ s ∈ rs, ∀ x ∈ s.cs, x.f = .sc ∨ x.f = .nl ∨ (∃ g, x.f = .ow g) ∨ x.f = .no ∨ x.f = .os false
 cells : ∀ s ∈ rs, ∀ x ∈ s.cs, COk E w' C [] [] x
 box : ∀ s ∈ rs, ∀ t, s.k = .box t → BoxOk E w' C t s.cs ∧ ∀ b, t.a = some ⟨b, 0, none⟩ → E.base ≤ b
 cnt : ∀ b, (rs.flatMap Sl.own).count b + (outs.flatMap VA.blks).count b ≤ 1
 own : ∀ b ∈ rs.flatMap Sl.own, E.base ≤ b ∧ b < w'.heap.size
 clt : ∀ b j, C b j → b < w'.heap.size
 cbase : ∀ b j, C b j → E.base ≤ b ∨ E.old b j ∨ E.chg b
 frame : Frame E w w'
 outer : outs.map VA.er = ret.outs
 outok : ∀ (i : Nat) (v : A), outs[i]? = some v → Shp E.sid w' C v ∧ (∃ t es, v = .row t es ∧ E.mt i = some (t, es.length)) ∧ ∀ b ∈ v.blks, (E.base ≤ b ∨ E.chg b) ∧ b < w'.heap.size ∧ ∀ j, ¬ E.old b j
 left : ∀ cs', ret.obox = some cs' → ∃ arg, args.head? = some arg ∧ LeftOk E w' C arg cs'
def Keeps' (P : Program) (sid : Nat → Nat) (orac : Orac) (g : Nat) : Prop :=
 ∀ (E : Env) (w : World) (args : List SA) (ret : Ret), E.P = P → E.sid = sid → Entry E w args → orac g (args.map Sl.er) = some ret →
  (callFunc (sid g) (args.map (slVal sid)).toArray).run P w = .ok (.enter (sid g) (args.map (slVal sid)).toArray) w ∧
  Calls P (sid g) (args.map (slVal sid)).toArray w fun e w' => ∃ v rs outs C, e = .returned v ∧ Leave E w w' args ret v rs outs C
end Go.Vm
end
section
namespace Go.Vm
def argCellA (p c : Nat) (x : Cell Tg) : Cell Tg :=
 match x.f with
 | .sc | .nl => x
 | _ => match x.v with
  | .row _ _ => ⟨x.v, .sp p c⟩
  | _ => ⟨x.v, if scal x.v then .sc else .sh⟩
def argCellsA (p : Nat) : Nat → List (Cell Tg) → List (Cell Tg)
 | _, [] => []
 | c, x :: xs => argCellA p c x :: argCellsA p (c + 1) xs
theorem argCellA_v (p c : Nat) (x : Cell Tg) : (argCellA p c x).v = x.v := by
 obtain ⟨v, f⟩ := x
 cases f <;> cases v <;> rfl
theorem argCellsA_get (p : Nat) : ∀ (cs : List (Cell Tg)) (c j : Nat), (argCellsA p c cs)[j]? = (cs[j]?).map (argCellA p (c + j))
 | [], _, _ => rfl
 | x :: xs, c, 0 => rfl
 | x :: xs, c, j + 1 => by
  simp only [argCellsA, List.getElem?_cons_succ]
  rw [argCellsA_get p xs (c + 1) j, show c + 1 + j = c + (j + 1) by omega]
theorem argCellsA_v (p : Nat) : ∀ (cs : List (Cell Tg)) (c : Nat), (argCellsA p c cs).map (·.v) = cs.map (·.v)
 | [], _ => rfl
 | x :: xs, c => by simp only [argCellsA, List.map_cons, argCellA_v, argCellsA_v p xs]
theorem argCell_er {p c : Nat} {x : Cell Tg} {y : Cell Unit} (h : argCell p c x.er = some y) : (argCellA p c x).er = y ∧ x.f ≠ .dd ∧ ∀ i j k, x.f ≠ .ap i j k := by
 obtain ⟨v, f⟩ := x
 cases f <;> simp only [argCell, Cell.er, Option.some.injEq, reduceCtorEq] at h <;> (subst h; refine ⟨?_, by simp, by simp⟩; cases v <;> rfl)
theorem argCells_er {p : Nat} : ∀ {cs : List (Cell Tg)} {c : Nat} {ys : List (Cell Unit)}, argCells p c (cs.map Cell.er) = some ys → (argCellsA p c cs).map Cell.er = ys ∧ ∀ x ∈ cs, x.f ≠ .dd ∧ ∀ i j k, x.f ≠ .ap i j k
 | [], c, ys, h => by
  simp only [List.map_nil, argCells, Option.some.injEq] at h
  subst h
  exact ⟨rfl, by simp⟩
 | x :: cs, c, ys, h => by
  simp only [List.map_cons, argCells] at h
  split at h
  ·rename_i y ys' h1 h2
   simp only [Option.some.injEq] at h
   subst h
   obtain ⟨e1, e2⟩ := argCell_er h1
   obtain ⟨k1, k2⟩ := argCells_er h2
   refine ⟨by simp [argCellsA, e1, k1], fun z hz => ?_⟩
   rcases List.mem_cons.1 hz with rfl | hz
   ·exact e2
   ·exact k2 z hz
  ·cases h
section
variable {E : Env} {cx : Cx} {S : StA} {X : List (Cell Tg)} {C : Nat → Nat → Prop} {a : Act} {w w' : World}
def BoxBlk (S : StA) (b : Nat) : Prop := ∃ (i : Nat) (s : SA) (t : Tg), S[i]? = some s ∧ s.k = .box t ∧ t.a = some ⟨b, 0, none⟩
theorem argCellA_ok {w : World} {E' : Env} {p c : Nat} {x : Cell Tg} (hs : E'.sid = E.sid) (hk : COk E w C S X x) (hd : x.f ≠ .dd) (hap : ∀ i j k, x.f ≠ .ap i j k) (hr : Rd E.sid w E'.old x.v) (hp : isRow x.v = true → E'.par p c = some x.v) :
  COk E' w E'.old [] [] (argCellA p c x) ∧ ((argCellA p c x).f = .sc ∨ (∃ i j, (argCellA p c x).f = .sp i j) ∨ (argCellA p c x).f = .sh ∨ (argCellA p c x).f = .nl) := by
 have row : isRow x.v = true → x.f ≠ .sc → x.f ≠ .nl → COk E' w E'.old [] [] (argCellA p c x) ∧ ((argCellA p c x).f = .sc ∨ (∃ i j, (argCellA p c x).f = .sp i j) ∨ (argCellA p c x).f = .sh ∨ (argCellA p c x).f = .nl) := by
  intro hrow h1 h2
  have he : argCellA p c x = ⟨x.v, .sp p c⟩ := by
   obtain ⟨v, f⟩ := x
   cases v <;> simp [isRow] at hrow
   cases f <;> first | rfl | exact absurd rfl h1 | exact absurd rfl h2
  rw [he]
  exact ⟨⟨hrow, hs ▸ hr, hp hrow⟩, .inr (.inl ⟨p, c, rfl⟩)⟩
 have other : isRow x.v = false → x.f ≠ .sc → x.f ≠ .nl → COk E' w E'.old [] [] (argCellA p c x) ∧ ((argCellA p c x).f = .sc ∨ (∃ i j, (argCellA p c x).f = .sp i j) ∨ (argCellA p c x).f = .sh ∨ (argCellA p c x).f = .nl) := by
  intro hrow h1 h2
  have he : argCellA p c x = ⟨x.v, if scal x.v then .sc else .sh⟩ := by
   obtain ⟨v, f⟩ := x
   cases v <;> simp [isRow] at hrow <;> (cases f <;> first | rfl | exact absurd rfl h1 | exact absurd rfl h2)
  rw [he]
  cases hsc : scal x.v with
  | true => exact ⟨hsc, .inl rfl⟩
  | false => exact ⟨by show Rd E'.sid w E'.old x.v; rw [hs]; exact hr, .inr (.inr (.inl rfl))⟩
 by_cases h1 : x.f = .sc
 ·have he : argCellA p c x = x := by
   obtain ⟨v, f⟩ := x
   simp only at h1; subst h1; rfl
  rw [he]
  obtain ⟨v, f⟩ := x
  simp only at h1; subst h1
  exact ⟨hk, .inl rfl⟩
 ·by_cases h2 : x.f = .nl
  ·have he : argCellA p c x = x := by
    obtain ⟨v, f⟩ := x
    simp only at h2; subst h2; rfl
   rw [he]
   obtain ⟨v, f⟩ := x
   simp only at h2; subst h2
   exact ⟨hk, .inr (.inr (.inr rfl))⟩
  ·cases hrow : isRow x.v with
   | true => exact row hrow h1 h2
   | false => exact other hrow h1 h2
theorem capsOf_lift (h : Inv E S X C a w) (hrd : ∀ (i : Nat) (s : SA), S[i]? = some s → ∀ x ∈ s.cs, x.f ≠ .dd → (∀ p q r, x.f ≠ .ap p q r) → Rd E.sid w C x.v) : ∀ (rs : List Nat) {ps : List V} {st1 : St}, (capsOf rs).run (erS S) = some (ps, st1) →
  st1 = erS S ∧ ∃ psA : List A, erL psA = ps ∧ psA.map capVal = rs.map (fun r => .pointer (boxAddr S r)) ∧ (∀ p ∈ psA, ∃ t cs, p = .ptr t cs) ∧ ∀ p ∈ psA, Rd E.sid w (fun b j => C b j ∨ BoxBlk S b) p
 | [], ps, st1, hr => by
  obtain ⟨rfl, rfl⟩ := ret_run hr
  exact ⟨rfl, [], rfl, rfl, by simp, by simp⟩
 | r :: rs, ps, st1, hr => by
  unfold capsOf at hr
  obtain ⟨b, st2, h1, h2⟩ := FM.bind_some hr
  clear hr
  obtain ⟨h3, rfl⟩ := getS_run h1
  obtain ⟨s, hs, rfl⟩ := erS_some h3
  obtain ⟨vs, st3, h4, h5⟩ := FM.bind_some h2
  clear h2
  obtain ⟨h6, rfl⟩ := opt_run h4
  obtain ⟨ps', st4, h7, h8⟩ := FM.bind_some h5
  clear h5
  obtain ⟨rfl, rfl⟩ := ret_run h8
  obtain ⟨e1, psA, e2, e3, e4, e5⟩ := capsOf_lift h hrd rs h7
  unfold boxVals at h6
  split at h6
  ·rename_i u hk
   have hk' : ∃ t, s.k = .box t := by
    rw [er_kind] at hk
    cases hk' : s.k <;> rw [hk'] at hk <;> simp [Kd.er] at hk ⊢
   obtain ⟨t, hk'⟩ := hk'
   split at h6
   ·rename_i hall
    simp only [Option.some.injEq] at h6
    obtain ⟨b, T, q1, q2, _⟩ := h.box r s t hs hk'
    have hba : boxAddr S r = t.a := by
     unfold boxAddr
     rw [hs]
     obtain ⟨k, cs⟩ := s
     simp only at hk'; subst hk'; rfl
    refine ⟨e1, .ptr t (s.cs.map (·.v)) :: psA, ?_, ?_, ?_, ?_⟩
    ·rw [erL, e2]
     simp only [VA.er, erL_map, List.map_map]
     congr 2
     rw [← h6]
     simp [vals, er_cells, Cell.er]
    ·simp only [List.map_cons, e3, capVal, hba]
    ·intro p hp
     rcases List.mem_cons.1 hp with rfl | hp
     ·exact ⟨t, _, rfl⟩
     ·exact e4 p hp
    ·intro p hp
     rcases List.mem_cons.1 hp with rfl | hp
     ·refine .ptr _ _ (fun j c hc => ⟨b, 0, q1, .inr ⟨r, s, t, hs, hk', q1⟩, ?_⟩) (fun c hc => ?_)
      ·rw [List.getElem?_map, Option.map_eq_some_iff] at hc
       obtain ⟨x, hx, rfl⟩ := hc
       rw [cell_of_heap q2]
       simp [hx]
      ·obtain ⟨x, hx, rfl⟩ := List.mem_map.1 hc
       have := List.all_eq_true.1 hall x.er (by rw [er_cells]; exact List.mem_map_of_mem hx)
       refine (hrd r s hs x hx ?_ ?_).mono (fun _ _ => .inl) (fun _ _ _ => rfl)
       ·intro e; simp [Cell.er, e] at this
       ·intro p q k e; simp [Cell.er, e] at this
     ·exact e5 p hp
   ·cases h6
  ·cases h6
structure ArgOk (E : Env) (S : StA) (C : Nat → Nat → Prop) (w : World) (v : Value) (s : SA) : Prop where
 kind : (s.k = .val ∧ ∃ c, s.cs = [c]) ∨ s.k = .agg
 val : slVal E.sid s = v
 src : ∀ (c : Nat) (x : Cell Tg), s.cs[c]? = some x → Rd E.sid w (fun b j => C b j ∨ BoxBlk S b) x.v ∧ (noCaps s.er = true → Rd E.sid w C x.v)
theorem argV_lift (h : Inv E S X C a w) (hrd : ∀ (i : Nat) (s : SA), S[i]? = some s → ∀ x ∈ s.cs, x.f ≠ .dd → (∀ p q r, x.f ≠ .ap p q r) → Rd E.sid w C x.v) {x : Opd} {v : Value} {s : SA} (ho : OpR E S w C X v x s) {p : Nat} {y : SU} {st1 : St} (hr : (argV p s.er).run (erS S) = some (y, st1)) :
  st1 = erS S ∧ ∃ z : SA, z.er = y ∧ ArgOk E S C w v z ∧ (∀ E' : Env, E'.sid = E.sid → (∀ (c : Nat) (x : Cell Tg), z.cs[c]? = some x → Rd E.sid w E'.old x.v) → (∀ (c : Nat) (x : Cell Tg), z.cs[c]? = some x → E'.par p c = some x.v) →
   ∀ (c : Nat) (x : Cell Tg), z.cs[c]? = some x → COk E' w E'.old [] [] x ∧ (x.f = .sc ∨ (∃ i j, x.f = .sp i j) ∨ x.f = .sh ∨ x.f = .nl)) := by
 have hcell : ∀ x ∈ s.cs, COk E w C S X x := by
  cases ho with
  | slot i s hi hs hv => exact h.cells i s hs
  | const agg vs s hk he hok hv h1 => exact fun x hx => (hok x hx).1
  | fn g hv => simp only [List.mem_singleton]; rintro x rfl; exact .fn g [] (by simp) (by simp)
 have hrdx : ∀ x ∈ s.cs, x.f ≠ .dd → (∀ p q r, x.f ≠ .ap p q r) → Rd E.sid w C x.v := by
  intro x hx hd hap
  cases ho with
  | slot i s hi hs hv => exact hrd i s hs x hx hd hap
  | const agg vs s hk he hok hv h1 =>
   have hk := (hok x hx).1
   have ho := (hok x hx).2.1
   have ht := (hok x hx).2.2
   obtain ⟨v, f⟩ := x
   cases f with
   | sc => exact .of_scal hk
   | sp p q => exact hk.2.1.mono h.olt (fun _ _ _ => rfl)
   | sh => exact Rd.mono hk h.olt (fun _ _ _ => rfl)
   | nl =>
    obtain ⟨k, hv⟩ := hk
    have hv : v = .row ⟨none, 0, k⟩ [] := hv
    subst hv
    exact .row _ _ (by simp) (by simp) (by simp) (by simp)
   | fr => exact hk.2.1
   | no => exact hk.2
   | _ => first | (simp [Go.Vm.hold, isOs, owns] at ho; done) | (simp [Taken] at ht; done)
  | fn g hv => simp only [List.mem_singleton] at hx; subst hx; exact .fn g [] (by simp) (by simp)
 have cells : ∀ (k : Kd Tg), (k = .val ∧ (∃ c, s.cs = [c] ∧ v = c.v.val E.sid) ∨ k = .agg ∧ v = .agg (s.cs.map (·.v.val E.sid)).toArray) → ∀ {cs : List (Cell Unit)}, argCells p 0 s.er.cs = some cs →
   ∃ z : SA, z.er = ⟨k.er, cs⟩ ∧ ArgOk E S C w v z ∧ (∀ E' : Env, E'.sid = E.sid → (∀ (c : Nat) (x : Cell Tg), z.cs[c]? = some x → Rd E.sid w E'.old x.v) → (∀ (c : Nat) (x : Cell Tg), z.cs[c]? = some x → E'.par p c = some x.v) →
   ∀ (c : Nat) (x : Cell Tg), z.cs[c]? = some x → COk E' w E'.old [] [] x ∧ (x.f = .sc ∨ (∃ i j, x.f = .sp i j) ∨ x.f = .sh ∨ x.f = .nl)) := by
  intro k hk cs hcs
  rw [er_cells] at hcs
  obtain ⟨e1, e2⟩ := argCells_er hcs
  have hget : ∀ (c : Nat) (x : Cell Tg), (argCellsA p 0 s.cs)[c]? = some x → ∃ x0, s.cs[c]? = some x0 ∧ x = argCellA p c x0 := by
   intro c x hx
   rw [argCellsA_get, Option.map_eq_some_iff] at hx
   obtain ⟨x0, hx0, rfl⟩ := hx
   exact ⟨x0, hx0, by rw [Nat.zero_add]⟩
  have hrc : ∀ (c : Nat) (x : Cell Tg), (argCellsA p 0 s.cs)[c]? = some x → Rd E.sid w C x.v := by
   intro c x hx
   obtain ⟨x0, hx0, rfl⟩ := hget c x hx
   have hm := List.mem_of_getElem? hx0
   rw [argCellA_v]
   exact hrdx x0 hm (e2 x0 hm).1 (e2 x0 hm).2
  refine ⟨⟨k, argCellsA p 0 s.cs⟩, by simp only [Sl.er, e1], ⟨?_, ?_, fun c x hx => ⟨(hrc c x hx).mono (fun _ _ => .inl) (fun _ _ _ => rfl), fun _ => hrc c x hx⟩⟩, fun E' hs' hE hpar c x hx => ?_⟩
  ·rcases hk with ⟨rfl, c, hc, _⟩ | ⟨rfl, _⟩
   ·exact .inl ⟨rfl, argCellA p 0 c, by simp [hc, argCellsA]⟩
   ·exact .inr rfl
  ·rcases hk with ⟨rfl, c, hc, hv⟩ | ⟨rfl, hv⟩
   ·simp [slVal, hc, argCellsA, argCellA_v, hv]
   ·simp only [slVal, hv]
    rw [map_val (argCellsA_v p s.cs 0)]
  ·obtain ⟨x0, hx0, rfl⟩ := hget c x hx
   have hm := List.mem_of_getElem? hx0
   have h1 := hE c _ hx
   have h2 := hpar c _ hx
   rw [argCellA_v] at h1 h2
   exact argCellA_ok hs' (hcell x0 hm) (e2 x0 hm).1 (e2 x0 hm).2 h1 (fun _ => h2)
 unfold argV at hr
 split at hr
 ·rename_i hk
  have hkv : s.k = .val := by
   rw [er_kind] at hk
   cases hk' : s.k <;> rw [hk'] at hk <;> simp [Kd.er] at hk ⊢
  obtain ⟨cs, st2, h1, h2⟩ := FM.bind_some hr
  obtain ⟨h3, rfl⟩ := opt_run h1
  obtain ⟨rfl, rfl⟩ := ret_run h2
  obtain ⟨z, q1, q2⟩ := cells .val (.inl ⟨rfl, by
   cases ho with
   | slot i s hi hs hv => unfold SlV at hv; rw [hkv] at hv; exact hv
   | const agg vs s hk he hok hv h1' =>
    cases agg with
    | true => rw [hk] at hkv; simp at hkv
    | false =>
     obtain ⟨z, hz⟩ := h1' rfl
     exact ⟨z, hz, by rw [hv, hz]; simp⟩
   | fn g hv => exact ⟨_, rfl, by rw [hv]; simp [VA.val]⟩⟩) h3
  exact ⟨rfl, z, q1, q2⟩
 ·rename_i hk
  have hkv : s.k = .agg := by
   rw [er_kind] at hk
   cases hk' : s.k <;> rw [hk'] at hk <;> simp [Kd.er] at hk ⊢
  obtain ⟨cs, st2, h1, h2⟩ := FM.bind_some hr
  obtain ⟨h3, rfl⟩ := opt_run h1
  obtain ⟨rfl, rfl⟩ := ret_run h2
  obtain ⟨z, q1, q2⟩ := cells .agg (.inr ⟨rfl, by
   cases ho with
   | slot i s hi hs hv => unfold SlV at hv; rw [hkv] at hv; exact hv
   | const agg vs s hk he hok hv h1' =>
    cases agg with
    | true => simpa using hv
    | false => rw [hk] at hkv; simp at hkv
   | fn g hv => simp at hkv⟩) h3
  exact ⟨rfl, z, q1, q2⟩
 ·rename_i g roots hk
  have hkv : s.k = .clo g roots := by
   rw [er_kind] at hk
   cases hk' : s.k <;> rw [hk'] at hk <;> simp [Kd.er] at hk ⊢
   exact hk
  obtain ⟨ps, st2, h1, h2⟩ := FM.bind_some hr
  obtain ⟨rfl, psA, e2, e3, e4, e5⟩ := capsOf_lift h hrd roots h1
  obtain ⟨rfl, rfl⟩ := ret_run h2
  have hv : v = .func (.func (E.sid g)) #[] (roots.map fun r => .pointer (boxAddr S r)).toArray := by
   cases ho with
   | slot i s hi hs hv => unfold SlV at hv; rw [hkv] at hv; exact hv.2
   | const agg vs s hk he hok hv h1' => cases agg <;> rw [hk] at hkv <;> simp at hkv
   | fn g hv => simp at hkv
  refine ⟨rfl, ⟨.val, [⟨.fn g psA, .sh⟩]⟩, by simp [Sl.er, Kd.er, Cell.er, VA.er, e2], ⟨.inl ⟨rfl, _, rfl⟩, by simp [slVal, VA.val, e3, hv], fun c x hx => ?_⟩, fun E' hs' hE hpar c x hx => ?_⟩
  ·cases c with
   | zero =>
    simp only [List.getElem?_cons_zero, Option.some.injEq] at hx
    subst hx
    refine ⟨.fn g psA e4 e5, fun hn => ?_⟩
    have : psA = [] := by
     cases psA with
     | nil => rfl
     | cons p r => simp [noCaps, Sl.er, Cell.er, VA.er, erL] at hn
    subst this
    exact .fn g [] (by simp) (by simp)
   | succ c => simp at hx
  ·have h1 := hE c x hx
   cases c with
   | zero =>
    simp only [List.getElem?_cons_zero, Option.some.injEq] at hx
    subst hx
    exact ⟨by show Rd E'.sid w E'.old _; rw [hs']; exact h1, .inr (.inr (.inl rfl))⟩
   | succ c => simp at hx
 ·exact (fail_run hr).elim
end
end Go.Vm
end
section
namespace Go.Vm
section
variable {E : Env} {cx : Cx} {S : StA} {X : List (Cell Tg)} {C : Nat → Nat → Prop} {a : Act} {w w' : World}
def Meets (E : Env) (w : World) (p : Nat) (s : SA) : Prop :=
 ∀ E' : Env, E'.sid = E.sid → (∀ (c : Nat) (x : Cell Tg), s.cs[c]? = some x → Rd E.sid w E'.old x.v) → (∀ (c : Nat) (x : Cell Tg), s.cs[c]? = some x → E'.par p c = some x.v) →
  ∀ (c : Nat) (x : Cell Tg), s.cs[c]? = some x → COk E' w E'.old [] [] x ∧ (x.f = .sc ∨ (∃ i j, x.f = .sp i j) ∨ x.f = .sh ∨ x.f = .nl)
theorem argVs_lift (hf : Fits E cx) (h : Inv E S X C a w) (hrd : ∀ (i : Nat) (s : SA), S[i]? = some s → ∀ x ∈ s.cs, x.f ≠ .dd → (∀ p q r, x.f ≠ .ap p q r) → Rd E.sid w C x.v) : ∀ (os : List Operand) {xs : List Opd}, mapO (cOpd cx) os = some xs → ∀ (p : Nat) {ys : List SU} {st1 : St},
  (argVs p xs).run (erS S) = some (ys, st1) →
  st1 = erS S ∧ ∃ zs : List SA, zs.map Sl.er = ys ∧ zs.length = os.length ∧ zs.map (slVal E.sid) = os.map a.eval ∧ ∀ (i : Nat) (z : SA), zs[i]? = some z → (∃ v, ArgOk E S C w v z) ∧ Meets E w (p + i) z
 | [], xs, hc, p, ys, st1, hr => by
  simp only [mapO, Option.some.injEq] at hc; subst hc
  obtain ⟨rfl, rfl⟩ := ret_run hr
  exact ⟨rfl, [], rfl, rfl, rfl, by simp⟩
 | o :: os, xs, hc, p, ys, st1, hr => by
  unfold mapO at hc
  cases h1 : cOpd cx o with
  | none => simp [h1] at hc
  | some x => cases h2 : mapO (cOpd cx) os with
   | none => simp [h1, h2] at hc
   | some xs' =>
    simp [h1, h2] at hc; subst hc
    unfold argVs at hr
    obtain ⟨s, st2, h3, h4⟩ := FM.bind_some hr
    clear hr
    obtain ⟨rfl, s0, rfl, hop⟩ := opd_lift hf h h1 h3
    obtain ⟨y, st3, h5, h6⟩ := FM.bind_some h4
    clear h4
    obtain ⟨rfl, z, rfl, hz1, hz2⟩ := argV_lift h hrd hop h5
    obtain ⟨ys', st4, h7, h8⟩ := FM.bind_some h6
    clear h6
    obtain ⟨rfl, zs, rfl, e2, e3, e4⟩ := argVs_lift hf h hrd os h2 (p + 1) h7
    obtain ⟨rfl, rfl⟩ := ret_run h8
    refine ⟨rfl, z :: zs, rfl, by simp [e2], by simp [e3, hz1.val], fun i z' hz' => ?_⟩
    cases i with
    | zero =>
     simp only [List.getElem?_cons_zero, Option.some.injEq] at hz'
     subst hz'
     exact ⟨⟨_, hz1⟩, hz2⟩
    | succ i =>
     have := e4 i z' (by simpa using hz')
     rwa [show p + 1 + i = p + (i + 1) by omega] at this
def capSlA (caps : List A) : List SA := caps.map fun p => ⟨.val, [⟨p, .sh⟩]⟩
theorem capSlA_er (caps : List A) : (capSlA caps).map Sl.er = capSlots (erL caps) := by
 simp [capSlA, capSlots, erL_map, List.map_map, Function.comp_def, Sl.er, Kd.er, Cell.er]
theorem capSlA_val (caps : List A) (hp : ∀ c ∈ caps, ∃ t cs, c = .ptr t cs) : (capSlA caps).map (slVal E.sid) = caps.map capVal := by
 simp only [capSlA, List.map_map]
 refine List.map_congr_left fun c hc => ?_
 obtain ⟨t, cs, rfl⟩ := hp c hc
 rfl
def viewOf (E : Env) (w : World) (old : Nat → Nat → Prop) (args : List SA) : Env :=
 ⟨E.P, E.sid, 0, w.heap.size, old, fun _ => False, fun p c => ((args[p]?).bind fun s => s.cs[c]?).map (·.v), fun _ => none, ⟨none, 0, 0⟩⟩
theorem view_par {old : Nat → Nat → Prop} {args : List SA} {p c : Nat} {s : SA} {x : Cell Tg} (hs : args[p]? = some s) (hx : s.cs[c]? = some x) : (viewOf E w old args).par p c = some x.v := by
 simp [viewOf, hs, hx]
theorem own_of_flags {s : SA} (hk : ∀ t, s.k ≠ .box t) (hfl : ∀ x ∈ s.cs, hold x.f = false) : s.own = [] := by
 unfold Sl.own Sl.boxOwn
 have : s.cs.flatMap Cell.own = [] := by
  rw [List.flatMap_eq_nil_iff]
  intro x hx
  simp [Cell.own, hfl x hx]
 rw [this]
 cases h : s.k with
 | box t => exact absurd h (hk t)
 | _ => rfl
theorem entry_vals {old : Nat → Nat → Prop} {args : List SA} (hold : ∀ b j, old b j → b < w.heap.size) (hm : ∀ (i : Nat) (z : SA), args[i]? = some z → ((z.k = .val ∧ ∃ c, z.cs = [c]) ∨ z.k = .agg) ∧ Meets E w i z ∧ ∀ (c : Nat) (x : Cell Tg), z.cs[c]? = some x → Rd E.sid w old x.v) :
  Entry (viewOf E w old args) w args := by
 have hall : ∀ s ∈ args, (∀ t, s.k ≠ .box t) ∧ ∀ x ∈ s.cs, COk (viewOf E w old args) w old [] [] x ∧ (x.f = .sc ∨ (∃ i j, x.f = .sp i j) ∨ x.f = .sh ∨ x.f = .nl) := by
  intro s hs
  obtain ⟨i, hi⟩ := List.mem_iff_getElem?.1 hs
  obtain ⟨h1, h2, h3⟩ := hm i s hi
  refine ⟨fun t => by rcases h1 with ⟨h, _⟩ | h <;> rw [h] <;> simp, fun x hx => ?_⟩
  obtain ⟨c, hc⟩ := List.mem_iff_getElem?.1 hx
  exact h2 (viewOf E w old args) rfl h3 (fun c x hx => view_par hi hx) c x hc
 have hown : args.flatMap Sl.own = [] := by
  rw [List.flatMap_eq_nil_iff]
  intro s hs
  refine own_of_flags (hall s hs).1 (fun x hx => ?_)
  rcases ((hall s hs).2 x hx).2 with h | ⟨i, j, h⟩ | h | h <;> rw [h] <;> rfl
 refine ⟨rfl, fun i s hs => ?_, fun s hs x hx => ?_, fun s hs x hx => ((hall s hs).2 x hx).1, fun s hs t hk => absurd hk ((hall s hs).1 t), by rw [hown]; simp, by rw [hown]; simp, hold⟩
 ·rcases (hm i s hs).1 with h | h
  ·exact .inl h
  ·exact .inr (.inl h)
 ·rcases ((hall s hs).2 x hx).2 with h | h | h | h
  ·exact .inl h
  ·exact .inr (.inl h)
  ·exact .inr (.inr (.inl h))
  ·exact .inr (.inr (.inr (.inl h)))
def shapeOf (s : SA) : Bool × Nat := (match s.k with | .agg => true | _ => false, s.cs.length)
def retSlA : List SA → SA
 | [s] => s
 | ss => ⟨.tup (ss.map shapeOf), ss.flatMap (·.cs)⟩
theorem retSlA_er (rs : List SA) : (retSlA rs).er = retSl (rs.map Sl.er) := by
 have key : ∀ ss : List SA, (⟨.tup (ss.map shapeOf), ss.flatMap (·.cs)⟩ : SA).er = ⟨.tup ((ss.map Sl.er).map fun s => (match s.k with | .agg => true | _ => false, s.cs.length)), (ss.map Sl.er).flatMap (·.cs)⟩ := by
  intro ss
  have h1 : (ss.map Sl.er).map (fun s => ((match s.k with | .agg => true | _ => false : Bool), s.cs.length)) = ss.map shapeOf := by
   rw [List.map_map]
   refine List.map_congr_left fun s _ => ?_
   obtain ⟨k, cs⟩ := s
   cases k <;> simp [shapeOf, Sl.er, Kd.er]
  rw [h1]
  simp only [Sl.er, Kd.er]
  congr 1
  clear h1
  induction ss with
  | nil => rfl
  | cons s ss ih =>
   simp only [List.flatMap_cons, List.map_append, List.map_cons, ih]
   rfl
 match rs with
 | [] => rfl
 | [s] => rfl
 | s :: s' :: ss => exact key (s :: s' :: ss)
theorem retSlA_cs (rs : List SA) : (retSlA rs).cs = rs.flatMap (·.cs) := by
 match rs with
 | [] => rfl
 | [s] => simp [retSlA]
 | s :: s' :: ss => rfl
theorem tupVals_slots : ∀ {ss : List SA}, (∀ s ∈ ss, (s.k = .val ∧ ∃ c, s.cs = [c]) ∨ s.k = .agg) → tupVals (ss.map shapeOf) ((ss.flatMap (·.cs)).map (·.v.val E.sid)) = ss.map (slVal E.sid)
 | [], _ => rfl
 | s :: ss, h => by
  have ih := tupVals_slots (ss := ss) (fun s hs => h s (List.mem_cons_of_mem _ hs))
  simp only [List.map_cons, List.flatMap_cons, List.map_append]
  have hl : (s.cs.map (·.v.val E.sid)).length = s.cs.length := by simp
  rcases h s (List.mem_cons_self ..) with ⟨hk, c, hc⟩ | hk
  ·simp only [shapeOf, hk, tupVals, hc, slVal, List.map_cons, List.map_nil, List.length_cons, List.length_nil, Bool.false_eq_true, if_false, List.cons_append, List.nil_append, List.head?_cons, Option.getD_some, List.cons.injEq, true_and]
   exact ih
  ·simp only [shapeOf, hk, tupVals, slVal, if_true]
   rw [List.take_left' hl, List.drop_left' hl]
   simp only [List.cons.injEq, true_and]
   exact ih
theorem made_ret (h : Inv E S X C a w) (hb : E.base ≤ w.heap.size) {E' : Env} (hsid : E'.sid = E.sid) (hbase : E'.base = w.heap.size) (hg : Grow w w') {args : List SA} {ret : Ret} {v : Value} {rs : List SA} {outs : List A} {C' : Nat → Nat → Prop} (hl : Leave E' w w' args ret v rs outs C')
  (hno : (∀ b j, C' b j → E'.base ≤ b ∨ C b j) ∨ ∀ s ∈ rs, ∀ x ∈ s.cs, x.f ≠ .no) :
  ∃ C1, Made E S X C1 a w' (retSlA rs) v ∧ (∀ b j, C b j → C1 b j) := by
 have hcellsOwn : ∀ b, ((retSlA rs).cs.flatMap Cell.own).count b ≤ (rs.flatMap Sl.own).count b := by
  intro b
  rw [retSlA_cs]
  clear hl hno
  induction rs with
  | nil => simp
  | cons s rs ih =>
   have h1 : s.own.count b = s.boxOwn.count b + (s.cs.flatMap Cell.own).count b := by unfold Sl.own; rw [List.count_append]
   simp only [List.flatMap_cons, List.flatMap_append, List.count_append]
   omega
 have hmem : ∀ x ∈ (retSlA rs).cs, ∃ s ∈ rs, x ∈ s.cs := by
  intro x hx
  rw [retSlA_cs] at hx
  exact List.mem_flatMap.1 hx
 have hcok : ∀ x ∈ (retSlA rs).cs, ∀ X', COk E w' (fun b j => C b j ∨ (C' b j ∧ w.heap.size ≤ b)) S X' x ∧ ∀ p q k, x.f ≠ .ap p q k := by
  intro x hx X'
  obtain ⟨s, hs, hxs⟩ := hmem x hx
  have hk := hl.cells s hs x hxs
  have hfl := hl.flags s hs x hxs
  have hshp : ∀ {g : Bool} {v : A}, Shp' E'.sid w' C' g v → (∀ b ∈ v.blks, E'.base ≤ b) → Shp' E.sid w' (fun b j => C b j ∨ (C' b j ∧ w.heap.size ≤ b)) g v := by
   intro g v hs' hbb
   rw [hsid] at hs'
   refine hs'.world (fun _ _ => rfl) (fun b hb j hj => ?_)
   rcases hj with hj | hj
   ·have := h.clt b j hj
    have := hbb b hb
    omega
   ·exact hj.1
  have hno' : x.f = .no → ∀ b j, C' b j → C b j ∨ (C' b j ∧ w.heap.size ≤ b) := by
   intro hf b j hj
   rcases hno with hno | hno
   ·rcases hno b j hj with h1 | h1
    ·exact .inr ⟨hj, by omega⟩
    ·exact .inl h1
   ·exact absurd hf (hno s hs x hxs)
  obtain ⟨v, f⟩ := x
  rcases hfl with hf | hf | ⟨g, hf⟩ | hf | hf
  ·simp only at hf; subst hf; exact ⟨hk, by simp⟩
  ·simp only at hf; subst hf; exact ⟨hk, by simp⟩
  ·simp only at hf; subst hf
   exact ⟨⟨hk.1, hshp hk.2.1 hk.2.2, fun b hb' => Nat.le_trans hb (by have := hk.2.2 b hb'; omega)⟩, by simp⟩
  ·simp only at hf; subst hf
   refine ⟨⟨hk.1, ?_⟩, by simp⟩
   have h2 := hk.2
   rw [hsid] at h2
   exact h2.mono (hno' rfl) (fun _ _ _ => rfl)
  ·simp only at hf; subst hf
   have h2 := hk.2.1
   rw [hsid] at h2
   refine ⟨⟨hk.1, (h2.own hk.2.2.1.1).mono (fun b j hj => .inr ⟨hj.1, by have := hk.2.2.1.2 b hj.2; omega⟩) (fun _ _ _ => rfl), ⟨hk.2.2.1.1, fun b hb' => Nat.le_trans hb (by have := hk.2.2.1.2 b hb'; omega)⟩, hk.2.2.2.mono (fun b hb' j hj => ?_) (fun _ _ => rfl)⟩, by simp⟩
   rcases hj with hj | hj
   ·have := h.clt b j hj
    have := hk.2.2.1.2 b (top_blks hb')
    omega
   ·exact hj.1
 have hinv : Inv E S ((retSlA rs).cs ++ X) (fun b j => C b j ∨ (C' b j ∧ w.heap.size ≤ b)) a w' := by
  refine h.gain hg (fun b j hj => ⟨hj.2, hl.clt b j hj.1⟩) hb (fun x hx => hcok x hx _) (fun b => ?_) (fun b hb' => ?_)
  ·have := hcellsOwn b
   have := hl.cnt b
   omega
  ·have h1 := List.count_pos_iff.2 hb'
   have h2 := hcellsOwn b
   have := hl.own b (List.count_pos_iff.1 (by omega))
   rw [hbase] at this
   exact this
 have hkn : ∀ t, (retSlA rs).k = .box t → ∃ s, rs = [s] ∧ s.k = .box t := by
  intro t ht
  match rs with
  | [] => simp [retSlA] at ht
  | [s] => exact ⟨s, rfl, ht⟩
  | s :: s' :: ss => simp [retSlA] at ht
 refine ⟨_, ⟨hinv, fun hnb => ?_, fun t ht => ?_, fun t src ix ht => ?_, fun hk => ?_⟩, fun _ _ => .inl⟩
 ·have hv := hl.val
  rw [hsid] at hv
  match rs, hl, hnb with
  | [], hl, _ => exact hv
  | [s], hl, hnb =>
   rcases hl.kinds s (by simp) with ⟨hk, c, hc⟩ | hk | ⟨⟨t, hk⟩, _⟩
   ·show SlV E.sid S s v
    unfold SlV; rw [hk]
    exact ⟨c, hc, by rw [hv]; simp [retVal, slVal, hk, hc]⟩
   ·show SlV E.sid S s v
    unfold SlV; rw [hk]
    simp only [hv, retVal, slVal, hk]
   ·exact absurd hk (hnb t)
  | s :: s' :: ss, hl, _ =>
   have hks : ∀ q ∈ s :: s' :: ss, (q.k = .val ∧ ∃ c, q.cs = [c]) ∨ q.k = .agg := by
    intro q hq
    rcases hl.kinds q hq with h1 | h1 | ⟨_, h1, _⟩
    ·exact .inl h1
    ·exact .inr h1
    ·simp at h1
   show v = _
   rw [hv]
   simp only [retVal, retSlA, tupVals_slots hks]
 ·obtain ⟨s, rfl, hk⟩ := hkn t ht
  obtain ⟨⟨b, T, q1, q2, q3, q4⟩, hbb⟩ := hl.box s (by simp) t hk
  have hb' := hbb b q1
  rw [hbase] at hb'
  have hbin : b ∈ s.own := by
   unfold Sl.own
   exact List.mem_append.2 (.inl (by simp [Sl.boxOwn, hk, q1]))
  have hblt := hl.own b (by simpa using hbin)
  refine ⟨⟨b, T, q1, by rw [← hsid]; exact q2, fun j hj => ?_, .inl (Nat.le_trans hb hb')⟩, b, q1, ?_, ?_, Nat.le_trans hb hb', hblt.2, fun j hj => ?_, ?_⟩
  ·rcases hj with hj | hj
   ·have := h.clt b j hj; omega
   ·exact q3 j hj.1
  ·rw [hl.val]; simp [retVal, slVal, hk, q1]
  ·intro hm
   simp only [ownAll, retSlA, List.flatMap_append, List.mem_append] at hm
   have hold : b ∉ ownAll S X := fun hm => by have := (h.ownlt b hm).1; omega
   rcases hm with hm | hm | hm
   ·exact hold (List.mem_append.2 (.inl hm))
   ·have h1 := hl.cnt b
    have h2 : 2 ≤ ([s].flatMap Sl.own).count b := by
     simp only [List.flatMap_cons, List.flatMap_nil, List.append_nil]
     unfold Sl.own
     rw [List.count_append]
     have e1 : 0 < s.boxOwn.count b := List.count_pos_iff.2 (by simp [Sl.boxOwn, hk, q1])
     have e2 := List.count_pos_iff.2 hm
     omega
    omega
   ·exact hold (List.mem_append.2 (.inr hm))
  ·have := h.clt b j (h.olt b j hj); omega
  ·intro x hx p q r hxf y hy hyg
   rcases List.mem_append.1 hx with hx | hx
   ·exact h.apBelow (by omega) x (List.mem_append.2 (.inl hx)) p q r hxf y hy hyg
   ·rcases List.mem_append.1 hx with hx | hx
    ·exact absurd hxf ((hcok x hx []).2 p q r)
    ·exact h.apBelow (by omega) x (mem_hand hx) p q r hxf y hy hyg
 ·exfalso
  match rs, hl, ht with
  | [], _, ht => simp [retSlA] at ht
  | [s], hl, ht =>
   have ht : s.k = .ept t src ix := ht
   rcases hl.kinds s (by simp) with ⟨hk, _⟩ | hk | ⟨⟨t, hk⟩, _⟩ <;> rw [hk] at ht <;> simp at ht
  | s :: s' :: ss, _, ht => simp [retSlA] at ht
 ·exfalso
  match rs, hl, hk with
  | [], _, hk => simp [retSlA] at hk
  | [s], hl, hk =>
   have hk : s.k = .dead ∨ s.k = .und ∨ (∃ r o, s.k = .ptr r o) ∨ ∃ g rs, s.k = .clo g rs := hk
   rcases hl.kinds s (by simp) with ⟨hk', _⟩ | hk' | ⟨⟨t, hk'⟩, _⟩ <;> rw [hk'] at hk <;> simp at hk
  | s :: s' :: ss, _, hk => simp [retSlA] at hk
end
end Go.Vm
end
section
namespace Go.Vm
section
variable {E : Env} {cx : Cx} {S : StA} {X : List (Cell Tg)} {C : Nat → Nat → Prop} {a : Act} {w w' : World}
def CallMakes (E : Env) (X : List (Cell Tg)) (a : Act) (w : World) (o : Oper) (s : SU) (st1 : St) : Prop :=
 ∃ f args, (execOp a.eval o).run E.P w = .ok (.enter f args) w ∧
  Calls E.P f args w fun e w' => ∃ v S1 C1 sA, e = .returned v ∧ erS S1 = st1 ∧ sA.er = s ∧ Made E S1 X C1 a w' sA v ∧ Frame E w w'
def Does (E : Env) (X : List (Cell Tg)) (a : Act) (w : World) (o : Oper) (s : SU) (st1 : St) : Prop := Makes E X a w o s st1 ∨ CallMakes E X a w o s st1
theorem boxBlk_lt (h : Inv E S X C a w) {b : Nat} (hb : BoxBlk S b) : b < w.heap.size := by
 obtain ⟨i, s, t, hs, hk, hta⟩ := hb
 obtain ⟨b', T, q1, q2, _⟩ := h.box i s t hs hk
 rw [hta] at q1
 simp only [Option.some.injEq, Addr.mk.injEq, and_true] at q1
 subst q1
 exact (Array.getElem?_eq_some_iff.1 q2).1
theorem frame_of_leave {E' : Env} {args : List SA} {ret : Ret} {v : Value} {rs : List SA} {outs : List A} {C' : Nat → Nat → Prop} (hl : Leave E' w w' args ret v rs outs C') (hbase : E'.base = w.heap.size) (hchg : ∀ b, ¬ E'.chg b) (hb : E.base ≤ w.heap.size) :
  Grow w w' ∧ Frame E w w' := by
 have hg : Grow w w' := ⟨hl.frame.size, fun b hbl => hl.frame.block b (by rw [hbase]; exact hbl) (hchg b)⟩
 exact ⟨hg, hl.frame.os, hl.frame.tape, hl.frame.output, hl.frame.size, fun b hbl _ => hg.block b (Nat.lt_of_lt_of_le hbl hb)⟩
theorem callVals_lift {orac : Orac} (hf : Fits E cx) (h : Inv E S X C a w) (hrd : ∀ (i : Nat) (s : SA), S[i]? = some s → ∀ x ∈ s.cs, x.f ≠ .dd → (∀ p q r, x.f ≠ .ap p q r) → Rd E.sid w C x.v) (hb : E.base ≤ w.heap.size) (hO : ∀ g, Keeps' E.P E.sid orac g)
  {os : List Operand} {xs : List Opd} (hc : mapO (cOpd cx) os = some xs) {capsA : List A} (hp : ∀ c ∈ capsA, ∃ t cs, c = .ptr t cs) (hcr : ∀ c ∈ capsA, Rd E.sid w (fun b j => C b j ∨ BoxBlk S b) c)
  {g : Nat} {s : SU} {st1 : St} (hr : (callVals orac g xs (erL capsA)).run (erS S) = some (s, st1)) :
  st1 = erS S ∧ (callFunc (E.sid g) (os.map a.eval ++ capsA.map capVal).toArray).run E.P w = .ok (.enter (E.sid g) (os.map a.eval ++ capsA.map capVal).toArray) w ∧
   Calls E.P (E.sid g) (os.map a.eval ++ capsA.map capVal).toArray w fun e w' => ∃ v C1 sA, e = .returned v ∧ sA.er = s ∧ Made E S X C1 a w' sA v ∧ Frame E w w' := by
 unfold callVals at hr
 obtain ⟨as, st2, h1, h2⟩ := FM.bind_some hr
 clear hr
 obtain ⟨rfl, zs, rfl, e2, e3, e4⟩ := argVs_lift hf h hrd os hc 0 h1
 split at h2
 ·rename_i rs hor
  split at h2
  ·rename_i hflag
   obtain ⟨rfl, rfl⟩ := ret_run h2
   refine ⟨rfl, ?_⟩
   have her : (zs ++ capSlA capsA).map Sl.er = zs.map Sl.er ++ capSlots (erL capsA) := by rw [List.map_append, capSlA_er]
   have hvals : ((zs ++ capSlA capsA).map (slVal E.sid)) = os.map a.eval ++ capsA.map capVal := by rw [List.map_append, e3, capSlA_val capsA hp]
   rw [← her] at hor
   obtain ⟨old, hold, holdlt, hread, hno⟩ : ∃ old : Nat → Nat → Prop, (∀ b j, C b j → old b j) ∧ (∀ b j, old b j → b < w.heap.size) ∧
     (∀ (i : Nat) (z : SA), (zs ++ capSlA capsA)[i]? = some z → ∀ (c : Nat) (x : Cell Tg), z.cs[c]? = some x → Rd E.sid w old x.v) ∧ ((∀ b j, old b j → C b j) ∨ rs.all noNo = true) := by
    cases hfl : ((zs.map Sl.er).all noCaps && (erL capsA).isEmpty) with
    | true =>
     simp only [Bool.and_eq_true, List.all_map, List.all_eq_true, List.isEmpty_iff] at hfl
     have hcn : capsA = [] := by
      have := hfl.2
      rw [erL_map, List.map_eq_nil_iff] at this
      exact this
     subst hcn
     refine ⟨C, fun _ _ => id, h.clt, fun i z hz c x hx => ?_, .inl fun _ _ => id⟩
     have hz : zs[i]? = some z := by simpa [capSlA] using hz
     obtain ⟨⟨v, ha⟩, _⟩ := e4 i z hz
     exact (ha.src c x hx).2 (hfl.1 z (List.mem_of_getElem? hz))
    | false =>
     rw [hfl] at hflag
     refine ⟨fun b j => C b j ∨ BoxBlk S b, fun _ _ => .inl, fun b j hj => hj.elim (h.clt b j) (boxBlk_lt h), fun i z hz c x hx => ?_, .inr (by simpa using hflag)⟩
     rw [List.getElem?_append] at hz
     split at hz
     ·obtain ⟨⟨v, ha⟩, _⟩ := e4 i z hz
      exact (ha.src c x hx).1
     ·simp only [capSlA, List.getElem?_map, Option.map_eq_some_iff] at hz
      obtain ⟨p, hp', rfl⟩ := hz
      cases c with
      | zero =>
       simp only [List.getElem?_cons_zero, Option.some.injEq] at hx
       subst hx
       exact hcr p (List.mem_of_getElem? hp')
      | succ c => simp at hx
   have hentry : Entry (viewOf E w old (zs ++ capSlA capsA)) w (zs ++ capSlA capsA) := by
    refine entry_vals holdlt (fun i z hz => ?_)
    have hz0 := hz
    rw [List.getElem?_append] at hz
    split at hz
    ·obtain ⟨⟨v, ha⟩, hm⟩ := e4 i z hz
     exact ⟨ha.kind, by rw [Nat.zero_add] at hm; exact hm, hread i z hz0⟩
    ·simp only [capSlA, List.getElem?_map, Option.map_eq_some_iff] at hz
     obtain ⟨p, hp', rfl⟩ := hz
     refine ⟨.inl ⟨rfl, _, rfl⟩, fun E' hs' hE hpar c x hx => ?_, hread i _ hz0⟩
     have h1 := hE c x hx
     cases c with
     | zero =>
      simp only [List.getElem?_cons_zero, Option.some.injEq] at hx
      subst hx
      exact ⟨by show Rd E'.sid w E'.old _; rw [hs']; exact h1, .inr (.inr (.inl rfl))⟩
     | succ c => simp at hx
   obtain ⟨k1, k2⟩ := hO g (viewOf E w old (zs ++ capSlA capsA)) w (zs ++ capSlA capsA) _ rfl rfl hentry hor
   rw [hvals] at k1 k2
   refine ⟨k1, Calls.mono k2 ?_⟩
   rintro e w' ⟨v, rsA, outs, C', he, hl⟩
   obtain ⟨hg, hfr⟩ := frame_of_leave (E := E) hl rfl (fun _ => id) hb
   obtain ⟨C1, hm, _⟩ := made_ret (E' := viewOf E w old (zs ++ capSlA capsA)) h hb rfl rfl hg hl (by
    rcases hno with hno | hno
    ·refine .inl fun b j hj => ?_
     rcases hl.cbase b j hj with h1 | h1 | h1
     ·exact .inl h1
     ·exact .inr (hno b j h1)
     ·exact h1.elim
    ·refine .inr fun s hs x hx e => ?_
     have hs' : s.er ∈ rs := by
      have := List.mem_map_of_mem (f := Sl.er) hs
      rw [hl.er] at this; exact this
     have := List.all_eq_true.1 hno s.er hs'
     simp only [noNo, er_cells, List.all_map, List.all_eq_true, Function.comp] at this
     have := this x hx
     simp [Cell.er, e] at this)
   exact ⟨v, C1, retSlA rsA, he, by rw [retSlA_er, hl.er], hm, hfr⟩
  ·exact (fail_run h2).elim
 ·exact (fail_run h2).elim
theorem exec_call {o : Oper} {k : Call} {f : Operand} (ho : o.op = .call k) (hk : k.callee = .value f) {fn : FuncId} {caps : Array Value} (hv : a.eval f = .func (.func fn) #[] caps) :
  execOp a.eval o = callFunc fn (k.args.map a.eval ++ caps) := by
 unfold execOp
 rw [ho]
 simp [resolve, hk, Deferred.ofValue, hv, invoke]
theorem opd_fn (hf : Fits E cx) {f g : Nat} (hg : cx.canon f = some g) : a.eval (.func f) = .func (.func (E.sid g)) #[] #[] := by
 rw [hf.fn f g hg]; rfl
theorem sound_callVals {orac : Orac} (hf : Fits E cx) (h : Inv E S X C a w) (hb : E.base ≤ w.heap.size) (hO : ∀ g, Keeps' E.P E.sid orac g) {o : Oper} {k : Call} (ho : o.op = .call k) {f g : Nat} (hk : k.callee = .value (.func f)) (hg : cx.canon f = some g) {xs : List Opd} (hc : mapO (cOpd cx) k.args.toList = some xs)
  {s : SU} {st1 : St} (hr : (callVals orac g xs []).run (erS S) = some (s, st1)) : CallMakes E X a w o s st1 := by
 obtain ⟨C1, h1, _, hrd⟩ := all_rd h
 obtain ⟨rfl, k1, k2⟩ := callVals_lift hf h1 hrd hb hO hc (capsA := []) (by simp) (by simp) hr
 have hex := exec_call (a := a) ho hk (opd_fn hf hg)
 simp only [List.map_nil, List.append_nil] at k1 k2
 have hargs : (k.args.map a.eval ++ #[]) = (k.args.toList.map a.eval).toArray := by rw [← Array.toList_inj]; simp
 rw [hargs] at hex
 refine ⟨_, _, by rw [hex]; exact k1, Calls.mono k2 ?_⟩
 rintro e w' ⟨v, C2, sA, h1, h2, h3, h4⟩
 exact ⟨v, S, C2, sA, h1, rfl, h2, h3, h4⟩
theorem sound_callv {orac : Orac} {modes : Modes} (hf : Fits E cx) (h : Inv E S X C a w) (hb : E.base ≤ w.heap.size) (hO : ∀ g, Keeps' E.P E.sid orac g) {o : Oper} {k : Call} (ho : o.op = .call k) {of : Operand} (hk : k.callee = .value of) {xf : Opd} (hxf : cOpd cx of = some xf) {xs : List Opd} (hc : mapO (cOpd cx) k.args.toList = some xs)
  {s : SU} {st1 : St} (hr : (evalCall orac modes cx.nt (.callv xf xs)).run (erS S) = some (s, st1)) : CallMakes E X a w o s st1 := by
 unfold evalCall at hr
 obtain ⟨sl, st2, h1, h2⟩ := FM.bind_some hr
 clear hr
 obtain ⟨C1, hi, _, hrd⟩ := all_rd h
 obtain ⟨rfl, s0, rfl, hop⟩ := opd_lift hf hi hxf h1
 have fin : ∀ {g : Nat} {capsA : List A}, a.eval of = .func (.func (E.sid g)) #[] (capsA.map capVal).toArray → (∀ c ∈ capsA, ∃ t cs, c = .ptr t cs) → (∀ c ∈ capsA, Rd E.sid w (fun b j => C1 b j ∨ BoxBlk S b) c) →
   (callVals orac g xs (erL capsA)).run (erS S) = some (s, st1) → CallMakes E X a w o s st1 := by
  intro g capsA hv hp hcr hr
  obtain ⟨rfl, k1, k2⟩ := callVals_lift hf hi hrd hb hO hc hp hcr hr
  have hex := exec_call (a := a) ho hk hv
  have hargs : (k.args.map a.eval ++ (capsA.map capVal).toArray) = (k.args.toList.map a.eval ++ capsA.map capVal).toArray := by rw [← Array.toList_inj]; simp
  rw [hargs] at hex
  refine ⟨_, _, by rw [hex]; exact k1, Calls.mono k2 ?_⟩
  rintro e w' ⟨v, C2, sA, h1, h2, h3, h4⟩
  exact ⟨v, S, C2, sA, h1, rfl, h2, h3, h4⟩
 split at h2
 ·rename_i g caps hk0 hcs
  split at h2
  ·exact (fail_run h2).elim
  ·have hkv : s0.k = .val := by
    rw [er_kind] at hk0
    cases hk' : s0.k <;> rw [hk'] at hk0 <;> simp [Kd.er] at hk0 ⊢
   obtain ⟨z, hz, hzer⟩ : ∃ z : Cell Tg, s0.cs = [z] ∧ z.er = ⟨.fn g caps, .sh⟩ := by
    rw [er_cells] at hcs
    cases hs : s0.cs with
    | nil => rw [hs] at hcs; simp at hcs
    | cons q r => cases r with
     | nil => rw [hs] at hcs; simp at hcs; exact ⟨q, rfl, hcs⟩
     | cons q' r => rw [hs] at hcs; simp at hcs
   obtain ⟨vz, fz⟩ := z
   simp only [Cell.er, Cell.mk.injEq] at hzer
   obtain ⟨hver, rfl⟩ := hzer
   obtain ⟨capsA, rfl, hcaps⟩ : ∃ capsA, vz = .fn g capsA ∧ erL capsA = caps := by
    cases vz with
    | fn g' c =>
     simp only [VA.er, VA.fn.injEq] at hver
     obtain ⟨rfl, hver⟩ := hver
     exact ⟨c, rfl, hver⟩
    | _ => simp [VA.er] at hver
   have hzz : Rd E.sid w C1 (.fn g capsA) ∧ a.eval of = .func (.func (E.sid g)) #[] (capsA.map capVal).toArray := by
    cases hop with
    | slot q s2 hq hs hv =>
     refine ⟨hrd q s0 hs _ (by rw [hz]; exact List.mem_singleton.2 rfl) (by simp) (by simp), ?_⟩
     unfold SlV at hv; rw [hkv] at hv
     obtain ⟨z', hz', hv⟩ := hv
     rw [hz] at hz'; simp at hz'; subst hz'; exact hv
    | const agg vs s2 hk he hok hv h1' =>
     have h3 := (hok _ (by rw [hz]; exact List.mem_singleton.2 rfl)).1
     refine ⟨Rd.mono h3 hi.olt (fun _ _ _ => rfl), ?_⟩
     cases agg with
     | true => rw [hk] at hkv; simp at hkv
     | false => rw [hv, hz]; simp [VA.val]
    | fn g' hv =>
     simp only [List.cons.injEq, Cell.mk.injEq, VA.fn.injEq, and_true] at hz
     obtain ⟨rfl, rfl⟩ := hz
     exact ⟨.fn _ [] (by simp) (by simp), by rw [hv]; rfl⟩
   obtain ⟨hzr, hzv⟩ := hzz
   rw [← hcaps] at h2
   cases hzr with
   | fn _ _ hp hrc => exact fin hzv hp (fun c hc => (hrc c hc).mono (fun _ _ => .inl) (fun _ _ _ => rfl)) h2
 ·rename_i g roots hk0
  split at h2
  ·exact (fail_run h2).elim
  ·have hkv : s0.k = .clo g roots := by
    rw [er_kind] at hk0
    cases hk' : s0.k <;> rw [hk'] at hk0 <;> simp [Kd.er] at hk0 ⊢
    exact hk0
   obtain ⟨ps, st3, h3, h4⟩ := FM.bind_some h2
   obtain ⟨rfl, psA, e2, e3, e4, e5⟩ := capsOf_lift hi hrd roots h3
   have hv : a.eval of = .func (.func (E.sid g)) #[] (psA.map capVal).toArray := by
    cases hop with
    | slot i s hi hs hv => unfold SlV at hv; rw [hkv] at hv; rw [e3]; exact hv.2
    | const agg vs s hk he hok hv h1' => cases agg <;> rw [hk] at hkv <;> simp at hkv
    | fn g hv => simp at hkv
   rw [← e2] at h4
   exact fin hv e4 e5 h4
 ·exact (fail_run h2).elim
end
end Go.Vm
end
section
namespace Go.Vm
def reBoxA : List A → List (Cell Tg) → List (Cell Tg)
 | v :: vs, x :: xs => (if scal x.v then ⟨v, .sc⟩ else x) :: reBoxA vs xs
 | _, _ => []
theorem reBoxA_er : ∀ {vs : List A} {xs : List (Cell Tg)} {cs : List (Cell Unit)}, reBox (vs.map VA.er) (xs.map Cell.er) = some cs → (reBoxA vs xs).map Cell.er = cs
 | [], [], cs, h => by simp only [List.map_nil, reBox, Option.some.injEq] at h; subst h; rfl
 | [], x :: xs, cs, h => by simp [reBox] at h
 | v :: vs, [], cs, h => by simp [reBox] at h
 | v :: vs, x :: xs, cs, h => by
  simp only [List.map_cons, reBox] at h
  split at h
  ·rename_i r hr
   simp only [Option.some.injEq] at h
   subst h
   simp only [reBoxA, List.map_cons, reBoxA_er hr, Cell.er, scal_er]
   congr 1
   split <;> rfl
  ·cases h
theorem reBoxA_get : ∀ {vs : List A} {xs : List (Cell Tg)}, vs.length = xs.length → ∀ (c : Nat) (y : Cell Tg), (reBoxA vs xs)[c]? = some y → ∃ v x, vs[c]? = some v ∧ xs[c]? = some x ∧ y = if scal x.v then ⟨v, .sc⟩ else x
 | [], [], _, c, y, h => by simp [reBoxA] at h
 | [], x :: xs, hl, c, y, h => by simp at hl
 | v :: vs, [], hl, c, y, h => by simp at hl
 | v :: vs, x :: xs, hl, c, y, h => by
  simp only [reBoxA] at h
  cases c with
  | zero => exact ⟨v, x, rfl, rfl, by simpa using h.symm⟩
  | succ c => exact reBoxA_get (by simpa using hl) c y (by simpa using h)
theorem reBoxA_len : ∀ {vs : List A} {xs : List (Cell Tg)}, vs.length = xs.length → (reBoxA vs xs).length = xs.length
 | [], [], _ => rfl
 | [], x :: xs, hl => by simp at hl
 | v :: vs, [], hl => by simp at hl
 | v :: vs, x :: xs, hl => by simp only [reBoxA, List.length_cons, reBoxA_len (by simpa using hl : vs.length = xs.length)]
def setObj (w : World) (b : Nat) (o : Obj) : World := { w with heap := w.heap.setIfInBounds b o }
theorem setObj_at {w : World} {b : Nat} {o : Obj} (h : b < w.heap.size) : (setObj w b o).heap[b]? = some o := by simp [setObj, h]
theorem setObj_ne {w : World} {b b' : Nat} {o : Obj} (h : b' ≠ b) : (setObj w b o).heap[b']? = w.heap[b']? := by
 have : b ≠ b' := fun e => h e.symm
 simp [setObj, this]
theorem setObj_size (w : World) (b : Nat) (o : Obj) : (setObj w b o).heap.size = w.heap.size := by simp [setObj]
section
variable {E : Env} {cx : Cx} {S : StA} {X : List (Cell Tg)} {C : Nat → Nat → Prop} {a : Act} {w w' : World}
def viewBox (E : Env) (w : World) (old : Nat → Nat → Prop) (args : List SA) (b0 : Nat) : Env := { viewOf E w old args with chg := fun b => b = b0 }
theorem noCaps_rd {s : SA} {v : Value} (h : ArgOk E S C w v s) (hn : noCaps s.er = true) (c : Nat) (x : Cell Tg) (hx : s.cs[c]? = some x) : Rd E.sid w C x.v := (h.src c x hx).2 hn
theorem callBox_lift {orac : Orac} (hf : Fits E cx) (h : Inv E S X C a w) (hrd : ∀ (i : Nat) (s : SA), S[i]? = some s → ∀ x ∈ s.cs, x.f ≠ .dd → (∀ p q r, x.f ≠ .ap p q r) → Rd E.sid w C x.v) (hb : E.base ≤ w.heap.size) (hO : ∀ g, Keeps' E.P E.sid orac g)
  {os : List Operand} {xs : List Opd} (hc : mapO (cOpd cx) os = some xs) {r : Nat} {o1 : SA} (ho1 : S[r]? = some o1)
  {g : Nat} {s : SU} {st1 : St} (hr : (callBox orac g xs r o1.er).run (erS S) = some (s, st1)) :
  (callFunc (E.sid g) (.pointer (boxAddr S r) :: os.map a.eval).toArray).run E.P w = .ok (.enter (E.sid g) (.pointer (boxAddr S r) :: os.map a.eval).toArray) w ∧
   Calls E.P (E.sid g) (.pointer (boxAddr S r) :: os.map a.eval).toArray w fun e w' => ∃ v S1 C1 sA, e = .returned v ∧ erS S1 = st1 ∧ sA.er = s ∧ Made E S1 X C1 a w' sA v ∧ Frame E w w' := by
 unfold callBox at hr
 split at hr
 ·rename_i tu hk
  have hk' : ∃ t, o1.k = .box t := by
   rw [er_kind] at hk
   cases hk' : o1.k <;> rw [hk'] at hk <;> simp [Kd.er] at hk ⊢
  obtain ⟨t, hk'⟩ := hk'
  split at hr
  ·rename_i hplain
   obtain ⟨b', st2, h1, h2⟩ := FM.bind_some hr
   clear hr
   obtain ⟨h3, rfl⟩ := opt_run h1
   obtain ⟨as, st3, h4, h5⟩ := FM.bind_some h2
   clear h2
   obtain ⟨rfl, zs, rfl, e2, e3, e4⟩ := argVs_lift hf h hrd os hc 1 h4
   split at h5
   ·exact (fail_run h5).elim
   ·rename_i hcaps
    split at h5
    ·rename_i rs cs hor
     obtain ⟨cs', st4, h6, h7⟩ := FM.bind_some h5
     clear h5
     obtain ⟨h8, rfl⟩ := opt_run h6
     obtain ⟨un, st5, h9, h10⟩ := FM.bind_some h7
     clear h7
     obtain ⟨_, rfl⟩ := setS_run h9
     obtain ⟨rfl, rfl⟩ := ret_run h10
     unfold boxArg at h3
     rw [Option.map_eq_some_iff] at h3
     obtain ⟨bcs, hbcs, rfl⟩ := h3
     rw [er_cells] at hbcs
     obtain ⟨a1, a2⟩ := argCells_er hbcs
     obtain ⟨b0, T1, q1, q2, q3, q4⟩ := h.box r o1 t ho1 hk'
     have hb0lt : b0 < w.heap.size := (Array.getElem?_eq_some_iff.1 q2).1
     have hba : boxAddr S r = t.a := by
      unfold boxAddr
      rw [ho1]
      obtain ⟨k, cs⟩ := o1
      simp only at hk'; subst hk'; rfl
     have hplain' : ∀ x ∈ o1.cs, hold x.f = false := by
      intro x hx
      have := List.all_eq_true.1 hplain x.er (by rw [er_cells]; exact List.mem_map_of_mem hx)
      obtain ⟨v, f⟩ := x
      cases f <;> simp_all [plainCell, Cell.er, Go.Vm.hold, isOs, owns]
     simp only [Bool.not_eq_true', Bool.not_eq_false, List.all_map, List.all_eq_true] at hcaps
     have hcaps : ∀ z ∈ zs, noCaps z.er = true := by simpa using hcaps
     have hargs : ((⟨.box t, argCellsA 0 0 o1.cs⟩ : SA) :: zs).map Sl.er = (⟨.box (), bcs⟩ : SU) :: zs.map Sl.er := by simp [Sl.er, Kd.er, a1]
     rw [← hargs] at hor
     have hvals : ((⟨.box t, argCellsA 0 0 o1.cs⟩ : SA) :: zs).map (slVal E.sid) = .pointer (boxAddr S r) :: os.map a.eval := by
      simp [slVal, hba, e3]
     have hget0 : ∀ (c : Nat) (x : Cell Tg), (argCellsA 0 0 o1.cs)[c]? = some x → ∃ x0, o1.cs[c]? = some x0 ∧ x = argCellA 0 c x0 := by
      intro c x hx
      rw [argCellsA_get, Option.map_eq_some_iff] at hx
      obtain ⟨x0, hx0, rfl⟩ := hx
      exact ⟨x0, hx0, by rw [Nat.zero_add]⟩
     have harg0 : ∀ x ∈ argCellsA 0 0 o1.cs, COk (viewBox E w C (⟨.box t, argCellsA 0 0 o1.cs⟩ :: zs) b0) w C [] [] x ∧ (x.f = .sc ∨ (∃ i j, x.f = .sp i j) ∨ x.f = .sh ∨ x.f = .nl) := by
      intro x hx
      obtain ⟨c, hcx⟩ := List.mem_iff_getElem?.1 hx
      obtain ⟨x0, hx0, rfl⟩ := hget0 c x hcx
      have hm := List.mem_of_getElem? hx0
      refine argCellA_ok (E := E) (E' := viewBox E w C (⟨.box t, argCellsA 0 0 o1.cs⟩ :: zs) b0) rfl (h.cells r o1 ho1 x0 hm) (a2 x0 hm).1 (a2 x0 hm).2 (hrd r o1 ho1 x0 hm (a2 x0 hm).1 (a2 x0 hm).2) (fun _ => ?_)
      show ((((⟨.box t, argCellsA 0 0 o1.cs⟩ : SA) :: zs)[0]?).bind fun s => s.cs[c]?).map (·.v) = some x0.v
      simp [hcx, argCellA_v]
     have hargz : ∀ s ∈ zs, (∀ t, s.k ≠ .box t) ∧ ∀ x ∈ s.cs, COk (viewBox E w C (⟨.box t, argCellsA 0 0 o1.cs⟩ :: zs) b0) w C [] [] x ∧ (x.f = .sc ∨ (∃ i j, x.f = .sp i j) ∨ x.f = .sh ∨ x.f = .nl) := by
      intro s hs
      obtain ⟨i, hi⟩ := List.mem_iff_getElem?.1 hs
      obtain ⟨⟨v, ha⟩, hm⟩ := e4 i s hi
      refine ⟨fun t => by rcases ha.kind with ⟨h, _⟩ | h <;> rw [h] <;> simp, fun x hx => ?_⟩
      obtain ⟨c, hcx⟩ := List.mem_iff_getElem?.1 hx
      refine hm (viewBox E w C (⟨.box t, argCellsA 0 0 o1.cs⟩ :: zs) b0) rfl (fun c x hx => noCaps_rd ha (hcaps s hs) c x hx) (fun c x hx => ?_) c x hcx
      show ((((⟨.box t, argCellsA 0 0 o1.cs⟩ : SA) :: zs)[1 + i]?).bind fun s => s.cs[c]?).map (·.v) = some x.v
      rw [Nat.add_comm, List.getElem?_cons_succ, hi]
      simp [hx]
     have hown : ((⟨.box t, argCellsA 0 0 o1.cs⟩ : SA) :: zs).flatMap Sl.own = [b0] := by
      have h1 : zs.flatMap Sl.own = [] := by
       rw [List.flatMap_eq_nil_iff]
       intro s hs
       refine own_of_flags (hargz s hs).1 (fun x hx => ?_)
       rcases ((hargz s hs).2 x hx).2 with h | ⟨i, j, h⟩ | h | h <;> rw [h] <;> rfl
      have h2 : (argCellsA 0 0 o1.cs).flatMap Cell.own = [] := by
       rw [List.flatMap_eq_nil_iff]
       intro x hx
       have : hold x.f = false := by rcases (harg0 x hx).2 with h | ⟨i, j, h⟩ | h | h <;> rw [h] <;> rfl
       simp [Cell.own, this]
      simp only [List.flatMap_cons, h1, List.append_nil]
      simp [Sl.own, Sl.boxOwn, q1, h2]
     have hentry : Entry (viewBox E w C (⟨.box t, argCellsA 0 0 o1.cs⟩ :: zs) b0) w (⟨.box t, argCellsA 0 0 o1.cs⟩ :: zs) := by
      refine ⟨rfl, fun i s hs => ?_, fun s hs x hx => ?_, fun s hs x hx => ?_, fun s hs t' hk => ?_, fun b => ?_, fun b hb' => ?_, h.clt⟩
      ·cases i with
       | zero =>
        simp only [List.getElem?_cons_zero, Option.some.injEq] at hs
        subst hs
        exact .inr (.inr ⟨rfl, t, rfl⟩)
       | succ i =>
        obtain ⟨⟨v, ha⟩, _⟩ := e4 i s (by simpa using hs)
        rcases ha.kind with h | h
        ·exact .inl h
        ·exact .inr (.inl h)
      ·have : x.f = .sc ∨ (∃ i j, x.f = .sp i j) ∨ x.f = .sh ∨ x.f = .nl := by
        rcases List.mem_cons.1 hs with rfl | hs
        ·exact (harg0 x hx).2
        ·exact ((hargz s hs).2 x hx).2
       rcases this with h | h | h | h
       ·exact .inl h
       ·exact .inr (.inl h)
       ·exact .inr (.inr (.inl h))
       ·exact .inr (.inr (.inr (.inl h)))
      ·rcases List.mem_cons.1 hs with rfl | hs
       ·exact (harg0 x hx).1
       ·exact ((hargz s hs).2 x hx).1
      ·rcases List.mem_cons.1 hs with rfl | hs
       ·simp only [Kd.box.injEq] at hk
        subst hk
        exact ⟨b0, T1, q1, by rw [map_val (argCellsA_v 0 o1.cs 0)]; exact q2, q3, .inr rfl⟩
       ·exact absurd hk ((hargz s hs).1 t')
      ·rw [hown]
       by_cases e : b0 = b
       ·subst e; simp
       ·rw [List.count_eq_zero.2]
        ·omega
        ·simpa using fun h => e h.symm
      ·rw [hown, List.mem_singleton] at hb'
       subst hb'
       exact ⟨hb0lt, q3⟩
     obtain ⟨k1, k2⟩ := hO g (viewBox E w C (⟨.box t, argCellsA 0 0 o1.cs⟩ :: zs) b0) w (⟨.box t, argCellsA 0 0 o1.cs⟩ :: zs) _ rfl rfl hentry hor
     rw [hvals] at k1 k2
     refine ⟨k1, Calls.mono k2 ?_⟩
     rintro e w' ⟨v, rsA, outs, C', he, hl⟩
     obtain ⟨arg, harg, t2, b2, T2, vs, l1, l2, l3, l4, l5, l6, l7⟩ := hl.left cs rfl
     simp only [List.head?_cons, Option.some.injEq] at harg
     subst harg
     simp only [Kd.box.injEq] at l1
     subst l1
     rw [q1] at l2
     simp only [Option.some.injEq, Addr.mk.injEq, and_true] at l2
     subst l2
     have l5 : vs.length = o1.cs.length := by
      rw [l5]
      have := congrArg List.length (argCellsA_v 0 o1.cs 0)
      simpa using this
     have l7 : ∀ (c : Nat) (x : Cell Tg) (v : A), o1.cs[c]? = some x → vs[c]? = some v → (scal x.v = true ∧ scal v = true) ∨ (scal x.v = false ∧ v.val E.sid = x.v.val E.sid) := by
      intro c x v hx hv
      have := l7 c (argCellA 0 c x) v (by show (argCellsA 0 0 o1.cs)[c]? = _; rw [argCellsA_get, hx, Nat.zero_add]; rfl) hv
      rw [argCellA_v] at this
      exact this
     have hcs' : (reBoxA vs o1.cs).map Cell.er = cs' := by
      refine reBoxA_er ?_
      rw [l4]; exact h8
     have hcsv : (reBoxA vs o1.cs).map (·.v.val E.sid) = vs.map (VA.val E.sid) := by
      apply List.ext_getElem?
      intro c
      rw [List.getElem?_map, List.getElem?_map]
      cases hy : (reBoxA vs o1.cs)[c]? with
      | none =>
       have : vs[c]? = none := by
        rw [List.getElem?_eq_none_iff] at hy ⊢
        rw [reBoxA_len l5] at hy; omega
       rw [this]; rfl
      | some y =>
       obtain ⟨v', x, hv', hx, rfl⟩ := reBoxA_get l5 c y hy
       rw [hv']
       rcases l7 c x v' hx hv' with ⟨hs1, _⟩ | ⟨hs1, hs2⟩
       ·rw [hs1]; rfl
       ·rw [hs1]
        simp only [Bool.false_eq_true, if_false, Option.map_some, hs2]
     have hw1 : (setObj w b0 (.cells (vs.map (VA.val E.sid)).toArray T2 (0, 0))).heap[b0]? = some (.cells (vs.map (VA.val E.sid)).toArray T2 (0, 0)) := setObj_at hb0lt
     have htail : Tail w (setObj w b0 (.cells (vs.map (VA.val E.sid)).toArray T2 (0, 0))) b0 0 :=
      ⟨⟨_, _, T1, T2, q2, hw1, by simp [l5], by simp⟩, setObj_size w b0 _, fun b hb' => setObj_ne hb'⟩
     have hnew : ∀ y ∈ reBoxA vs o1.cs, COk E w C S X y ∧ hold y.f = false ∧ ((∀ p q k, y.f ≠ .ap p q k) ∨ y ∈ o1.cs) := by
      intro y hy
      obtain ⟨c, hcy⟩ := List.mem_iff_getElem?.1 hy
      obtain ⟨v', x, hv', hx, rfl⟩ := reBoxA_get l5 c y hcy
      rcases l7 c x v' hx hv' with ⟨hs1, hs2⟩ | ⟨hs1, _⟩
      ·rw [hs1]
       exact ⟨hs2, rfl, .inl (by simp)⟩
      ·rw [hs1]
       have hm := List.mem_of_getElem? hx
       exact ⟨h.cells r o1 ho1 x hm, hplain' x hm, .inr hm⟩
     have hi1 : Inv E (S.set r ⟨.box t, reBoxA vs o1.cs⟩) X C a (setObj w b0 (.cells (vs.map (VA.val E.sid)).toArray T2 (0, 0))) := by
      refine Inv.setBox (zs := []) h ho1 hk' q1 htail ⟨b0, T2, q1, by rw [hcsv]; exact hw1, q3, q4⟩ (less_replace ho1 ?_ (fun b => ?_) (fun c x hx hxr => ?_) (fun c x hx => ?_)) (fun y hy => ⟨(hnew y hy).1, (hnew y hy).2.2⟩)
      ·simp [Sl.boxOwn, hk']
      ·have : (reBoxA vs o1.cs).flatMap Cell.own = [] := by
        rw [List.flatMap_eq_nil_iff]
        intro y hy
        simp [Cell.own, (hnew y hy).2.1]
       rw [this]; simp
      ·have hlt : c < (reBoxA vs o1.cs).length := by rw [reBoxA_len l5]; exact (List.getElem?_eq_some_iff.1 hx).1
       have hy := List.getElem?_eq_getElem hlt
       obtain ⟨v', x', hv', hx', heq⟩ := reBoxA_get l5 c _ hy
       rw [hx] at hx'
       obtain rfl := Option.some.inj hx'
       have hsf : scal x.v = false := by
        obtain ⟨v, f⟩ := x
        cases v <;> simp_all [isRow, scal]
       rw [hsf] at heq
       exact ⟨_, hy, by rw [heq]; exact hxr⟩
      ·have hx : (reBoxA vs o1.cs)[c]? = some x := hx
       obtain ⟨v', x', hv', hx', rfl⟩ := reBoxA_get l5 c x hx
       rcases l7 c x' v' hx' hv' with ⟨hs1, _⟩ | ⟨hs1, _⟩
       ·rw [hs1]; exact .inl ⟨by simp, by simp, by simp⟩
       ·rw [hs1]; exact .inr hx'
     have hblk : ∀ b, b < w.heap.size → w'.heap[b]? = (setObj w b0 (.cells (vs.map (VA.val E.sid)).toArray T2 (0, 0))).heap[b]? := by
      intro b hbl
      by_cases e : b = b0
      ·subst e; rw [hw1]; exact l3
      ·rw [setObj_ne e]
       exact hl.frame.block b hbl e
     have hg : Grow (setObj w b0 (.cells (vs.map (VA.val E.sid)).toArray T2 (0, 0))) w' := by
      refine ⟨by rw [setObj_size]; exact hl.frame.size, fun b hbl => hblk b (by rw [setObj_size] at hbl; exact hbl)⟩
     have hl' : Leave (viewBox E w C (⟨.box t, argCellsA 0 0 o1.cs⟩ :: zs) b0) (setObj w b0 (.cells (vs.map (VA.val E.sid)).toArray T2 (0, 0))) w' (⟨.box t, argCellsA 0 0 o1.cs⟩ :: zs) ⟨rs, [], some cs⟩ v rsA outs C' :=
      { hl with frame := ⟨hl.frame.os, hl.frame.tape, hl.frame.output, by rw [setObj_size]; exact hl.frame.size, fun b hbl hn => by
        rw [setObj_ne (fun e => hn e)]; exact hl.frame.block b hbl hn⟩ }
     obtain ⟨C1, hm, _⟩ := made_ret (E' := viewBox E w C (⟨.box t, argCellsA 0 0 o1.cs⟩ :: zs) b0) hi1 (by rw [setObj_size]; exact hb) rfl (by rw [setObj_size]; rfl) hg hl' (.inl fun b j hj => by
      rcases hl.cbase b j hj with h1 | h1 | h1
      ·exact .inl h1
      ·exact .inr h1
      ·exact absurd (h1 ▸ hj) (l6 j))
     refine ⟨v, S.set r ⟨.box t, reBoxA vs o1.cs⟩, C1, retSlA rsA, he, ?_, by rw [retSlA_er, hl.er], hm, hl.frame.os, hl.frame.tape, hl.frame.output, hl.frame.size, fun b hbl hn => ?_⟩
     ·rw [erS_set]
      congr 1
      simp only [Sl.er, Kd.er, hcs']
     ·refine hl.frame.block b (Nat.lt_of_lt_of_le hbl hb) (fun e => ?_)
      have e : b = b0 := e
      subst e
      rcases q4 with q4 | q4
      ·omega
      ·exact hn q4
    ·exact (fail_run h5).elim
  ·exact (fail_run hr).elim
 ·exact (fail_run hr).elim
end
end Go.Vm
end
section
namespace Go.Vm
def plain : Ir → Bool
 | .assign _ | .clear | .store .. | .rstore .. | .call .. | .callv .. => false
 | _ => true
theorem cCall_inv {cx : Cx} {k : Call} {ir : Ir} (h : cCall cx k = some ir) :
  (∃ f g xs, k.callee = .value (.func f) ∧ cx.canon f = some g ∧ mapO (cOpd cx) k.args.toList = some xs ∧ ir = .call g xs) ∨
  (∃ f xf xs, k.callee = .value f ∧ cOpd cx f = some xf ∧ mapO (cOpd cx) k.args.toList = some xs ∧ ir = .callv xf xs) ∨ plain ir = true := by
 unfold cCall at h
 split at h
 ·rename_i f as h1 h2
  rw [Option.map_eq_some_iff] at h
  obtain ⟨g, h3, rfl⟩ := h
  exact .inl ⟨f, g, as, h1, h3, h2, rfl⟩
 ·rename_i f as h3 h1 h2
  rw [Option.map_eq_some_iff] at h
  obtain ⟨xf, h4, rfl⟩ := h
  exact .inr (.inl ⟨f, xf, as, h1, h4, h2, rfl⟩)
 all_goals refine .inr (.inr ?_)
 ·split at h
  ·split at h <;> first | (simp only [Option.some.injEq] at h; subst h; rfl) | cases h
  ·cases h
 ·simp only [Option.some.injEq] at h; subst h; rfl
 ·simp only [Option.some.injEq] at h; subst h; rfl
 ·split at h
  ·split at h <;> first | (simp only [Option.some.injEq] at h; subst h; rfl) | cases h
  ·cases h
 ·cases h
theorem cOp_inv {cx : Cx} {inRow : Nat → Bool} {o : Oper} {ir : Ir} (h : cOp cx inRow o = some ir) :
  (∃ ox x, o.op = .assign ox ∧ cOpd cx ox = some x ∧ ir = .assign x) ∨ ((o.op = .assign (.const (.pointer none)) ∨ o.op = .assign (.const .nilFunc)) ∧ ir = .clear) ∨
  (∃ t oa ox i x y, o.op = .store t oa ox ∧ cx.P.info? t = some i ∧ cOpd cx oa = some x ∧ cOpd cx ox = some y ∧ (ir = .rstore i.size x y ∨ ir = .store i.size x y)) ∨
  (∃ k, o.op = .call k ∧ cCall cx k = some ir) ∨ plain ir = true := by
 unfold cOp at h
 split at h
 ·rw [Option.map_eq_some_iff] at h
  obtain ⟨x, _, rfl⟩ := h
  exact .inr (.inr (.inr (.inr rfl)))
 ·rename_i ox ho
  split at h
  ·simp only [Option.some.injEq] at h
   exact .inr (.inl ⟨.inl ho, h.symm⟩)
  ·simp only [Option.some.injEq] at h
   exact .inr (.inl ⟨.inr ho, h.symm⟩)
  ·rw [Option.map_eq_some_iff] at h
   obtain ⟨x, hx, rfl⟩ := h
   exact .inl ⟨_, x, ho, hx, rfl⟩
 ·refine .inr (.inr (.inr (.inr ?_)))
  split at h
  ·simp only [Option.some.injEq] at h; subst h; rfl
  ·cases h
 ·refine .inr (.inr (.inr (.inr ?_)))
  rw [Option.map_eq_some_iff] at h
  obtain ⟨x, _, rfl⟩ := h
  rfl
 ·refine .inr (.inr (.inr (.inr ?_)))
  rw [Option.map_eq_some_iff] at h
  obtain ⟨x, _, rfl⟩ := h
  rfl
 ·refine .inr (.inr (.inr (.inr ?_)))
  split at h
  ·rw [Option.map_eq_some_iff] at h
   obtain ⟨x, _, rfl⟩ := h
   rfl
  ·cases h
 ·refine .inr (.inr (.inr (.inr ?_)))
  split at h
  ·split at h
   ·simp only [Option.some.injEq] at h; subst h; rfl
   ·cases h
  ·cases h
 ·refine .inr (.inr (.inr (.inr ?_)))
  split at h
  ·simp only [Option.some.injEq] at h; subst h; rfl
  ·cases h
 ·rename_i t oa ox ho
  split at h
  ·rename_i x y i h1 h2 h3
   simp only [Option.some.injEq] at h
   refine .inr (.inr (.inl ⟨t, oa, ox, i, x, y, ho, h3, h1, h2, ?_⟩))
   subst h
   split
   ·split
    ·exact .inl rfl
    ·exact .inr rfl
   ·exact .inr rfl
  ·cases h
 ·refine .inr (.inr (.inr (.inr ?_)))
  rw [Option.map_eq_some_iff] at h
  obtain ⟨x, _, rfl⟩ := h
  rfl
 ·refine .inr (.inr (.inr (.inr ?_)))
  split at h
  ·simp only [Option.some.injEq] at h; subst h; rfl
  ·split at h <;> first | (simp only [Option.some.injEq] at h; subst h; rfl) | cases h
  ·cases h
 ·refine .inr (.inr (.inr (.inr ?_)))
  rw [Option.map_eq_some_iff] at h
  obtain ⟨x, _, rfl⟩ := h
  rfl
 ·refine .inr (.inr (.inr (.inr ?_)))
  split at h
  ·rw [Option.map_eq_some_iff] at h
   obtain ⟨x, _, rfl⟩ := h
   rfl
  ·cases h
 ·refine .inr (.inr (.inr (.inr ?_)))
  split at h
  ·split at h
   ·simp only [Option.some.injEq] at h; subst h; rfl
   ·cases h
  ·cases h
 ·refine .inr (.inr (.inr (.inr ?_)))
  split at h
  ·simp only [Option.some.injEq] at h; subst h; rfl
  ·cases h
 ·refine .inr (.inr (.inr (.inr ?_)))
  split at h
  ·simp only [Option.some.injEq] at h; subst h; rfl
  ·cases h
 ·refine .inr (.inr (.inr (.inr ?_)))
  split at h
  ·split at h
   ·cases h
   ·simp only [Option.some.injEq] at h; subst h; rfl
  ·cases h
 ·refine .inr (.inr (.inr (.inr ?_)))
  split at h
  ·split at h
   ·simp only [Option.some.injEq] at h; subst h; rfl
   ·cases h
  ·cases h
 ·refine .inr (.inr (.inr (.inr ?_)))
  split at h
  ·simp only [Option.some.injEq] at h; subst h; rfl
  ·cases h
 ·refine .inr (.inr (.inr (.inr ?_)))
  split at h
  ·simp only [Option.some.injEq] at h; subst h; rfl
  ·cases h
 ·refine .inr (.inr (.inr (.inr ?_)))
  rw [Option.map_eq_some_iff] at h
  obtain ⟨x, _, rfl⟩ := h
  rfl
 ·rename_i k ho
  exact .inr (.inr (.inr (.inl ⟨k, ho, h⟩)))
 ·cases h
section
variable {E : Env} {cx : Cx} {S : StA} {X : List (Cell Tg)} {C : Nat → Nat → Prop} {a : Act} {w w' : World}
theorem evalCall_plain {orac : Orac} {modes : Modes} {nt : Nat} {ir : Ir} (h : plain ir = true) : evalCall orac modes nt ir = evalIr nt ir := by
 cases ir <;> first | rfl | (simp [plain] at h; done)
theorem evalCall_call (orac : Orac) (modes : Modes) (nt g : Nat) (args : List Opd) : evalCall orac modes nt (.call g args) = (match modes g with
  | .mbox :: ms => match args with
   | x :: xs => if isMut ms then .fail else (rootOf x).bind fun r => (getS r).bind fun b => callBox orac g xs r b
   | [] => .fail
  | ms => if isMut ms then .fail else callVals orac g args []) := rfl
theorem sound_callBox {orac : Orac} (hf : Fits E cx) (h : Inv E S X C a w) (hb : E.base ≤ w.heap.size) (hO : ∀ g, Keeps' E.P E.sid orac g) {o : Oper} {k : Call} (ho : o.op = .call k) {f g : Nat} (hk : k.callee = .value (.func f)) (hg : cx.canon f = some g) {x : Opd} {xs : List Opd} (hc : mapO (cOpd cx) k.args.toList = some (x :: xs))
  {s : SU} {st1 : St} (hr : ((rootOf x).bind fun r => (getS r).bind fun b => callBox orac g xs r b).run (erS S) = some (s, st1)) : CallMakes E X a w o s st1 := by
 obtain ⟨C1, hi, _, hrd⟩ := all_rd h
 obtain ⟨r, st2, h1, h2⟩ := FM.bind_some hr
 clear hr
 cases hal : k.args.toList with
 | nil => rw [hal] at hc; simp [mapO] at hc
 | cons ox os =>
  rw [hal] at hc
  unfold mapO at hc
  cases hx : cOpd cx ox with
  | none => simp [hx] at hc
  | some x' =>
   cases hxs : mapO (cOpd cx) os with
   | none => simp [hx, hxs] at hc
   | some xs' =>
    simp only [hx, hxs, Option.some.injEq, List.cons.injEq] at hc
    obtain ⟨rfl, rfl⟩ := hc
    unfold rootOf at h1
    obtain ⟨sl, st3, h3, h4⟩ := FM.bind_some h1
    obtain ⟨rfl, s0, rfl, hop⟩ := opd_lift hf hi hx h3
    split at h4
    ·rename_i r' hk0
     obtain ⟨rfl, rfl⟩ := ret_run h4
     have hkv : s0.k = .ptr r 0 := by
      rw [er_kind] at hk0
      cases hk' : s0.k <;> rw [hk'] at hk0 <;> simp [Kd.er] at hk0 ⊢
      exact hk0
     have hv : ∃ b, boxAddr S r = some ⟨b, 0, none⟩ ∧ a.eval ox = .pointer (some ⟨b, 0, none⟩) := by
      cases hop with
      | slot j s0 hj hs hv => unfold SlV at hv; rw [hkv] at hv; exact hv
      | const agg vs s0 hk he hok hv h1' => cases agg <;> rw [hkv] at hk <;> simp at hk
      | fn g hv => simp at hkv
     obtain ⟨b, hba, hva⟩ := hv
     obtain ⟨bb, st4, h5, h6⟩ := FM.bind_some h2
     obtain ⟨h7, rfl⟩ := getS_run h5
     obtain ⟨o1, ho1, rfl⟩ := erS_some h7
     obtain ⟨k1, k2⟩ := callBox_lift hf hi hrd hb hO hxs ho1 h6
     have hex := exec_call (a := a) ho hk (opd_fn hf hg)
     have hargs : (k.args.map a.eval ++ #[]) = (.pointer (boxAddr S r) :: os.map a.eval).toArray := by
      rw [← Array.toList_inj]
      simp [hal, hva, hba]
     rw [hargs] at hex
     exact ⟨_, _, by rw [hex]; exact k1, k2⟩
    ·exact (fail_run h4).elim
theorem sound_evalCall {orac : Orac} {modes : Modes} (hf : Fits E cx) (h : Inv E S X C a w) (hb : E.base ≤ w.heap.size) (hO : ∀ g, Keeps' E.P E.sid orac g) {inRow : Nat → Bool} {o : Oper} {ir : Ir} (hc : cOp cx inRow o = some ir)
  {s : SU} {st1 : St} (hr : (evalCall orac modes cx.nt ir).run (erS S) = some (s, st1)) : Does E X a w o s st1 := by
 rcases cOp_inv hc with ⟨ox, x, _, _, rfl⟩ | ⟨_, rfl⟩ | ⟨t, oa, ox, i, x, y, _, _, _, _, rfl | rfl⟩ | ⟨k, ho, hk⟩ | hp
 ·exact (fail_run hr).elim
 ·exact (fail_run hr).elim
 ·exact (fail_run hr).elim
 ·exact (fail_run hr).elim
 ·rcases cCall_inv hk with ⟨f, g, xs, h1, h2, h3, rfl⟩ | ⟨f, xf, xs, h1, h2, h3, rfl⟩ | hp
  ·refine .inr ?_
   rw [evalCall_call] at hr
   split at hr
   ·split at hr
    ·split at hr
     ·exact (fail_run hr).elim
     ·exact sound_callBox hf h hb hO ho h1 h2 h3 hr
    ·exact (fail_run hr).elim
   ·split at hr
    ·exact (fail_run hr).elim
    ·exact sound_callVals hf h hb hO ho h1 h2 h3 hr
  ·exact .inr (sound_callv hf h hb hO ho h1 h2 h3 hr)
  ·rw [evalCall_plain hp] at hr
   exact .inl (sound_ir hf h hb hc hr)
 ·rw [evalCall_plain hp] at hr
  exact .inl (sound_ir hf h hb hc hr)
end
end Go.Vm
end
section
namespace Go.Vm
abbrev Home := Nat × Nat × Option Nat
theorem apart_cons {s c : Nat} {ix : Option Nat} {hs : List Home} (h : apartHomes ((s, c, ix) :: hs) = true) :
  (∀ ix', (s, c, ix') ∈ hs → ∃ i j, ix = some i ∧ ix' = some j ∧ i ≠ j) ∧ apartHomes hs = true := by
 simp only [apartHomes, Bool.and_eq_true, List.all_eq_true] at h
 refine ⟨fun ix' hm => ?_, h.2⟩
 have := h.1 (s, c, ix') hm
 simp only [ne_eq, not_true_eq_false, decide_false, Bool.false_or] at this
 cases ix with
 | none => simp at this
 | some i => cases ix' with
  | none => simp at this
  | some j => exact ⟨i, j, rfl, rfl, by simpa using this⟩
inductive Puts : List Home → List A → List A → StA → StA → Prop
 | nil (S : StA) : Puts [] [] [] S S
 | whole (s c : Nat) (t : Tg) (es : List (List A)) (f : Fl) (v : A) (hs : List Home) (us vs : List A) (S S' : StA) (hc : cellAt S s c = some ⟨.row t es, f⟩) (hf : f = .ow false ∨ ∃ i, f = .mp i)
   (h : Puts hs us vs (setRowA S s c v) S') : Puts ((s, c, none) :: hs) (.row t es :: us) (v :: vs) S S'
 | part (s c i : Nat) (t : Tg) (es es' : List (List A)) (f : Fl) (u v : A) (hs : List Home) (us vs : List A) (S S' : StA) (hc : cellAt S s c = some ⟨.row t es, f⟩) (hf : f = .ow false ∨ ∃ i, f = .mp i)
   (hu : es.flatten[i]? = some u) (he : setFlat es i [v] = some es') (h : Puts hs us vs (setRowA S s c (.row t es')) S') : Puts ((s, c, some i) :: hs) (u :: us) (v :: vs) S S'
theorem cellAt_setRowA {S : StA} {s c : Nat} {x : Cell Tg} (hx : cellAt S s c = some x) (v : A) (p q : Nat) : cellAt (setRowA S s c v) p q = if p = s ∧ q = c then some ⟨v, x.f⟩ else cellAt S p q := by
 obtain ⟨sl, hs, hc⟩ := cellAt_some hx
 have he : setRowA S s c v = S.set s ⟨sl.k, sl.cs.set c ⟨v, x.f⟩⟩ := by simp [setRowA, hs, hc]
 rw [he]
 have hlt : s < S.length := (List.getElem?_eq_some_iff.1 hs).1
 have hltc : c < sl.cs.length := (List.getElem?_eq_some_iff.1 hc).1
 unfold cellAt
 by_cases hp : p = s
 ·subst hp
  by_cases hq : q = c
  ·subst hq; simp [hlt, hltc]
  ·have : ¬ c = q := fun e => hq e.symm
   have hsp : S[p] = sl := (List.getElem?_eq_some_iff.1 hs).2
   simp [hlt, hq, this, hsp]
 ·have : ¬ s = p := fun e => hp e.symm
  simp [hp, this]
theorem own_setRowA {S : StA} {s c : Nat} {x : Cell Tg} (hx : cellAt S s c = some x) (ho : owns x.f = true) (v : A) (b : Nat) :
  (ownAll (setRowA S s c v) []).count b + x.v.blks.count b = (ownAll S []).count b + v.blks.count b := by
 obtain ⟨sl, hs, hc⟩ := cellAt_some hx
 have he : setRowA S s c v = S.set s ⟨sl.k, sl.cs.set c ⟨v, x.f⟩⟩ := by simp [setRowA, hs, hc]
 rw [he]
 have h1 := count_set_flatMap Sl.own b S s sl ⟨sl.k, sl.cs.set c ⟨v, x.f⟩⟩ hs
 have h2 := count_set_flatMap Cell.own b sl.cs c x ⟨v, x.f⟩ hc
 have h3 : (Sl.own ⟨sl.k, sl.cs.set c ⟨v, x.f⟩⟩).count b + (Cell.own x).count b = sl.own.count b + (Cell.own ⟨v, x.f⟩).count b := by
  unfold Sl.own
  rw [List.count_append, List.count_append, show Sl.boxOwn ⟨sl.k, sl.cs.set c ⟨v, x.f⟩⟩ = sl.boxOwn from rfl]
  simp only
  omega
 have h4 : Cell.own x = x.v.blks := own_blks ho
 have h5 : Cell.own ⟨v, x.f⟩ = v.blks := own_blks (x := ⟨v, x.f⟩) ho
 rw [h4, h5] at h3
 simp only [ownAll, List.flatMap_nil, List.append_nil]
 omega
theorem owns_of {f : Fl} (h : f = .ow false ∨ ∃ i, f = .mp i) : owns f = true := by
 rcases h with h | ⟨i, h⟩ <;> rw [h] <;> rfl
theorem Puts.count {hs : List Home} {us vs : List A} {S S' : StA} (h : Puts hs us vs S S') (b : Nat) :
  (ownAll S' []).count b + (us.flatMap VA.blks).count b = (ownAll S []).count b + (vs.flatMap VA.blks).count b := by
 induction h with
 | nil S => simp
 | whole s c t es f v hs us vs S S' hc hf h ih =>
  have := own_setRowA hc (owns_of hf) v b
  simp only [List.flatMap_cons, List.count_append] at this ⊢
  omega
 | part s c i t es es' f u v hs us vs S S' hc hf hu he h ih =>
  have h1 := own_setRowA hc (owns_of hf) (.row t es') b
  obtain ⟨k1, _, _⟩ := setFlat_some he
  have h2 := count_set_flatMap VA.blks b es.flatten i u v hu
  simp only [splice] at k1
  simp only [VA.blks, blkR_map, List.count_append, k1] at h1
  simp only [List.flatMap_cons, List.count_append]
  omega
theorem Puts.len {hs : List Home} {us vs : List A} {S S' : StA} (h : Puts hs us vs S S') : us.length = hs.length ∧ vs.length = hs.length := by
 induction h with
 | nil S => exact ⟨rfl, rfl⟩
 | whole s c t es f v hs us vs S S' hc hf h ih => simp [ih.1, ih.2]
 | part s c i t es es' f u v hs us vs S S' hc hf hu he h ih => simp [ih.1, ih.2]
theorem flatten_inj {α : Type} : ∀ {xs ys : List (List α)}, xs.map List.length = ys.map List.length → xs.flatten = ys.flatten → xs = ys
 | [], [], _, _ => rfl
 | [], y :: ys, h, _ => by simp at h
 | x :: xs, [], h, _ => by simp at h
 | x :: xs, y :: ys, h, hf => by
  simp only [List.map_cons, List.cons.injEq] at h
  simp only [List.flatten_cons] at hf
  obtain ⟨q1, q2⟩ := List.append_inj hf h.1
  rw [q1, flatten_inj h.2 q2]
def Off (hs : List Home) (S T : StA) : Prop := ∀ p q, (∀ ix, (p, q, ix) ∉ hs) ∨ (cellAt S p q = cellAt T p q) ∨
 ∃ t es es' f, cellAt S p q = some ⟨.row t es, f⟩ ∧ cellAt T p q = some ⟨.row t es', f⟩ ∧ es.map List.length = es'.map List.length ∧ (p, q, none) ∉ hs ∧ ∀ k, (p, q, some k) ∈ hs → es.flatten[k]? = es'.flatten[k]?
theorem Puts.other {hs : List Home} {us vs : List A} {S S' : StA} (h : Puts hs us vs S S') (ha : apartHomes hs = true) : ∀ (vs' : List A), vs'.length = hs.length → ∀ T, Off hs S T → ∃ T', Puts hs us vs' T T' := by
 induction h with
 | nil S =>
  intro vs' hl T _
  cases vs' with
  | nil => exact ⟨T, .nil T⟩
  | cons v r => simp at hl
 | whole s c t es f v hs us vs S S' hc hf h ih =>
  intro vs' hl T hoff
  cases vs' with
  | nil => simp at hl
  | cons v' r =>
   obtain ⟨a1, a2⟩ := apart_cons ha
   have hcT : cellAt T s c = some ⟨.row t es, f⟩ := by
    rcases hoff s c with h1 | h1 | ⟨_, _, _, _, _, _, _, h1, _⟩
    ·exact absurd (List.mem_cons_self ..) (h1 none)
    ·rw [← h1]; exact hc
    ·exact absurd (List.mem_cons_self ..) h1
   obtain ⟨T', hT'⟩ := ih a2 r (by simpa using hl) (setRowA T s c v') (fun p q => by
    by_cases hpq : p = s ∧ q = c
    ·obtain ⟨rfl, rfl⟩ := hpq
     refine .inl fun ix hm => ?_
     obtain ⟨i, j, h1, _⟩ := a1 ix hm
     cases h1
    ·rw [cellAt_setRowA hc, cellAt_setRowA hcT, if_neg hpq, if_neg hpq]
     rcases hoff p q with h1 | h1 | ⟨t1, e1, e2, f1, h1, h2, h3, h4, h5⟩
     ·exact .inl fun ix hm => h1 ix (List.mem_cons_of_mem _ hm)
     ·exact .inr (.inl h1)
     ·exact .inr (.inr ⟨t1, e1, e2, f1, h1, h2, h3, fun hm => h4 (List.mem_cons_of_mem _ hm), fun k hm => h5 k (List.mem_cons_of_mem _ hm)⟩))
   exact ⟨T', .whole s c t es f v' hs us r T T' hcT hf hT'⟩
 | part s c i t es es' f u v hs us vs S S' hc hf hu he h ih =>
  intro vs' hl T hoff
  cases vs' with
  | nil => simp at hl
  | cons v' r =>
   obtain ⟨a1, a2⟩ := apart_cons ha
   have hcT : ∃ esT, cellAt T s c = some ⟨.row t esT, f⟩ ∧ es.map List.length = esT.map List.length ∧ (∀ k, (s, c, some k) ∈ (s, c, some i) :: hs → es.flatten[k]? = esT.flatten[k]?) := by
    rcases hoff s c with h1 | h1 | ⟨t1, e1, e2, f1, h1, h2, h3, h4, h5⟩
    ·exact absurd (List.mem_cons_self ..) (h1 (some i))
    ·exact ⟨es, by rw [← h1]; exact hc, rfl, fun _ _ => rfl⟩
    ·rw [hc] at h1
     simp only [Option.some.injEq, Cell.mk.injEq, VA.row.injEq] at h1
     obtain ⟨⟨rfl, rfl⟩, rfl⟩ := h1
     exact ⟨e2, h2, h3, h5⟩
   obtain ⟨esT, hcT, hlen, hsame⟩ := hcT
   have huT : esT.flatten[i]? = some u := by rw [← hsame i (List.mem_cons_self ..)]; exact hu
   obtain ⟨esT', heT⟩ : ∃ esT', setFlat esT i [v'] = some esT' := by
    have hsp := splitIx_len hlen i
    simp only [setFlat] at he ⊢
    rw [← hsp]
    split at he
    ·rename_i p q hs0
     rw [hs0] at hsp
     split at he
     ·rename_i e0 he0
      have : p < esT.length := by
       have h1 := (List.getElem?_eq_some_iff.1 he0).1
       have h2 := congrArg List.length hlen
       simp at h2; omega
      rw [List.getElem?_eq_getElem this]
      exact ⟨_, rfl⟩
     ·cases he
    ·cases he
   obtain ⟨k1, k2, _⟩ := setFlat_some he
   obtain ⟨m1, m2, _⟩ := setFlat_some heT
   simp only [splice] at k1 m1
   obtain ⟨T', hT'⟩ := ih a2 r (by simpa using hl) (setRowA T s c (.row t esT')) (fun p q => by
    by_cases hpq : p = s ∧ q = c
    ·obtain ⟨rfl, rfl⟩ := hpq
     refine .inr (.inr ⟨t, es', esT', f, by rw [cellAt_setRowA hc, if_pos ⟨rfl, rfl⟩], by rw [cellAt_setRowA hcT, if_pos ⟨rfl, rfl⟩], by rw [k2, m2, hlen], fun hm => ?_, fun k hm => ?_⟩)
     ·obtain ⟨i', j', _, h2, _⟩ := a1 none hm
      cases h2
     ·obtain ⟨i', j', h1, h2, h3⟩ := a1 (some k) hm
      simp only [Option.some.injEq] at h1 h2
      subst h1; subst h2
      rw [k1, m1, List.getElem?_set_ne h3, List.getElem?_set_ne h3]
      exact hsame k (List.mem_cons_of_mem _ hm)
    ·rw [cellAt_setRowA hc, cellAt_setRowA hcT, if_neg hpq, if_neg hpq]
     rcases hoff p q with h1 | h1 | ⟨t1, e1, e2, f1, h1, h2, h3, h4, h5⟩
     ·exact .inl fun ix hm => h1 ix (List.mem_cons_of_mem _ hm)
     ·exact .inr (.inl h1)
     ·exact .inr (.inr ⟨t1, e1, e2, f1, h1, h2, h3, fun hm => h4 (List.mem_cons_of_mem _ hm), fun k hm => h5 k (List.mem_cons_of_mem _ hm)⟩))
   exact ⟨T', .part s c i t esT esT' f u v' hs us r T T' hcT hf huT heT hT'⟩
def Chgd (hs : List Home) (us vs : List A) (p q : Nat) (v v' : A) : Prop :=
 (v' = v ∧ ∀ ix, (p, q, ix) ∉ hs) ∨ (∃ j : Nat, hs[j]? = some (p, q, none) ∧ us[j]? = some v ∧ vs[j]? = some v') ∨
 ∃ t es es', v = .row t es ∧ v' = .row t es' ∧ es'.map List.length = es.map List.length ∧ (p, q, none) ∉ hs ∧ ∀ (k : Nat) (x' : A), es'.flatten[k]? = some x' →
  (es.flatten[k]? = some x' ∧ (p, q, some k) ∉ hs) ∨ ∃ (j : Nat) (o : A), hs[j]? = some (p, q, some k) ∧ us[j]? = some o ∧ es.flatten[k]? = some o ∧ vs[j]? = some x'
theorem Puts.cell {hs : List Home} {us vs : List A} {S S' : StA} (h : Puts hs us vs S S') (ha : apartHomes hs = true) : ∀ (p q : Nat) (x' : Cell Tg), cellAt S' p q = some x' → ∃ x, cellAt S p q = some x ∧ x'.f = x.f ∧ Chgd hs us vs p q x.v x'.v := by
 induction h with
 | nil S => exact fun p q x' hx' => ⟨x', hx', rfl, .inl ⟨rfl, by simp⟩⟩
 | whole s c t es f v hs us vs S S' hc hf h ih =>
  obtain ⟨a1, a2⟩ := apart_cons ha
  intro p q x' hx'
  obtain ⟨x, hx, hxf, hch⟩ := ih a2 p q x' hx'
  rw [cellAt_setRowA hc] at hx
  by_cases hpq : p = s ∧ q = c
  ·rw [if_pos hpq] at hx
   obtain ⟨rfl, rfl⟩ := hpq
   simp only [Option.some.injEq] at hx
   subst hx
   have hnone : ∀ ix, (p, q, ix) ∉ hs := by
    intro ix hm
    obtain ⟨i, j, h1, _⟩ := a1 ix hm
    cases h1
   refine ⟨_, hc, hxf, .inr (.inl ⟨0, rfl, rfl, ?_⟩)⟩
   rcases hch with ⟨h1, _⟩ | ⟨j, h1, _⟩ | ⟨t1, e1, e2, h1, h2, h3, _, h4⟩
   ·rw [h1]; rfl
   ·exact absurd (List.mem_of_getElem? h1) (hnone none)
   ·have : x'.v = v := by
     have h1 : v = .row t1 e1 := h1
     rw [h2, h1]
     congr 1
     have hfl : e2.flatten = e1.flatten := by
      apply List.ext_getElem?
      intro k
      cases hk : e2.flatten[k]? with
      | none =>
       have hl : e2.flatten.length = e1.flatten.length := by
        rw [List.length_flatten, List.length_flatten, h3]
       rw [List.getElem?_eq_none_iff] at hk
       rw [List.getElem?_eq_none (by omega)]
      | some x0 =>
       rcases h4 k x0 hk with ⟨h5, _⟩ | ⟨j, o, h5, _⟩
       ·exact h5.symm
       ·exact absurd (List.mem_of_getElem? h5) (hnone _)
     exact flatten_inj h3 hfl
    rw [this]; rfl
  ·rw [if_neg hpq] at hx
   refine ⟨x, hx, hxf, ?_⟩
   have hne : ∀ ix, (p, q, ix) ≠ ((s, c, none) : Home) := by
    intro ix e
    simp only [Prod.mk.injEq] at e
    exact hpq ⟨e.1, e.2.1⟩
   rcases hch with ⟨h1, h2⟩ | ⟨j, h1, h2, h3⟩ | ⟨t1, e1, e2, h1, h2, h3, h0, h4⟩
   ·exact .inl ⟨h1, fun ix hm => (List.mem_cons.1 hm).elim (hne ix) (h2 ix)⟩
   ·exact .inr (.inl ⟨j + 1, by simpa using h1, by simpa using h2, by simpa using h3⟩)
   ·refine .inr (.inr ⟨t1, e1, e2, h1, h2, h3, fun hm => (List.mem_cons.1 hm).elim (hne none) h0, fun k x0 hk => ?_⟩)
    rcases h4 k x0 hk with ⟨h5, h6⟩ | ⟨j, o, h5, h6, h7, h8⟩
    ·exact .inl ⟨h5, fun hm => (List.mem_cons.1 hm).elim (hne _) h6⟩
    ·exact .inr ⟨j + 1, o, by simpa using h5, by simpa using h6, h7, by simpa using h8⟩
 | part s c i t es es' f u v hs us vs S S' hc hf hu he h ih =>
  obtain ⟨a1, a2⟩ := apart_cons ha
  obtain ⟨k1, k2, _⟩ := setFlat_some he
  simp only [splice] at k1
  intro p q x' hx'
  obtain ⟨x, hx, hxf, hch⟩ := ih a2 p q x' hx'
  rw [cellAt_setRowA hc] at hx
  by_cases hpq : p = s ∧ q = c
  ·rw [if_pos hpq] at hx
   obtain ⟨rfl, rfl⟩ := hpq
   simp only [Option.some.injEq] at hx
   subst hx
   have hmem : ∀ k, (p, q, some k) ∈ (p, q, some i) :: hs → k = i ∨ (p, q, some k) ∈ hs := by
    intro k hm
    rcases List.mem_cons.1 hm with e | hm
    ·simp only [Prod.mk.injEq, Option.some.injEq] at e
     exact .inl e.2.2
    ·exact .inr hm
   have hilt : i < es.flatten.length := (List.getElem?_eq_some_iff.1 hu).1
   refine ⟨_, hc, hxf, .inr (.inr ?_)⟩
   rcases hch with ⟨h1, h2⟩ | ⟨j, h1, _⟩ | ⟨t1, e1, e2, h1, h2, h3, h0, h4⟩
   ·refine ⟨t, es, es', rfl, h1, k2, fun hm => ?_, fun k x0 hk => ?_⟩
    ·rcases List.mem_cons.1 hm with e | hm
     ·simp at e
     ·exact h2 _ hm
    by_cases hki : k = i
    ·subst hki
     rw [k1, List.getElem?_set_self hilt] at hk
     exact .inr ⟨0, u, rfl, rfl, hu, hk⟩
    ·rw [k1, List.getElem?_set_ne (fun e => hki e.symm)] at hk
     exact .inl ⟨hk, fun hm => (hmem k hm).elim hki (h2 _)⟩
   ·obtain ⟨i', j', _, h2, _⟩ := a1 none (List.mem_of_getElem? h1)
    cases h2
   ·have h1 : (VA.row t es' : A) = .row t1 e1 := h1
    simp only [VA.row.injEq] at h1
    obtain ⟨rfl, rfl⟩ := h1
    refine ⟨t, es, e2, rfl, h2, by rw [h3, k2], fun hm => (List.mem_cons.1 hm).elim (by simp) h0, fun k x0 hk => ?_⟩
    rcases h4 k x0 hk with ⟨h5, h6⟩ | ⟨j, o, h5, h6, h7, h8⟩
    ·by_cases hki : k = i
     ·subst hki
      rw [k1, List.getElem?_set_self hilt] at h5
      exact .inr ⟨0, u, rfl, rfl, hu, h5⟩
     ·rw [k1, List.getElem?_set_ne (fun e => hki e.symm)] at h5
      exact .inl ⟨h5, fun hm => (hmem k hm).elim hki h6⟩
    ·obtain ⟨i', j', q1, q2, q3⟩ := a1 _ (List.mem_of_getElem? h5)
     simp only [Option.some.injEq] at q1 q2
     subst q1; subst q2
     rw [k1, List.getElem?_set_ne q3] at h7
     exact .inr ⟨j + 1, o, by simpa using h5, by simpa using h6, h7, by simpa using h8⟩
  ·rw [if_neg hpq] at hx
   refine ⟨x, hx, hxf, ?_⟩
   have hne : ∀ ix, (p, q, ix) ≠ ((s, c, some i) : Home) := by
    intro ix e
    simp only [Prod.mk.injEq] at e
    exact hpq ⟨e.1, e.2.1⟩
   rcases hch with ⟨h1, h2⟩ | ⟨j, h1, h2, h3⟩ | ⟨t1, e1, e2, h1, h2, h3, h0, h4⟩
   ·exact .inl ⟨h1, fun ix hm => (List.mem_cons.1 hm).elim (hne ix) (h2 ix)⟩
   ·exact .inr (.inl ⟨j + 1, by simpa using h1, by simpa using h2, by simpa using h3⟩)
   ·refine .inr (.inr ⟨t1, e1, e2, h1, h2, h3, fun hm => (List.mem_cons.1 hm).elim (hne none) h0, fun k x0 hk => ?_⟩)
    rcases h4 k x0 hk with ⟨h5, h6⟩ | ⟨j, o, h5, h6, h7, h8⟩
    ·exact .inl ⟨h5, fun hm => (List.mem_cons.1 hm).elim (hne _) h6⟩
    ·exact .inr ⟨j + 1, o, by simpa using h5, by simpa using h6, h7, by simpa using h8⟩
theorem setRowA_slot (S : StA) (s c : Nat) (v : A) : (setRowA S s c v).length = S.length ∧ ∀ (i : Nat) (s' : SA), (setRowA S s c v)[i]? = some s' → ∃ s0, S[i]? = some s0 ∧ s'.k = s0.k ∧ s'.cs.length = s0.cs.length := by
 unfold setRowA
 split
 ·rename_i sl hs
  split
  ·rename_i x hx
   refine ⟨by simp, fun i s' h => ?_⟩
   rw [List.getElem?_set] at h
   split at h
   ·rename_i e; subst e
    have hlt := (List.getElem?_eq_some_iff.1 hs).1
    simp only [hlt, if_true, Option.some.injEq] at h
    subst h
    exact ⟨sl, hs, rfl, by simp⟩
   ·exact ⟨s', h, rfl, rfl⟩
  ·exact ⟨rfl, fun i s' h => ⟨s', h, rfl, rfl⟩⟩
 ·exact ⟨rfl, fun i s' h => ⟨s', h, rfl, rfl⟩⟩
theorem Puts.slot {hs : List Home} {us vs : List A} {S S' : StA} (h : Puts hs us vs S S') : S'.length = S.length ∧ ∀ (i : Nat) (s' : SA), S'[i]? = some s' → ∃ s0, S[i]? = some s0 ∧ s'.k = s0.k ∧ s'.cs.length = s0.cs.length := by
 induction h with
 | nil S => exact ⟨rfl, fun i s' h => ⟨s', h, rfl, rfl⟩⟩
 | whole s c t es f v hs us vs S S' hc hf h ih =>
  obtain ⟨h1, h2⟩ := setRowA_slot S s c v
  refine ⟨ih.1.trans h1, fun i s' hs' => ?_⟩
  obtain ⟨s1, k1, k2, k3⟩ := ih.2 i s' hs'
  obtain ⟨s0, m1, m2, m3⟩ := h2 i s1 k1
  exact ⟨s0, m1, k2.trans m2, k3.trans m3⟩
 | part s c i t es es' f u v hs us vs S S' hc hf hu he h ih =>
  obtain ⟨h1, h2⟩ := setRowA_slot S s c (.row t es')
  refine ⟨ih.1.trans h1, fun i s' hs' => ?_⟩
  obtain ⟨s1, k1, k2, k3⟩ := ih.2 i s' hs'
  obtain ⟨s0, m1, m2, m3⟩ := h2 i s1 k1
  exact ⟨s0, m1, k2.trans m2, k3.trans m3⟩
theorem Chgd.same {hs : List Home} {us vs : List A} {p q : Nat} {v v' : A} (h : Chgd hs us vs p q v v') (hn : ∀ ix, (p, q, ix) ∉ hs) : v' = v := by
 rcases h with ⟨h, _⟩ | ⟨j, h, _⟩ | ⟨t, es, es', rfl, rfl, h3, _, h4⟩
 ·exact h
 ·exact absurd (List.mem_of_getElem? h) (hn none)
 ·have hfl : es'.flatten = es.flatten := by
   apply List.ext_getElem?
   intro k
   cases hk : es'.flatten[k]? with
   | none =>
    have hl : es'.flatten.length = es.flatten.length := by rw [List.length_flatten, List.length_flatten, h3]
    rw [List.getElem?_eq_none_iff] at hk
    rw [List.getElem?_eq_none (by omega)]
   | some x0 =>
    rcases h4 k x0 hk with ⟨h5, _⟩ | ⟨j, o, h5, _⟩
    ·exact h5.symm
    ·exact absurd (List.mem_of_getElem? h5) (hn _)
  rw [flatten_inj h3 hfl]
theorem Puts.were {hs : List Home} {us vs : List A} {S S' : StA} (h : Puts hs us vs S S') (ha : apartHomes hs = true) : ∀ (j : Nat) (s c : Nat) (ix : Option Nat) (u : A), hs[j]? = some (s, c, ix) → us[j]? = some u →
  ∃ t es f, cellAt S s c = some ⟨.row t es, f⟩ ∧ match ix with | none => u = .row t es | some i => es.flatten[i]? = some u := by
 induction h with
 | nil S => intro j s c ix u hj; simp at hj
 | whole s c t es f v hs us vs S S' hc hf h ih =>
  obtain ⟨a1, a2⟩ := apart_cons ha
  intro j p q ix u hj hu
  cases j with
  | zero =>
   simp only [List.getElem?_cons_zero, Option.some.injEq, Prod.mk.injEq] at hj hu
   obtain ⟨rfl, rfl, rfl⟩ := hj
   subst hu
   exact ⟨t, es, f, hc, rfl⟩
  | succ j =>
   have hj : hs[j]? = some (p, q, ix) := by simpa using hj
   obtain ⟨t1, es1, f1, h1, h2⟩ := ih a2 j p q ix u hj (by simpa using hu)
   rw [cellAt_setRowA hc] at h1
   by_cases hpq : p = s ∧ q = c
   ·obtain ⟨rfl, rfl⟩ := hpq
    obtain ⟨i, j', h3, _⟩ := a1 ix (List.mem_of_getElem? hj)
    cases h3
   ·rw [if_neg hpq] at h1
    exact ⟨t1, es1, f1, h1, h2⟩
 | part s c i t es es' f u0 v hs us vs S S' hc hf hu0 he h ih =>
  obtain ⟨a1, a2⟩ := apart_cons ha
  obtain ⟨k1, _, _⟩ := setFlat_some he
  simp only [splice] at k1
  intro j p q ix u hj hu
  cases j with
  | zero =>
   simp only [List.getElem?_cons_zero, Option.some.injEq, Prod.mk.injEq] at hj hu
   obtain ⟨rfl, rfl, rfl⟩ := hj
   subst hu
   exact ⟨t, es, f, hc, hu0⟩
  | succ j =>
   have hj : hs[j]? = some (p, q, ix) := by simpa using hj
   obtain ⟨t1, es1, f1, h1, h2⟩ := ih a2 j p q ix u hj (by simpa using hu)
   rw [cellAt_setRowA hc] at h1
   by_cases hpq : p = s ∧ q = c
   ·rw [if_pos hpq] at h1
    obtain ⟨rfl, rfl⟩ := hpq
    simp only [Option.some.injEq, Cell.mk.injEq, VA.row.injEq] at h1
    obtain ⟨⟨rfl, rfl⟩, rfl⟩ := h1
    obtain ⟨i', j', h3, rfl, h5⟩ := a1 ix (List.mem_of_getElem? hj)
    simp only [Option.some.injEq] at h3
    subst h3
    refine ⟨t, es, f, hc, ?_⟩
    have h2 : es'.flatten[j']? = some u := h2
    rw [k1, List.getElem?_set_ne h5] at h2
    exact h2
   ·rw [if_neg hpq] at h1
    exact ⟨t1, es1, f1, h1, h2⟩
theorem rowAt_er {T : StA} {s c : Nat} {es : List (List V)} {f : Fl} (h : rowAt (erS T) s c = some (es, f)) : ∃ t esA, cellAt T s c = some ⟨.row t esA, f⟩ ∧ erR esA = es ∧ (f = .ow false ∨ ∃ i, f = .mp i) := by
 unfold rowAt at h
 rw [erS_get] at h
 cases hs : T[s]? with
 | none => rw [hs] at h; cases h
 | some sl =>
  rw [hs] at h
  simp only [Option.map_some, er_cells, List.getElem?_map] at h
  cases hc : sl.cs[c]? with
  | none => rw [hc] at h; cases h
  | some y =>
   rw [hc] at h
   simp only [Option.map_some] at h
   obtain ⟨v, fy⟩ := y
   simp only [Cell.er] at h
   split at h
   ·rename_i u es1 heq
    simp only [Option.some.injEq, Cell.mk.injEq] at heq
    simp only [Option.some.injEq, Prod.mk.injEq] at h
    obtain ⟨h1, rfl⟩ := heq
    obtain ⟨rfl, rfl⟩ := h
    obtain ⟨t', es', rfl, h2⟩ := er_row h1
    exact ⟨t', es', cellAt_of hs hc, h2, .inl rfl⟩
   ·rename_i u es1 i heq
    simp only [Option.some.injEq, Cell.mk.injEq] at heq
    simp only [Option.some.injEq, Prod.mk.injEq] at h
    obtain ⟨h1, rfl⟩ := heq
    obtain ⟨rfl, rfl⟩ := h
    obtain ⟨t', es', rfl, h2⟩ := er_row h1
    exact ⟨t', es', cellAt_of hs hc, h2, .inr ⟨i, rfl⟩⟩
   ·cases h
theorem putOuts_lift : ∀ {hs : List Home} {outs : List A} {T : StA} {st' : St}, putOuts hs (outs.map VA.er) (erS T) = some st' → ∃ us S', Puts hs us outs T S' ∧ erS S' = st'
 | [], [], T, st', h => by
  simp only [List.map_nil, putOuts, Option.some.injEq] at h
  exact ⟨[], T, .nil T, h⟩
 | [], v :: vs, T, st', h => by simp [putOuts] at h
 | (s, c, ix) :: hs, [], T, st', h => by simp [putOuts] at h
 | (s, c, ix) :: hs, v :: vs, T, st', h => by
  simp only [List.map_cons, putOuts] at h
  split at h
  ·cases h
  ·rename_i es f hrow
   obtain ⟨t, esA, hc, her, hf⟩ := rowAt_er hrow
   cases ix with
   | none =>
    simp only at h
    rw [← setRowA_er] at h
    obtain ⟨us, S', h1, h2⟩ := putOuts_lift h
    exact ⟨_, S', .whole s c t esA f v hs us vs T S' hc hf h1, h2⟩
   | some i =>
    simp only at h
    split at h
    ·rename_i es' hset
     rw [← her] at hset
     obtain ⟨esA', hsetA, rfl⟩ := setFlat_er (vs := [v]) hset
     have hlt : i < esA.flatten.length := by
      have := (setFlat_some hsetA).2.2 (by simp)
      simp only [List.length_cons, List.length_nil] at this
      omega
     have heq : setRow (erS T) s c (.row () (erR esA')) = erS (setRowA T s c (.row t esA')) := by rw [setRowA_er]; rfl
     rw [heq] at h
     obtain ⟨us, S', h1, h2⟩ := putOuts_lift h
     exact ⟨_, S', .part s c i t esA esA' f _ v hs us vs T S' hc hf (List.getElem?_eq_getElem hlt) hsetA h1, h2⟩
    ·cases h
end Go.Vm
end
section
namespace Go.Vm
section
variable {E : Env} {cx : Cx} {S : StA} {X : List (Cell Tg)} {C : Nat → Nat → Prop} {a : Act} {w w' : World}
theorem Puts.back {hs : List Home} {us vs : List A} {T T' : StA} (h : Puts hs us vs T T') {p q : Nat} {x : Cell Tg} (hx : cellAt T p q = some x) : ∃ x', cellAt T' p q = some x' := by
 obtain ⟨h1, h2⟩ := h.slot
 obtain ⟨sl, hs, hc⟩ := cellAt_some hx
 have hp : p < T'.length := by rw [h1]; exact (List.getElem?_eq_some_iff.1 hs).1
 obtain ⟨s0, k1, _, k3⟩ := h2 p T'[p] (List.getElem?_eq_getElem hp)
 rw [hs] at k1
 obtain rfl := Option.some.inj k1
 have hq : q < T'[p].cs.length := by rw [k3]; exact (List.getElem?_eq_some_iff.1 hc).1
 exact ⟨_, cellAt_of (List.getElem?_eq_getElem hp) (List.getElem?_eq_getElem hq)⟩
theorem own_at {p q : Nat} {x : Cell Tg} (hx : cellAt S p q = some x) (ho : owns x.f = true) {b : Nat} (hb : b ∈ x.v.blks) : 0 < (ownAll S []).count b := by
 have := own_in_slots hx ho hb
 simp only [ownAll, List.flatMap_nil, List.append_nil]
 exact List.count_pos_iff.2 this
theorem mend (h : Inv E S [] E.old a w) (hne : ∀ (i : Nat) (s : SA), S[i]? = some s → ∀ t src ix, s.k ≠ .ept t src ix) (hcalm : ∀ (i : Nat) (s : SA), S[i]? = some s → ∀ x ∈ s.cs, Calm x.f)
  {hs : List Home} {us outs : List A} {S' : StA} (hp : Puts hs us outs S S') (ha : apartHomes hs = true)
  (hfl : (∀ (s c : Nat) ix, (s, c, ix) ∈ hs → ∀ y, cellAt S s c = some y → y.f = .ow false) ∨ ∀ (s c : Nat) ix, (s, c, ix) ∈ hs → ∀ y, cellAt S s c = some y → ∃ i, y.f = .mp i)
  (hsz : w.heap.size ≤ w'.heap.size) (hblk : ∀ b, b < w.heap.size → b ∉ us.flatMap VA.blks → w'.heap[b]? = w.heap[b]?)
  (hout : ∀ (j : Nat) (u v : A), us[j]? = some u → outs[j]? = some v → Shp E.sid w' E.old v ∧ (∃ t es es', u = .row t es ∧ v = .row t es' ∧ es'.length = es.length) ∧ ∀ b ∈ v.blks, (w.heap.size ≤ b ∨ b ∈ us.flatMap VA.blks) ∧ b < w'.heap.size ∧ ∀ j, ¬ E.old b j)
  (hocnt : ∀ b, (outs.flatMap VA.blks).count b ≤ 1) (hb : E.base ≤ w.heap.size) : Inv E S' [] E.old a w' := by
 obtain ⟨hl1, hl2⟩ := hp.len
 obtain ⟨T, hT⟩ := hp.other ha (us.map fun _ => .row ⟨none, 0, 0⟩ []) (by simp [hl1]) S (fun p q => .inr (.inl rfl))
 have hhole : ∀ b, (ownAll T []).count b + (us.flatMap VA.blks).count b ≤ 1 := by
  intro b
  have h1 := hT.count b
  have h2 : ((us.map fun _ => (VA.row ⟨none, 0, 0⟩ [] : A)).flatMap VA.blks).count b = 0 := by
   rw [List.count_eq_zero]
   intro hm
   obtain ⟨v, hv, hbv⟩ := List.mem_flatMap.1 hm
   obtain ⟨_, _, rfl⟩ := List.mem_map.1 hv
   simp [VA.blks, blkR] at hbv
  have h3 := h.cnt b
  omega
 have hapart : ∀ {p q : Nat} {x : Cell Tg}, cellAt T p q = some x → owns x.f = true → ∀ b ∈ x.v.blks, b ∉ us.flatMap VA.blks := by
  intro p q x hx ho b hbx hbu
  have h1 := own_at hx ho hbx
  have h2 := List.count_pos_iff.2 hbu
  have := hhole b
  omega
 have husown : ∀ b ∈ us.flatMap VA.blks, b ∈ ownAll S [] := by
  intro b hbu
  have h1 := hT.count b
  have h2 : ((us.map fun _ => (VA.row ⟨none, 0, 0⟩ [] : A)).flatMap VA.blks).count b = 0 := by
   rw [List.count_eq_zero]
   intro hm
   obtain ⟨v, hv, hbv⟩ := List.mem_flatMap.1 hm
   obtain ⟨_, _, rfl⟩ := List.mem_map.1 hv
   simp [VA.blks, blkR] at hbv
  have h3 := List.count_pos_iff.2 hbu
  exact List.count_pos_iff.1 (by omega)
 have hlt0 : ∀ b ∈ ownAll S [], b < w.heap.size := fun b hb => (h.ownlt b hb).1
 have husbase : ∀ b ∈ us.flatMap VA.blks, ((∀ (s c : Nat) ix, (s, c, ix) ∈ hs → ∀ y, cellAt S s c = some y → y.f = .ow false) → E.base ≤ b) ∧ (E.base ≤ b ∨ E.chg b) := by
  intro b hbu
  obtain ⟨u, hu, hbu⟩ := List.mem_flatMap.1 hbu
  obtain ⟨j, hj⟩ := List.mem_iff_getElem?.1 hu
  have hjl : j < hs.length := by rw [← hl1]; exact (List.getElem?_eq_some_iff.1 hj).1
  obtain ⟨⟨s, c, ix⟩, hjh⟩ : ∃ q, hs[j]? = some q := ⟨_, List.getElem?_eq_getElem hjl⟩
  obtain ⟨t, es, f, hc, hm⟩ := hp.were ha j s c ix u hjh hj
  obtain ⟨sl, hsl, hcl⟩ := cellAt_some hc
  have hk := h.cells s sl hsl _ (List.mem_of_getElem? hcl)
  have hbin : b ∈ (VA.row t es : A).blks := by
   cases ix with
   | none => rw [hm] at hbu; exact hbu
   | some i => exact blks_mem (List.mem_of_getElem? hm) hbu
  rcases hfl with hfl | hfl
  ·have hf : f = .ow false := hfl s c ix (List.mem_of_getElem? hjh) _ hc
   subst hf
   exact ⟨fun _ => hk.2.2 b hbin, .inl (hk.2.2 b hbin)⟩
  ·obtain ⟨i, hf⟩ := hfl s c ix (List.mem_of_getElem? hjh) _ hc
   have hf : f = .mp i := hf
   subst hf
   refine ⟨fun ho => ?_, hk.2.2 b hbin⟩
   have := ho s c ix (List.mem_of_getElem? hjh) _ hc
   simp at this
 have hkeep : ∀ b ∈ ownAll S [], b ∉ us.flatMap VA.blks → w'.heap[b]? = w.heap[b]? := fun b hb hn => hblk b (hlt0 b hb) hn
 have hcell : ∀ {p q : Nat} {x' : Cell Tg}, cellAt S' p q = some x' → ∃ x, cellAt S p q = some x ∧ x'.f = x.f ∧ x'.v.val E.sid = x.v.val E.sid ∧ (owns x'.f = true ∨ x' = x) ∧ (owns x'.f = true → COk E w' E.old S' [] x') := by
  intro p q x' hx'
  obtain ⟨x, hx, hxf, hch⟩ := hp.cell ha p q x' hx'
  obtain ⟨sl, hsl, hcl⟩ := cellAt_some hx
  have hk := h.cells p sl hsl x (List.mem_of_getElem? hcl)
  obtain ⟨xT, hxT⟩ := hT.back hx
  obtain ⟨x1, hx1, hxTf, hchT⟩ := hT.cell ha p q xT hxT
  rw [hx] at hx1
  obtain rfl := Option.some.inj hx1
  by_cases hn : ∀ ix, (p, q, ix) ∉ hs
  ·have hv := hch.same hn
   have hvT := hchT.same hn
   have hxx : x' = x := by
    obtain ⟨v', f'⟩ := x'
    obtain ⟨v, f⟩ := x
    simp only at hv hxf
    subst hv; subst hxf; rfl
   refine ⟨x, hx, hxf, by rw [hv], .inr hxx, fun ho => ?_⟩
   rw [hxx] at ho ⊢
   have hw : ∀ b ∈ x.v.blks, w'.heap[b]? = w.heap[b]? := by
    intro b hb'
    refine hkeep b (List.count_pos_iff.1 (own_at hx ho hb')) (hapart hxT (by rw [hxTf]; exact ho) b (by rw [hvT]; exact hb'))
   obtain ⟨v, f⟩ := x
   cases f with
   | ow g => exact ⟨hk.1, hk.2.1.world hw (fun _ _ _ => id), hk.2.2⟩
   | nw g => exact ⟨hk.1, hk.2.1.world hw (fun _ _ _ => id), hk.2.2⟩
   | mp i => exact ⟨hk.1.mono (fun _ _ _ => id) hw, hk.2⟩
   | _ => simp [owns] at ho
  ·obtain ⟨ix0, hix0⟩ : ∃ ix, (p, q, ix) ∈ hs := Classical.byContradiction fun hc => hn fun ix hm => hc ⟨ix, hm⟩
   have hflag : x.f = .ow false ∨ ∃ i, x.f = .mp i := by
    rcases hfl with hfl | hfl
    ·exact .inl (hfl p q ix0 hix0 x hx)
    ·exact .inr (hfl p q ix0 hix0 x hx)
   have ho : owns x'.f = true := by rw [hxf]; exact owns_of hflag
   have key : Shp E.sid w' E.old x'.v ∧ (∃ t es es', x.v = .row t es ∧ x'.v = .row t es' ∧ es'.length = es.length) ∧ ∀ b ∈ x'.v.blks, b ∈ x.v.blks ∨ w.heap.size ≤ b ∨ b ∈ us.flatMap VA.blks := by
    have hxshp : Shp E.sid w E.old x.v := by
     obtain ⟨v, f⟩ := x
     rcases hflag with hf | ⟨i, hf⟩
     ·simp only at hf; subst hf
      have := hk.2.1
      simpa [Shp'] using this
     ·simp only at hf; subst hf
      exact hk.1
    rcases hch with ⟨_, h2⟩ | ⟨j, h1, h2, h3⟩ | ⟨t, es, es', hv, hv', hlen, hnone, hpt⟩
    ·exact absurd hix0 (h2 ix0)
    ·obtain ⟨q1, q2, q3⟩ := hout j _ _ h2 h3
     exact ⟨q1, q2, fun b hb' => .inr (q3 b hb').1⟩
    ·have hel : es'.length = es.length := by
      have := congrArg List.length hlen
      simpa using this
     have hel2 : es'.flatten.length = es.flatten.length := by rw [List.length_flatten, List.length_flatten, hlen]
     obtain ⟨esT, hvT, hptT⟩ : ∃ esT, xT.v = .row t esT ∧ ∀ (k : Nat) (c : A), es.flatten[k]? = some c → (p, q, some k) ∉ hs → esT.flatten[k]? = some c := by
      rcases hchT with ⟨e1, e2⟩ | ⟨j, e1, _⟩ | ⟨t1, e0, eT, e1, e2, e3, _, e4⟩
      ·exact absurd hix0 (e2 ix0)
      ·exact absurd (List.mem_of_getElem? e1) hnone
      ·rw [hv] at e1
       simp only [VA.row.injEq] at e1
       obtain ⟨rfl, rfl⟩ := e1
       refine ⟨eT, e2, fun k c hc hk => ?_⟩
       have hlT : eT.flatten.length = es.flatten.length := by rw [List.length_flatten, List.length_flatten, e3]
       have hkl : k < eT.flatten.length := by rw [hlT]; exact (List.getElem?_eq_some_iff.1 hc).1
       rcases e4 k _ (List.getElem?_eq_getElem hkl) with ⟨e5, _⟩ | ⟨j, o, e5, _⟩
       ·rw [List.getElem?_eq_getElem hkl, ← e5, hc]
       ·exact absurd (List.mem_of_getElem? e5) hk
     have hoT : owns xT.f = true := by rw [hxTf]; exact owns_of hflag
     have hfree : ∀ (k : Nat) (c : A), es.flatten[k]? = some c → (p, q, some k) ∉ hs → ∀ b ∈ c.blks, w'.heap[b]? = w.heap[b]? := by
      intro k c hc hk' b hb'
      refine hkeep b (List.count_pos_iff.1 (own_at hx (owns_of hflag) (by rw [hv]; exact blks_mem (List.mem_of_getElem? hc) hb'))) (hapart hxT hoT b ?_)
      rw [hvT]; exact blks_mem (List.mem_of_getElem? (hptT k c hc hk')) hb'
     have hval : es'.flatten.map (VA.val E.sid) = es.flatten.map (VA.val E.sid) := by
      apply List.ext_getElem?
      intro k
      rw [List.getElem?_map, List.getElem?_map]
      cases hk' : es'.flatten[k]? with
      | none =>
       rw [List.getElem?_eq_none_iff] at hk'
       rw [List.getElem?_eq_none (by omega)]
      | some c' =>
       rcases hpt k c' hk' with ⟨e1, _⟩ | ⟨j, o, _, e2, e3, e4⟩
       ·rw [e1]
       ·obtain ⟨_, ⟨t1, e5, e6, rfl, rfl, e7⟩, _⟩ := hout j o c' e2 e4
        rw [e3]
        simp [VA.val, e7]
     have hshel : ∀ c' ∈ es'.flatten, Shp E.sid w' E.old c' := by
      intro c' hc'
      obtain ⟨k, hk'⟩ := List.mem_iff_getElem?.1 hc'
      rcases hpt k c' hk' with ⟨e1, e2⟩ | ⟨j, o, _, e2, e3, e4⟩
      ·rw [hv] at hxshp
       exact (hxshp.el (List.mem_of_getElem? e1)).mono (fun _ _ _ => id) (hfree k c' e1 e2)
      ·exact (hout j o c' e2 e4).1
     refine ⟨?_, ⟨t, es, es', hv, hv', hel⟩, fun b hb' => ?_⟩
     ·rw [hv] at hxshp
      rw [hv']
      cases hxshp with
      | nil k0 =>
       have : es' = [] := List.eq_nil_of_length_eq_zero (by rw [hel]; rfl)
       rw [this]; exact .nil k0
      | row b0 cap k0 _ cur e0 hb0 hcap hmax hsize hkk hk0 hnil htake hfr hr =>
       have hb0x : b0 ∈ x.v.blks := by rw [hv]; simp [VA.blks]
       have hw0 : w'.heap[b0]? = w.heap[b0]? := by
        refine hkeep b0 (List.count_pos_iff.1 (own_at hx (owns_of hflag) hb0x)) (hapart hxT hoT b0 ?_)
        rw [hvT]; simp [VA.blks]
       refine .row b0 cap k0 es' cur e0 (hw0.trans hb0) (by rw [hel]; exact hcap) hmax hsize (fun e he => ?_) hk0 (fun he => hnil (List.eq_nil_of_length_eq_zero (by rw [← hel, he]; rfl))) (by rw [hel, htake, hval]) (fun j hj => hfr j (by rw [← hel]; exact hj)) hshel
       have : e.length ∈ es'.map List.length := List.mem_map_of_mem he
       rw [hlen] at this
       obtain ⟨e2, he2, heq⟩ := List.mem_map.1 this
       rw [← heq]; exact hkk e2 he2
     ·rw [hv'] at hb'
      simp only [VA.blks, blkR_map, List.mem_append] at hb'
      rcases hb' with hb' | hb'
      ·refine .inl ?_
       rw [hv]
       simp only [VA.blks, List.mem_append]
       exact .inl hb'
      ·obtain ⟨c', hc', hbc⟩ := List.mem_flatMap.1 hb'
       obtain ⟨k, hk'⟩ := List.mem_iff_getElem?.1 hc'
       rcases hpt k c' hk' with ⟨e1, e2⟩ | ⟨j, o, _, e2, e3, e4⟩
       ·refine .inl ?_
        rw [hv]; exact blks_mem (List.mem_of_getElem? e1) hbc
       ·exact .inr ((hout j o c' e2 e4).2.2 b hbc).1
   obtain ⟨k1, ⟨t, es, es', hv, hv', hlen⟩, k3⟩ := key
   refine ⟨x, hx, hxf, by rw [hv, hv']; simp [VA.val, hlen], .inl ho, fun _ => ?_⟩
   obtain ⟨v', f'⟩ := x'
   obtain ⟨v, f⟩ := x
   simp only at hv hv' hxf hflag k1 k3
   subst hxf; subst hv; subst hv'
   rcases hflag with hf | ⟨i, hf⟩
   ·subst hf
    refine ⟨rfl, by simpa [Shp'] using k1, fun b hb' => ?_⟩
    rcases k3 b hb' with h1 | h1 | h1
    ·exact hk.2.2 b h1
    ·omega
    ·refine (husbase b h1).1 ?_
     rcases hfl with hfl | hfl
     ·exact hfl
     ·obtain ⟨i, h2⟩ := hfl p q ix0 hix0 _ hx
      simp at h2
   ·subst hf
    obtain ⟨_, ⟨t1, es1, e1, e2⟩, e3⟩ := hk
    have e1 : (VA.row t es : A) = .row t1 es1 := e1
    simp only [VA.row.injEq] at e1
    obtain ⟨rfl, rfl⟩ := e1
    refine ⟨k1, ⟨_, _, rfl, by rw [hlen]; exact e2⟩, fun b hb' => ?_⟩
    rcases k3 b hb' with h1 | h1 | h1
    ·exact e3 b h1
    ·exact .inl (by omega)
    ·exact (husbase b h1).2
 obtain ⟨hsl1, hsl2⟩ := hp.slot
 have hcount : ∀ b, (ownAll S' []).count b ≤ 1 := by
  intro b
  have h1 := hp.count b
  have h2 := h.cnt b
  have h3 := hocnt b
  by_cases hbu : b ∈ us.flatMap VA.blks
  ·have := List.count_pos_iff.2 hbu
   omega
  ·have h4 : (us.flatMap VA.blks).count b = 0 := List.count_eq_zero.2 hbu
   by_cases hbo : b ∈ outs.flatMap VA.blks
   ·obtain ⟨v, hv, hbv⟩ := List.mem_flatMap.1 hbo
    obtain ⟨j, hj⟩ := List.mem_iff_getElem?.1 hv
    have hjl : j < us.length := by rw [hl1, ← hl2]; exact (List.getElem?_eq_some_iff.1 hj).1
    have := ((hout j _ v (List.getElem?_eq_getElem hjl) hj).2.2 b hbv).1
    rcases this with h5 | h5
    ·have : (ownAll S []).count b = 0 := by
      rw [List.count_eq_zero]
      intro hm
      have := hlt0 b hm
      omega
     omega
    ·exact absurd h5 hbu
   ·have := List.count_eq_zero.2 hbo
    omega
 refine h.remake ⟨hsl1, fun i s' hs' => ?_, hne, hcalm⟩ (fun i s' hs' x hx ho => ?_) hcount (fun b hb' => ?_) (fun s' hs' b hb' => ?_) (fun b j hj => ?_) hsz
 ·obtain ⟨s0, k1, k2, k3⟩ := hsl2 i s' hs'
  refine ⟨s0, k1, k2, ?_, fun x hx => ?_⟩
  ·apply List.ext_getElem?
   intro q
   rw [List.getElem?_map, List.getElem?_map]
   cases hq : s'.cs[q]? with
   | none =>
    rw [List.getElem?_eq_none_iff] at hq
    rw [List.getElem?_eq_none (by omega)]
   | some x' =>
    obtain ⟨x, hx, _, hv, _⟩ := hcell (cellAt_of hs' hq)
    obtain ⟨s1, e1, e2⟩ := cellAt_some hx
    rw [k1] at e1
    obtain rfl := Option.some.inj e1
    rw [e2]
    simp only [Option.map_some, hv]
  ·obtain ⟨q, hq⟩ := List.mem_iff_getElem?.1 hx
   obtain ⟨x0, hx0, _, _, h4, _⟩ := hcell (cellAt_of hs' hq)
   refine h4.imp id (fun e => ?_)
   obtain ⟨s1, e1, e2⟩ := cellAt_some hx0
   rw [k1] at e1
   obtain rfl := Option.some.inj e1
   rw [e]; exact List.mem_of_getElem? e2
 ·obtain ⟨q, hq⟩ := List.mem_iff_getElem?.1 hx
  obtain ⟨x0, _, _, _, _, h5⟩ := hcell (cellAt_of hs' hq)
  exact h5 ho
 ·have h1 := hp.count b
  have h2 := List.count_pos_iff.2 hb'
  by_cases hbo : b ∈ outs.flatMap VA.blks
  ·obtain ⟨v, hv, hbv⟩ := List.mem_flatMap.1 hbo
   obtain ⟨j, hj⟩ := List.mem_iff_getElem?.1 hv
   have hjl : j < us.length := by rw [hl1, ← hl2]; exact (List.getElem?_eq_some_iff.1 hj).1
   exact ((hout j _ v (List.getElem?_eq_getElem hjl) hj).2.2 b hbv).2
  ·have := List.count_eq_zero.2 hbo
   have hm : b ∈ ownAll S [] := List.count_pos_iff.1 (by omega)
   have := h.ownlt b hm
   exact ⟨by omega, this.2⟩
 ·obtain ⟨i, hi⟩ := List.mem_iff_getElem?.1 hs'
  refine hkeep b (h.boxBlk hi hb') (fun hbu => ?_)
  obtain ⟨u, hu, hbu⟩ := List.mem_flatMap.1 hbu
  obtain ⟨j, hj⟩ := List.mem_iff_getElem?.1 hu
  have hjl : j < hs.length := by rw [← hl1]; exact (List.getElem?_eq_some_iff.1 hj).1
  obtain ⟨⟨s, c, ix⟩, hjh⟩ : ∃ q, hs[j]? = some q := ⟨_, List.getElem?_eq_getElem hjl⟩
  obtain ⟨t, es, f, hc, hm⟩ := hp.were ha j s c ix u hjh hj
  have hbin : b ∈ (VA.row t es : A).blks := by
   cases ix with
   | none => rw [hm] at hbu; exact hbu
   | some i => exact blks_mem (List.mem_of_getElem? hm) hbu
  obtain ⟨sl, hsl, hcl⟩ := cellAt_some hc
  have ho : owns f = true := by
   rcases hfl with hfl | hfl
   ·have := hfl s c ix (List.mem_of_getElem? hjh) _ hc
    simp only at this; subst this; rfl
   ·obtain ⟨i, this⟩ := hfl s c ix (List.mem_of_getElem? hjh) _ hc
    simp only at this; subst this; rfl
  exact h.boxApart hi hb' (mem_cellsAll hsl (List.mem_of_getElem? hcl)) (own_of (x := ⟨.row t es, f⟩) ho hbin)
 ·have hbl := h.clt b j hj
  refine hblk b hbl (fun hbu => ?_)
  exact (h.ownlt b (husown b hbu)).2 j hj
end
end Go.Vm
end
section
namespace Go.Vm
def mpCellsA : Nat → List (Cell Tg) → List (Cell Tg)
 | _, [] => []
 | i, x :: xs => match x.f with
  | .sc | .nl => x :: mpCellsA i xs
  | _ => ⟨x.v, .mp i⟩ :: mpCellsA (i + 1) xs
def rowsIn : List (Cell Tg) → List A
 | [] => []
 | x :: xs => match x.f with
  | .sc | .nl => rowsIn xs
  | _ => x.v :: rowsIn xs
theorem mpCellsA_er : ∀ (cs : List (Cell Tg)) (i : Nat), (mpCellsA i cs).map Cell.er = mpCells i (cs.map Cell.er)
 | [], _ => rfl
 | x :: xs, i => by
  obtain ⟨v, f⟩ := x
  cases f <;> simp [mpCellsA, mpCells, Cell.er, mpCellsA_er xs]
theorem mpCellsA_v : ∀ (cs : List (Cell Tg)) (i : Nat), (mpCellsA i cs).map (·.v) = cs.map (·.v)
 | [], _ => rfl
 | x :: xs, i => by
  obtain ⟨v, f⟩ := x
  cases f <;> simp [mpCellsA, mpCellsA_v xs]
theorem mpCellsA_mem : ∀ {cs : List (Cell Tg)} {i : Nat} {x : Cell Tg}, x ∈ mpCellsA i cs → ((x.f = .sc ∨ x.f = .nl) ∧ x ∈ cs) ∨ ∃ j, x.f = .mp (i + j) ∧ (rowsIn cs)[j]? = some x.v
 | [], i, x, h => by simp [mpCellsA] at h
 | y :: ys, i, x, h => by
  have keep : (y.f = .sc ∨ y.f = .nl) → mpCellsA i (y :: ys) = y :: mpCellsA i ys → rowsIn (y :: ys) = rowsIn ys → ((x.f = .sc ∨ x.f = .nl) ∧ x ∈ y :: ys) ∨ ∃ j, x.f = .mp (i + j) ∧ (rowsIn (y :: ys))[j]? = some x.v := by
   intro hy e1 e2
   rw [e1] at h
   rcases List.mem_cons.1 h with rfl | h
   ·exact .inl ⟨hy, List.mem_cons_self ..⟩
   ·rw [e2]
    exact (mpCellsA_mem h).imp (fun h => ⟨h.1, List.mem_cons_of_mem _ h.2⟩) id
  have other : mpCellsA i (y :: ys) = ⟨y.v, .mp i⟩ :: mpCellsA (i + 1) ys → rowsIn (y :: ys) = y.v :: rowsIn ys → ((x.f = .sc ∨ x.f = .nl) ∧ x ∈ y :: ys) ∨ ∃ j, x.f = .mp (i + j) ∧ (rowsIn (y :: ys))[j]? = some x.v := by
   intro e1 e2
   rw [e1] at h
   rcases List.mem_cons.1 h with rfl | h
   ·exact .inr ⟨0, rfl, by rw [e2]; rfl⟩
   ·rcases mpCellsA_mem h with h | ⟨j, h1, h2⟩
    ·exact .inl ⟨h.1, List.mem_cons_of_mem _ h.2⟩
    ·exact .inr ⟨j + 1, by rw [h1]; congr 1; omega, by rw [e2]; simpa using h2⟩
  obtain ⟨v, f⟩ := y
  cases f <;> first | exact keep (.inl rfl) rfl rfl | exact keep (.inr rfl) rfl rfl | exact other rfl rfl
theorem mpCellsA_own : ∀ (cs : List (Cell Tg)) (i : Nat), (mpCellsA i cs).flatMap Cell.own = (rowsIn cs).flatMap VA.blks
 | [], _ => rfl
 | x :: xs, i => by
  obtain ⟨v, f⟩ := x
  cases f <;> simp [mpCellsA, rowsIn, Cell.own, Go.Vm.hold, isOs, owns, mpCellsA_own xs]
theorem homes_len : ∀ {cs : List (Cell Tg)} {s c : Nat} {hs : List Home}, homes s c (cs.map Cell.er) = some hs →
  hs.length = (rowsIn cs).length ∧ ∀ (j : Nat) (h : Home) (u : A), hs[j]? = some h → (rowsIn cs)[j]? = some u → ∃ (k : Nat) (x : Cell Tg), cs[k]? = some x ∧ x.v = u ∧ homeOf s (c + k) x.er = some h
 | [], s, c, hs, h => by
  simp only [List.map_nil, homes, Option.some.injEq] at h; subst h
  exact ⟨rfl, by simp⟩
 | x :: xs, s, c, hs, h => by
  have keep : homes s (c + 1) (xs.map Cell.er) = some hs → rowsIn (x :: xs) = rowsIn xs →
    hs.length = (rowsIn (x :: xs)).length ∧ ∀ (j : Nat) (h : Home) (u : A), hs[j]? = some h → (rowsIn (x :: xs))[j]? = some u → ∃ (k : Nat) (y : Cell Tg), (x :: xs)[k]? = some y ∧ y.v = u ∧ homeOf s (c + k) y.er = some h := by
   intro h e
   obtain ⟨h1, h2⟩ := homes_len h
   rw [e]
   refine ⟨h1, fun j hh u hj hu => ?_⟩
   obtain ⟨k, y, k1, k2, k3⟩ := h2 j hh u hj hu
   exact ⟨k + 1, y, by simpa using k1, k2, by rw [← k3]; congr 1; omega⟩
  have other : (match homeOf s c x.er, homes s (c + 1) (xs.map Cell.er) with | some h, some hs => some (h :: hs) | _, _ => none) = some hs → rowsIn (x :: xs) = x.v :: rowsIn xs →
    hs.length = (rowsIn (x :: xs)).length ∧ ∀ (j : Nat) (h : Home) (u : A), hs[j]? = some h → (rowsIn (x :: xs))[j]? = some u → ∃ (k : Nat) (y : Cell Tg), (x :: xs)[k]? = some y ∧ y.v = u ∧ homeOf s (c + k) y.er = some h := by
   intro h e
   split at h
   ·rename_i h0 hs0 e1 e2
    simp only [Option.some.injEq] at h; subst h
    obtain ⟨h1, h2⟩ := homes_len e2
    rw [e]
    refine ⟨by simp [h1], fun j hh u hj hu => ?_⟩
    cases j with
    | zero =>
     simp only [List.getElem?_cons_zero, Option.some.injEq] at hj hu
     exact ⟨0, x, rfl, hu, by rw [Nat.add_zero, ← hj]; exact e1⟩
    | succ j =>
     obtain ⟨k, y, k1, k2, k3⟩ := h2 j hh u (by simpa using hj) (by simpa using hu)
     exact ⟨k + 1, y, by simpa using k1, k2, by rw [← k3]; congr 1; omega⟩
   ·cases h
  obtain ⟨v, f⟩ := x
  cases f <;> first | exact keep h rfl | exact other h rfl
mutual
def upA : V → A
 | .int k n => .int k n
 | .bool b => .bool b
 | .str s => .str s
 | .row _ es => .row ⟨none, 0, 0⟩ (upR es)
 | .ptr _ cs => .ptr ⟨none, 0, 0⟩ (upL cs)
 | .fn g caps => .fn g (upL caps)
def upL : List V → List A
 | [] => []
 | c :: cs => upA c :: upL cs
def upR : List (List V) → List (List A)
 | [] => []
 | e :: es => upL e :: upR es
end
mutual
theorem upA_er : ∀ v : V, (upA v).er = v
 | .int _ _ => rfl
 | .bool _ => rfl
 | .str _ => rfl
 | .row _ es => by rw [upA, VA.er, upR_er es]
 | .ptr _ cs => by rw [upA, VA.er, upL_er cs]
 | .fn _ caps => by rw [upA, VA.er, upL_er caps]
theorem upL_er : ∀ cs : List V, erL (upL cs) = cs
 | [] => rfl
 | c :: cs => by rw [upL, erL, upA_er c, upL_er cs]
theorem upR_er : ∀ es : List (List V), erR (upR es) = es
 | [] => rfl
 | e :: es => by rw [upR, erR, upL_er e, upR_er es]
end
section
variable {E : Env} {cx : Cx} {S : StA} {X : List (Cell Tg)} {C : Nat → Nat → Prop} {a : Act} {w w' : World}
theorem home_val (h : Inv E S X C a w) {s c : Nat} {x : Cell Tg} (hx : cellAt S s c = some x) {p q : Nat} {ix : Option Nat} (hh : homeOf s c x.er = some (p, q, ix)) {t : Tg} {es : List (List A)} {f : Fl} (hy : cellAt S p q = some ⟨.row t es, f⟩) (hf : f = .ow false ∨ ∃ i, f = .mp i) :
  match ix with | none => x.v = .row t es | some i => es.flatten[i]? = some x.v := by
 obtain ⟨sl, hs, hc⟩ := cellAt_some hx
 have hk := h.cells s sl hs x (List.mem_of_getElem? hc)
 have self : some (s, c, none) = some (p, q, ix) → match ix with | none => x.v = .row t es | some i => es.flatten[i]? = some x.v := by
  intro e
  simp only [Option.some.injEq, Prod.mk.injEq] at e
  obtain ⟨rfl, rfl, rfl⟩ := e
  rw [hx] at hy
  have := Option.some.inj hy
  show x.v = _
  rw [this]
 have hff : (∃ g, f = .ow g) ∨ ∃ i, f = .mp i := hf.imp (fun h => ⟨false, h⟩) id
 obtain ⟨v, fx⟩ := x
 cases fx with
 | ow g => cases g <;> first | exact self hh | (simp [homeOf, Cell.er] at hh; done)
 | nw g => cases g <;> first | exact self hh | (simp [homeOf, Cell.er] at hh; done)
 | mp i => exact self hh
 | cp ck s' c' ix' =>
  simp only [homeOf, Cell.er, Option.some.injEq, Prod.mk.injEq] at hh
  obtain ⟨rfl, rfl, rfl⟩ := hh
  have hcp := hk.2.2.1.2 _ hy (hff.imp id .inl)
  cases ix' with
  | none => exact hcp.symm
  | some i =>
   obtain ⟨t1, es1, e1, e2⟩ := hcp
   have e1 : (VA.row t es : A) = .row t1 es1 := e1
   simp only [VA.row.injEq] at e1
   obtain ⟨rfl, rfl⟩ := e1
   exact e2
 | _ => simp [homeOf, Cell.er] at hh
theorem homeIs_some {T : StA} {p : Fl → Bool} {h : Home} (hh : homeIs p (erS T) h = true) : ∃ t es f, cellAt T h.1 h.2.1 = some ⟨.row t es, f⟩ ∧ p f = true ∧ (f = .ow false ∨ ∃ i, f = .mp i) := by
 unfold homeIs at hh
 split at hh
 ·rename_i es f hrow
  obtain ⟨t, esA, hc, _, hf⟩ := rowAt_er hrow
  exact ⟨t, esA, f, hc, hh, hf⟩
 ·cases hh
theorem lose_at {p q : Nat} {t : Tg} {es : List (List A)} {f : Fl} (_h : Inv E S X C a w) (hc : cellAt S p q = some ⟨.row t es, f⟩) (hf : f = .ow false ∨ ∃ i, f = .mp i) (hT : ∃ y, cellAt (loseA S) p q = some y) : cellAt (loseA S) p q = some ⟨.row t es, f⟩ := by
 obtain ⟨y, hy⟩ := hT
 obtain ⟨sl, hs, hcc⟩ := cellAt_some hc
 obtain ⟨sl', hs', hcc'⟩ := cellAt_some hy
 obtain ⟨s0, hs0, rfl⟩ := loseA_get hs'
 rw [hs] at hs0
 obtain rfl := Option.some.inj hs0
 rcases loseSA_k sl with ⟨_, hcs⟩ | ⟨_, hcs, _⟩
 ·rw [hy]
  rw [hcs, List.getElem?_map, hcc] at hcc'
  simp only [Option.map_some, Option.some.injEq] at hcc'
  rw [← hcc']
  rcases hf with rfl | ⟨i, rfl⟩ <;> rfl
 ·rw [hcs] at hcc'; simp at hcc'
theorem slv_ret {rs : List SA} {v : Value} (hv : v = retVal E.sid rs) (hk : ∀ s ∈ rs, (s.k = .val ∧ ∃ c, s.cs = [c]) ∨ s.k = .agg) : SlV E.sid S (retSlA rs) v := by
 match rs, hk with
 | [], _ => exact hv
 | [s], hk =>
  rcases hk s (by simp) with ⟨hk, c, hc⟩ | hk
  ·show SlV E.sid S s v
   unfold SlV; rw [hk]
   exact ⟨c, hc, by rw [hv]; simp [retVal, slVal, hk, hc]⟩
  ·show SlV E.sid S s v
   unfold SlV; rw [hk]
   simp only [hv, retVal, slVal, hk]
 | s :: s' :: ss, hk =>
  show v = _
  rw [hv]
  simp only [retVal, retSlA, tupVals_slots hk]
theorem opds_lift (hf : Fits E cx) (h : Inv E S X C a w) : ∀ (os : List Operand) {xs : List Opd}, mapO (cOpd cx) os = some xs → ∀ {ys : List SU} {st1 : St}, (opds xs).run (erS S) = some (ys, st1) → ys.all scalS = true →
  st1 = erS S ∧ ∃ zs : List SA, zs.map Sl.er = ys ∧ zs.map (slVal E.sid) = os.map a.eval ∧ ∀ z ∈ zs, (z.k = .val ∧ ∃ c, z.cs = [c]) ∧ ∀ x ∈ z.cs, x.f = .sc ∧ scal x.v = true
 | [], xs, hc, ys, st1, hr, _ => by
  simp only [mapO, Option.some.injEq] at hc; subst hc
  obtain ⟨rfl, rfl⟩ := ret_run hr
  exact ⟨rfl, [], rfl, rfl, by simp⟩
 | o :: os, xs, hc, ys, st1, hr, hall => by
  unfold mapO at hc
  cases h1 : cOpd cx o with
  | none => simp [h1] at hc
  | some x => cases h2 : mapO (cOpd cx) os with
   | none => simp [h1, h2] at hc
   | some xs' =>
    simp [h1, h2] at hc; subst hc
    unfold opds at hr
    obtain ⟨s, st2, h3, h4⟩ := FM.bind_some hr
    clear hr
    obtain ⟨rfl, s0, rfl, hop⟩ := opd_lift hf h h1 h3
    obtain ⟨ys', st4, h7, h8⟩ := FM.bind_some h4
    clear h4
    obtain ⟨rfl, rfl⟩ := ret_run h8
    simp only [List.all_cons, Bool.and_eq_true] at hall
    obtain ⟨rfl, zs, rfl, e3, e4⟩ := opds_lift hf h os h2 h7 hall.2
    have hsc := hall.1
    simp only [scalS, Bool.and_eq_true, er_kind, er_cells, List.all_map, List.all_eq_true, Function.comp] at hsc
    obtain ⟨hk, hfl⟩ := hsc
    have hkv : s0.k = .val := by
     cases hk' : s0.k <;> rw [hk'] at hk <;> simp [Kd.er] at hk ⊢
    have hfl' : ∀ x ∈ s0.cs, x.f = .sc := fun x hx => of_decide_eq_true (hfl x hx)
    have hfin : (∃ c, s0.cs = [c] ∧ a.eval o = c.v.val E.sid) ∧ ∀ x ∈ s0.cs, scal x.v = true := by
     cases hop with
     | slot i s hi hs hv =>
      unfold SlV at hv; rw [hkv] at hv
      refine ⟨hv, fun x hx => ?_⟩
      have hk := h.cells i s0 hs x hx
      have hf := hfl' x hx
      obtain ⟨v, f⟩ := x
      simp only at hf; subst hf
      exact hk
     | const agg vs s hk he hok hv h1' =>
      refine ⟨?_, fun x hx => ?_⟩
      ·cases agg with
       | true => rw [hk] at hkv; simp at hkv
       | false =>
        obtain ⟨z, hz⟩ := h1' rfl
        exact ⟨z, hz, by rw [hv, hz]; simp⟩
      ·have hk := (hok x hx).1
       have hf := hfl' x hx
       obtain ⟨v, f⟩ := x
       simp only at hf; subst hf
       exact hk
     | fn g hv => have := hfl' _ (List.mem_singleton.2 rfl); simp at this
    obtain ⟨⟨c, hc, hv⟩, hsc⟩ := hfin
    refine ⟨rfl, s0 :: zs, rfl, ?_, fun z hz => ?_⟩
    ·simp only [List.map_cons, e3, List.cons.injEq, and_true]
     simp [slVal, hkv, hc, hv]
    ·rcases List.mem_cons.1 hz with rfl | hz
     ·exact ⟨⟨hkv, c, hc⟩, fun x hx => ⟨hfl' x hx, hsc x hx⟩⟩
     ·exact e4 z hz
theorem retSlA_scal {rs : List SA} (h : ∀ s ∈ rs, ∀ x ∈ s.cs, x.f = .sc ∧ scal x.v = true) : ∀ x ∈ (retSlA rs).cs, x.f = .sc ∧ scal x.v = true := by
 intro x hx
 rw [retSlA_cs] at hx
 obtain ⟨s, hs, hxs⟩ := List.mem_flatMap.1 hx
 exact h s hs x hxs
theorem callM_lift {orac : Orac} {modes : Modes} (hf : Fits E cx) (h : Inv E S [] C a w) (hb : E.base ≤ w.heap.size) (hO : ∀ g, Keeps' E.P E.sid orac g) {o : Oper} {k : Call} (ho : o.op = .call k) {f g : Nat} (hk : k.callee = .value (.func f)) (hg : cx.canon f = some g) {xs : List Opd} (hc : mapO (cOpd cx) k.args.toList = some xs)
  {st1 : St} (hr : callM orac modes E.nt o.dst g xs (erS S) = some st1) :
  ∃ fn args, (execOp a.eval o).run E.P w = .ok (.enter fn args) w ∧ Calls E.P fn args w fun e w' => ∃ v S1 C1, e = .returned v ∧ erS S1 = st1 ∧ Inv E S1 [] C1 (a.put o.dst v) w' ∧ Frame E w w' := by
 unfold callM at hr
 split at hr
 ·rename_i ms x xs hmod
  split at hr
  ·cases hr
  ·obtain ⟨sl, st2, h1, h2⟩ := runFM_some hr
   clear hr
   cases hal : k.args.toList with
   | nil => rw [hal] at hc; simp [mapO] at hc
   | cons ox os =>
    rw [hal] at hc
    unfold mapO at hc
    cases hx : cOpd cx ox with
    | none => simp [hx] at hc
    | some x' =>
     cases hxs : mapO (cOpd cx) os with
     | none => simp [hx, hxs] at hc
     | some xs' =>
      simp only [hx, hxs, Option.some.injEq, List.cons.injEq] at hc
      obtain ⟨rfl, rfl⟩ := hc
      obtain ⟨rfl, s0, rfl, hop⟩ := opd_lift hf h hx h1
      split at h2
      ·rename_i hkd
       split at h2
       ·cases h2
       ·rename_i hs hhs
        split at h2
        ·rename_i hcond
         simp only [Bool.and_eq_true] at hcond
         obtain ⟨hapart, hhome⟩ := hcond
         obtain ⟨as, st3, h3, h4⟩ := runFM_some h2
         clear h2
         split at h4
         ·rename_i hsc
          obtain ⟨rfl, zs, rfl, e3, e4⟩ := opds_lift hf h os hxs h3 hsc
          split at h4
          ·rename_i rs outs hor
           split at h4
           ·rename_i st' hput
            rw [er_cells] at hhs
            obtain ⟨hlen, hhv⟩ := homes_len hhs
            have hkva : s0.k = .val ∨ s0.k = .agg := by
             rw [er_kind] at hkd
             cases hk' : s0.k <;> rw [hk'] at hkd <;> simp [Kd.er, valAgg] at hkd ⊢
            have hsval : slVal E.sid ⟨s0.k, mpCellsA 0 s0.cs⟩ = a.eval ox ∧ (s0.k = .val → ∃ c, s0.cs = [c]) := by
             have hm : (mpCellsA 0 s0.cs).map (·.v.val E.sid) = s0.cs.map (·.v.val E.sid) := map_val (mpCellsA_v s0.cs 0)
             have fin : (s0.k = .val → ∃ c, s0.cs = [c] ∧ a.eval ox = c.v.val E.sid) → (s0.k = .agg → a.eval ox = .agg (s0.cs.map (·.v.val E.sid)).toArray) → slVal E.sid ⟨s0.k, mpCellsA 0 s0.cs⟩ = a.eval ox ∧ (s0.k = .val → ∃ c, s0.cs = [c]) := by
              intro h1 h2
              refine ⟨?_, fun hk => (h1 hk).imp fun _ h => h.1⟩
              rcases hkva with hk | hk
              ·obtain ⟨c, hc, hv⟩ := h1 hk
               obtain ⟨c', hc', hv'⟩ := map_single hm hc
               simp only [slVal, hk, hc', hv, hv']
              ·simp only [slVal, hk, h2 hk, hm]
             cases hop with
             | slot i s hi hs hv =>
              refine fin (fun hk => ?_) (fun hk => ?_)
              ·unfold SlV at hv; rw [hk] at hv; exact hv
              ·unfold SlV at hv; rw [hk] at hv; exact hv
             | const agg vs s hk he hok hv h1' =>
              refine fin (fun hk0 => ?_) (fun hk0 => ?_)
              ·cases agg with
               | true => rw [hk] at hk0; simp at hk0
               | false =>
                obtain ⟨z, hz⟩ := h1' rfl
                exact ⟨z, hz, by rw [hv, hz]; simp⟩
              ·cases agg with
               | false => rw [hk] at hk0; simp at hk0
               | true => simpa using hv
             | fn g hv => exact fin (fun _ => ⟨_, rfl, by rw [hv]; simp [VA.val]⟩) (fun hk => by simp at hk)
            have hstand : ∀ (j p q : Nat) (ix : Option Nat) (u : A), hs[j]? = some (p, q, ix) → (rowsIn s0.cs)[j]? = some u →
              ∀ t es fl, cellAt S p q = some ⟨.row t es, fl⟩ → (fl = .ow false ∨ ∃ i, fl = .mp i) → match ix with | none => u = .row t es | some i => es.flatten[i]? = some u := by
             intro j p q ix u hj hu t es fl hcell hfl
             obtain ⟨kk, xx, k1, k2, k3⟩ := hhv j (p, q, ix) u hj hu
             rw [Nat.zero_add] at k3
             cases hop with
             | slot i s hi hs hv =>
              have := home_val h (cellAt_of hs k1) (by simpa [slotOf] using k3) hcell hfl
              rw [← k2]; cases ix <;> exact this
             | const agg vs s hk he hok hv h1' =>
              have hm := hok xx (List.mem_of_getElem? k1)
              obtain ⟨v, f⟩ := xx
              have h5 := hm.2.1
              have h6 := hm.2.2
              cases f <;> simp [Taken, Go.Vm.hold, isOs, owns, homeOf, Cell.er] at h5 h6 k3
             | fn g hv =>
              simp only [List.getElem?_singleton] at k1
              split at k1
              ·simp only [Option.some.injEq] at k1
               subst k1
               simp [homeOf, Cell.er] at k3
              ·cases k1
            have hl := h.lose
            simp only [List.map_nil] at hl
            obtain ⟨p1, p2⟩ := lose_calm (S := S)
            have hkindOf : ∀ (p q : Nat) ix, (p, q, ix) ∈ hs → ∃ t es fl, cellAt S p q = some ⟨.row t es, fl⟩ ∧ (fl = .ow false ∨ ∃ i, fl = .mp i) := by
             intro p q ix hm
             unfold homeOk at hhome
             simp only [Bool.or_eq_true, List.all_eq_true] at hhome
             rcases hhome with hh | hh
             ·obtain ⟨t, es, fl, h1, _, h3⟩ := homeIs_some (hh _ hm)
              exact ⟨t, es, fl, h1, h3⟩
             ·obtain ⟨t, es, fl, h1, _, h3⟩ := homeIs_some (hh _ hm)
              exact ⟨t, es, fl, h1, h3⟩
            have husEq : ∀ {us vs : List A} {T : StA}, Puts hs us vs (loseA S) T → us = rowsIn s0.cs := by
             intro us vs T hp
             apply List.ext_getElem?
             intro j
             cases hj : us[j]? with
             | none =>
              rw [List.getElem?_eq_none_iff, hp.len.1, hlen] at hj
              rw [List.getElem?_eq_none hj]
             | some u =>
              have hjl : j < hs.length := by rw [← hp.len.1]; exact (List.getElem?_eq_some_iff.1 hj).1
              obtain ⟨⟨p, q, ix⟩, hjh⟩ : ∃ y, hs[j]? = some y := ⟨_, List.getElem?_eq_getElem hjl⟩
              obtain ⟨u', hu'⟩ : ∃ y, (rowsIn s0.cs)[j]? = some y := ⟨_, List.getElem?_eq_getElem (by rw [← hlen]; exact hjl)⟩
              obtain ⟨t, es, fl, q1, q2⟩ := hp.were hapart j p q ix u hjh hj
              obtain ⟨t1, es1, fl1, q3, q4⟩ := hkindOf p q ix (List.mem_of_getElem? hjh)
              have q5 := lose_at h q3 q4 ⟨_, q1⟩
              rw [q1] at q5
              simp only [Option.some.injEq, Cell.mk.injEq, VA.row.injEq] at q5
              obtain ⟨⟨rfl, rfl⟩, rfl⟩ := q5
              have q6 := hstand j p q ix u' hjh hu' t es fl q3 q4
              rw [hu']
              cases ix with
              | none => rw [q2, q6]
              | some i => rw [← q2, ← q6]
            have hflT : (∀ (s c : Nat) ix, (s, c, ix) ∈ hs → ∀ y, cellAt (loseA S) s c = some y → y.f = .ow false) ∨ ∀ (s c : Nat) ix, (s, c, ix) ∈ hs → ∀ y, cellAt (loseA S) s c = some y → ∃ i, y.f = .mp i := by
             unfold homeOk at hhome
             simp only [Bool.or_eq_true, List.all_eq_true] at hhome
             refine hhome.imp (fun hh s c ix hm y hy => ?_) (fun hh s c ix hm y hy => ?_)
             ·obtain ⟨t, es, fl, h1, h2, h3⟩ := homeIs_some (hh _ hm)
              have := lose_at h h1 h3 ⟨y, hy⟩
              rw [hy] at this
              rw [Option.some.inj this]
              rcases h3 with rfl | ⟨i, rfl⟩
              ·rfl
              ·simp [isOw] at h2
             ·obtain ⟨t, es, fl, h1, h2, h3⟩ := homeIs_some (hh _ hm)
              have := lose_at h h1 h3 ⟨y, hy⟩
              rw [hy] at this
              rw [Option.some.inj this]
              rcases h3 with rfl | ⟨i, rfl⟩
              ·simp [isMp] at h2
              ·exact ⟨i, rfl⟩
            rw [← loseA_er] at hput
            have hholes : ∃ T, Puts hs (rowsIn s0.cs) ((rowsIn s0.cs).map fun _ => .row ⟨none, 0, 0⟩ []) (loseA S) T ∧ (∀ b, ((rowsIn s0.cs).flatMap VA.blks).count b ≤ (ownAll (loseA S) []).count b) := by
             have hpre : ∃ us vs T, Puts hs us vs (loseA S) T := by
              have hup : outs = (upL outs).map VA.er := by rw [← erL_map, upL_er]
              rw [hup] at hput
              obtain ⟨us, T, q1, _⟩ := putOuts_lift hput
              exact ⟨us, _, T, q1⟩
             obtain ⟨us, vs, T, hp⟩ := hpre
             obtain rfl := husEq hp
             obtain ⟨T', hT'⟩ := hp.other hapart ((rowsIn s0.cs).map fun _ => .row ⟨none, 0, 0⟩ []) (by simp [hlen]) (loseA S) (fun p q => .inr (.inl rfl))
             refine ⟨T', hT', fun b => ?_⟩
             have h1 := hT'.count b
             have h2 : (((rowsIn s0.cs).map fun _ => (VA.row ⟨none, 0, 0⟩ [] : A)).flatMap VA.blks).count b = 0 := by
              rw [List.count_eq_zero]
              intro hm
              obtain ⟨v, hv, hbv⟩ := List.mem_flatMap.1 hm
              obtain ⟨_, _, rfl⟩ := List.mem_map.1 hv
              simp [VA.blks, blkR] at hbv
             omega
            obtain ⟨T0, hT0, hucnt⟩ := hholes
            have huin : ∀ b ∈ (rowsIn s0.cs).flatMap VA.blks, b ∈ ownAll (loseA S) [] := by
             intro b hb'
             have h1 := List.count_pos_iff.2 hb'
             have h2 := hucnt b
             exact List.count_pos_iff.1 (by omega)
            have hushp : ∀ (j : Nat) (u : A), (rowsIn s0.cs)[j]? = some u → Shp E.sid w E.old u ∧ isRow u = true := by
             intro j u hu
             have hjl : j < hs.length := by rw [hlen]; exact (List.getElem?_eq_some_iff.1 hu).1
             obtain ⟨⟨p, q, ix⟩, hjh⟩ : ∃ y, hs[j]? = some y := ⟨_, List.getElem?_eq_getElem hjl⟩
             obtain ⟨t, es, fl, q1, q2⟩ := hT0.were hapart j p q ix u hjh hu
             obtain ⟨sl, hsl, hcl⟩ := cellAt_some q1
             have hkk := hl.cells p sl hsl _ (List.mem_of_getElem? hcl)
             have hrow : Shp E.sid w E.old (.row t es) := by
              rcases hflT with hh | hh
              ·have := hh p q ix (List.mem_of_getElem? hjh) _ q1
               simp only at this; subst this
               have := hkk.2.1
               simpa [Shp'] using this
              ·obtain ⟨i, this⟩ := hh p q ix (List.mem_of_getElem? hjh) _ q1
               simp only at this; subst this
               exact hkk.1
             have hisrow : isRow u = true := by
              obtain ⟨kk, xx, k1, k2, k3⟩ := hhv j (p, q, ix) u hjh hu
              rw [← k2]
              cases hop with
              | slot i s hi hs hv =>
               have hck := h.cells i s0 hs xx (List.mem_of_getElem? k1)
               obtain ⟨v, f⟩ := xx
               cases f with
               | ow g => exact hck.1
               | nw g => exact hck.1
               | mp i =>
                obtain ⟨_, ⟨t, es, e1, _⟩, _⟩ := hck
                have e1 : v = .row t es := e1
                rw [e1]; rfl
               | cp ck s' c' ix' => exact hck.1
               | _ => simp [homeOf, Cell.er] at k3
              | const agg vs s hk he hok hv h1' =>
               have hm := hok xx (List.mem_of_getElem? k1)
               obtain ⟨v, f⟩ := xx
               have h5 := hm.2.1
               have h6 := hm.2.2
               cases f <;> simp [Taken, Go.Vm.hold, isOs, owns, homeOf, Cell.er] at h5 h6 k3
              | fn g hv =>
               simp only [List.getElem?_singleton] at k1
               split at k1
               ·simp only [Option.some.injEq] at k1
                subst k1
                simp [homeOf, Cell.er] at k3
               ·cases k1
             cases ix with
             | none => rw [q2]; exact ⟨hrow, rfl⟩
             | some i => exact ⟨hrow.el (List.mem_of_getElem? q2), hisrow⟩
            obtain ⟨E', hE'⟩ : ∃ E' : Env, E' = ⟨E.P, E.sid, 0, w.heap.size, E.old, fun b => b ∈ (rowsIn s0.cs).flatMap VA.blks, fun _ _ => none, fun j => match (rowsIn s0.cs)[j]? with | some (.row t es) => some (t, es.length) | _ => none, ⟨none, 0, 0⟩⟩ := ⟨_, rfl⟩
            have hargs : ((⟨s0.k, mpCellsA 0 s0.cs⟩ : SA) :: zs).map Sl.er = (⟨s0.er.k, mpCells 0 s0.er.cs⟩ : SU) :: zs.map Sl.er := by
             simp only [List.map_cons, Sl.er, mpCellsA_er]
            rw [← hargs] at hor
            have hvals : ((⟨s0.k, mpCellsA 0 s0.cs⟩ : SA) :: zs).map (slVal E.sid) = a.eval ox :: os.map a.eval := by
             simp only [List.map_cons, hsval.1, e3]
            have hzown : ∀ z ∈ zs, z.own = [] := fun z hz => own_of_flags (by intro t; rw [(e4 z hz).1.1]; simp) (fun x hx => by rw [((e4 z hz).2 x hx).1]; rfl)
            have hown : ((⟨s0.k, mpCellsA 0 s0.cs⟩ : SA) :: zs).flatMap Sl.own = (rowsIn s0.cs).flatMap VA.blks := by
             have h1 : zs.flatMap Sl.own = [] := by
              rw [List.flatMap_eq_nil_iff]; exact hzown
             simp only [List.flatMap_cons, h1, List.append_nil]
             unfold Sl.own
             have h2 : Sl.boxOwn (⟨s0.k, mpCellsA 0 s0.cs⟩ : SA) = [] := by
              rcases hkva with hk | hk <;> simp [Sl.boxOwn, hk]
             rw [h2, mpCellsA_own]; rfl
            have hcellOk : ∀ x ∈ mpCellsA 0 s0.cs, COk E' w E.old [] [] x ∧ (x.f = .sc ∨ x.f = .nl ∨ ∃ i, x.f = .mp i) := by
             intro x hx
             rcases mpCellsA_mem hx with ⟨hfx, hm⟩ | ⟨j, hfx, hj⟩
             ·have hok0 : COk E w C S [] x := by
               cases hop with
               | slot i s hi hs hv => exact h.cells i s0 hs x hm
               | const agg vs s hk he hok hv h1' => exact (hok x hm).1
               | fn g hv =>
                simp only [List.mem_singleton] at hm
                subst hm; simp at hfx
              obtain ⟨v, f⟩ := x
              rcases hfx with hfx | hfx
              ·simp only at hfx; subst hfx; exact ⟨hok0, .inl rfl⟩
              ·simp only at hfx; subst hfx; exact ⟨hok0, .inr (.inl rfl)⟩
             ·rw [Nat.zero_add] at hfx
              obtain ⟨hshp, hrow⟩ := hushp j x.v hj
              obtain ⟨v, f⟩ := x
              simp only at hfx; subst hfx
              cases v with
              | row t es =>
               refine ⟨⟨by rw [hE']; exact hshp, ⟨t, es, rfl, by rw [hE']; simp only [hj]⟩, fun b hb' => .inr ?_⟩, .inr (.inr ⟨j, rfl⟩)⟩
               rw [hE']
               exact List.mem_flatMap.2 ⟨_, List.mem_of_getElem? hj, hb'⟩
              | _ => simp [isRow] at hrow
            have hzOk : ∀ z ∈ zs, ∀ x ∈ z.cs, COk E' w E.old [] [] x ∧ x.f = .sc := by
             intro z hz x hx
             obtain ⟨q1, q2⟩ := (e4 z hz).2 x hx
             obtain ⟨v, f⟩ := x
             simp only at q1; subst q1
             exact ⟨q2, rfl⟩
            have hentry : Entry E' w ((⟨s0.k, mpCellsA 0 s0.cs⟩ : SA) :: zs) := by
             refine ⟨by rw [hE'], fun i s hs => ?_, fun s hs x hx => ?_, fun s hs x hx => ?_, fun s hs t' hk => ?_, fun b => ?_, fun b hb' => ?_, fun b j hj => ?_⟩
             ·cases i with
              | zero =>
               simp only [List.getElem?_cons_zero, Option.some.injEq] at hs
               subst hs
               rcases hkva with hk | hk
               ·obtain ⟨c, hc⟩ := hsval.2 hk
                obtain ⟨c', hc', _⟩ := map_single (mpCellsA_v s0.cs 0) hc
                exact .inl ⟨hk, c', hc'⟩
               ·exact .inr (.inl hk)
              | succ i =>
               have := List.mem_of_getElem? (by simpa using hs : zs[i]? = some s)
               exact .inl (e4 s this).1
             ·rcases List.mem_cons.1 hs with rfl | hs
              ·rcases (hcellOk x hx).2 with h | h | h
               ·exact .inl h
               ·exact .inr (.inr (.inr (.inl h)))
               ·exact .inr (.inr (.inr (.inr h)))
              ·exact .inl (hzOk s hs x hx).2
             ·have hold : E'.old = E.old := by rw [hE']
              rw [hold]
              rcases List.mem_cons.1 hs with rfl | hs
              ·exact (hcellOk x hx).1
              ·exact (hzOk s hs x hx).1
             ·exfalso
              rcases List.mem_cons.1 hs with rfl | hs
              ·rcases hkva with hk' | hk' <;> rw [hk'] at hk <;> simp at hk
              ·rw [(e4 s hs).1.1] at hk; simp at hk
             ·rw [hown]
              have := hucnt b
              have := hl.cnt b
              omega
             ·rw [hown] at hb'
              rw [hE']
              exact hl.ownlt b (huin b hb')
             ·rw [hE'] at hj
              exact hl.clt b j hj
            obtain ⟨k1, k2⟩ := hO g E' w _ _ (by rw [hE']) (by rw [hE']) hentry hor
            rw [hvals] at k1 k2
            have hex := exec_call (a := a) ho hk (opd_fn hf hg)
            have hargv : (k.args.map a.eval ++ #[]) = (a.eval ox :: os.map a.eval).toArray := by
             rw [← Array.toList_inj]
             simp [hal]
            rw [hargv] at hex
            refine ⟨_, _, by rw [hex]; exact k1, Calls.mono k2 ?_⟩
            rintro e w' ⟨v, rsA, outsA, C', he, hle⟩
            have houter : outsA.map VA.er = outs := hle.outer
            rw [← houter] at hput
            obtain ⟨us, S', hp, hS'⟩ := putOuts_lift hput
            obtain rfl := husEq hp
            have hsid : E'.sid = E.sid := by rw [hE']
            have hbase : E'.base = w.heap.size := by rw [hE']
            have hmend : Inv E S' [] E.old a w' := by
             refine mend hl p1 p2 hp hapart hflT hle.frame.size (fun b hb1 hb2 => ?_) (fun j u v' hu hv' => ?_) (fun b => ?_) hb
             ·refine hle.frame.block b (by rw [hbase]; exact hb1) (fun hc => hb2 ?_)
              rw [hE'] at hc; exact hc
             ·obtain ⟨q1, ⟨t, es, q2, q3⟩, q4⟩ := hle.outok j v' hv'
              rw [hsid] at q1
              have q3' : (match (rowsIn s0.cs)[j]? with | some (.row t es) => some (t, es.length) | _ => none : Option (Tg × Nat)) = some (t, es.length) := by
               have := q3; rw [hE'] at this; exact this
              rw [hu] at q3'
              cases u with
              | row tu esu =>
               simp only [Option.some.injEq, Prod.mk.injEq] at q3'
               obtain ⟨rfl, q5⟩ := q3'
               refine ⟨q1.mono (fun b hb' j hj => ?_) (fun _ _ => rfl), ⟨tu, esu, es, rfl, q2, q5.symm⟩, fun b hb' => ?_⟩
               ·exact absurd hj (by have := (q4 b hb').2.2 j; rw [hE'] at this; exact this)
               ·obtain ⟨m1, m2, m3⟩ := q4 b hb'
                refine ⟨?_, m2, fun j => ?_⟩
                ·rcases m1 with m1 | m1
                 ·rw [hbase] at m1; exact .inl m1
                 ·rw [hE'] at m1; exact .inr m1
                ·have := m3 j; rw [hE'] at this; exact this
              | _ => simp at q3'
             ·have := hle.cnt b; omega
            have hfr : Frame E w w' := by
             refine ⟨hle.frame.os, hle.frame.tape, hle.frame.output, hle.frame.size, fun b hbl hn => hle.frame.block b (by rw [hbase]; omega) (fun hc => ?_)⟩
             rw [hE'] at hc
             have hc : b ∈ (rowsIn s0.cs).flatMap VA.blks := hc
             obtain ⟨u, hu, hbu⟩ := List.mem_flatMap.1 hc
             obtain ⟨j, hj⟩ := List.mem_iff_getElem?.1 hu
             have hjl : j < hs.length := by rw [hlen]; exact (List.getElem?_eq_some_iff.1 hj).1
             obtain ⟨⟨p, q, ix⟩, hjh⟩ : ∃ y, hs[j]? = some y := ⟨_, List.getElem?_eq_getElem hjl⟩
             obtain ⟨t, es, fl, q1, q2⟩ := hp.were hapart j p q ix u hjh hj
             have hbin : b ∈ (VA.row t es : A).blks := by
              cases ix with
              | none => rw [q2] at hbu; exact hbu
              | some i => exact blks_mem (List.mem_of_getElem? q2) hbu
             obtain ⟨sl, hsl, hcl⟩ := cellAt_some q1
             have hck := hl.cells p sl hsl _ (List.mem_of_getElem? hcl)
             rcases hflT with hh | hh
             ·have := hh p q ix (List.mem_of_getElem? hjh) _ q1
              simp only at this; subst this
              have := hck.2.2 b hbin
              omega
             ·obtain ⟨i, this⟩ := hh p q ix (List.mem_of_getElem? hjh) _ q1
              simp only at this; subst this
              rcases hck.2.2 b hbin with h9 | h9
              ·omega
              ·exact hn h9
            split at h4
            ·rename_i d hd
             rw [hd]
             split at h4
             ·rename_i old hold
              split at h4
              ·rename_i hh
               obtain ⟨hfree, hdn, hrsc⟩ := hh
               simp only [Option.some.injEq] at h4
               subst h4
               rw [← hS'] at hold ⊢
               obtain ⟨o1, ho1, rfl⟩ := erS_some hold
               have hrsE : rsA.map Sl.er = rs := hle.er
               have hrk : ∀ s ∈ rsA, (s.k = .val ∧ ∃ c, s.cs = [c]) ∧ ∀ x ∈ s.cs, x.f = .sc ∧ scal x.v = true := by
                intro s hs'
                have := List.all_eq_true.1 hrsc s.er (by rw [← hrsE]; exact List.mem_map_of_mem hs')
                simp only [scalS, Bool.and_eq_true, er_kind, er_cells, List.all_map, List.all_eq_true, Function.comp] at this
                obtain ⟨hk, hfl⟩ := this
                have hkv : s.k = .val := by
                 cases hk' : s.k <;> rw [hk'] at hk <;> simp [Kd.er] at hk ⊢
                refine ⟨?_, fun x hx => ?_⟩
                ·rcases hle.kinds s hs' with h1 | h1 | ⟨⟨t, h1⟩, _⟩
                 ·exact h1
                 ·rw [hkv] at h1; simp at h1
                 ·rw [hkv] at h1; simp at h1
                ·have h1 : x.f = .sc := of_decide_eq_true (hfl x hx)
                 have h2 := hle.cells s hs' x hx
                 obtain ⟨v, f⟩ := x
                 simp only at h1; subst h1
                 exact ⟨rfl, h2⟩
               have hsl := retSlA_scal (fun s hs' x hx => (hrk s hs').2 x hx)
               have hadd : Inv E S' ((retSlA rsA).cs ++ []) E.old a w' := hmend.addAll _ (fun z hz => by
                obtain ⟨q1, q2⟩ := hsl z hz
                obtain ⟨v, f⟩ := z
                simp only at q1; subst q1
                exact ⟨q2, rfl, .inl (by simp)⟩)
               have hnk : (∀ t, (retSlA rsA).k ≠ .box t) ∧ (∀ t src ix, (retSlA rsA).k ≠ .ept t src ix) ∧ ¬ ((retSlA rsA).k = .dead ∨ (retSlA rsA).k = .und ∨ (∃ r o, (retSlA rsA).k = .ptr r o) ∨ ∃ g rs, (retSlA rsA).k = .clo g rs) := by
                match rsA, hrk with
                | [], _ => exact ⟨by simp [retSlA], by simp [retSlA], by simp [retSlA]⟩
                | [s], hrk =>
                 have := (hrk s (by simp)).1.1
                 exact ⟨by simp [retSlA, this], by simp [retSlA, this], by simp [retSlA, this]⟩
                | s :: s' :: ss, _ => exact ⟨by simp [retSlA], by simp [retSlA], by simp [retSlA]⟩
               refine ⟨v, S'.set d (retSlA rsA), E.old, he, by rw [erS_set, retSlA_er, hrsE], ?_, hfr⟩
               refine hadd.put hdn ho1 (freeS_free hmend ho1 hfree) rfl hnk.1 (slv_ret (by rw [hle.val, hsid]) (fun s hs' => .inl (hrk s hs').1)) (fun hk => absurd hk hnk.2.2) (fun t src ix hk => absurd hk (hnk.2.1 t src ix))
              ·cases h4
             ·cases h4
            ·rename_i hd
             simp only [Option.some.injEq] at h4
             subst h4
             rw [hd]
             exact ⟨v, S', E.old, he, hS', hmend, hfr⟩
           ·cases h4
          ·cases h4
         ·cases h4
        ·cases h2
      ·cases h2
 ·cases hr
end
end Go.Vm
end
