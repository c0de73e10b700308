/- The library's contracts, as the value machine takes them. -/
import Derived.Test.YtmojgceacpclpaaVmF
import Derived.Shelf.Sort.Plain
import Derived.Shelf.Slices.In.SortNone
import Derived.Sort.OwnSortedInts
set_option maxHeartbeats 4000000
set_option maxRecDepth 10000
set_option linter.unusedVariables false
set_option linter.unusedSimpArgs false
section
namespace Go.Vm
open Go.Proofs Go.Shelf Go.Sort
theorem special_three {args : List SU} {ret : Ret} (h : special 3 args = some ret) : ∃ es zs, args = [⟨.val, [⟨.row () es, .mp 0⟩]⟩] ∧ intsOf es = some zs ∧ zs.length ≤ lim ∧ ret = ⟨[], [.row () ((sortI zs).map fun n => [.int .i64 n])], none⟩ := by
 match args, h with
 | [⟨.val, [⟨.row _ es, .mp 0⟩]⟩], h =>
  simp only [special] at h
  split at h
  ·rename_i zs hz
   split at h
   ·rename_i hc
    simp only [Option.some.injEq] at h
    exact ⟨es, zs, rfl, hz, hc, h.symm⟩
   ·cases h
  ·cases h
theorem intsOf_cons {x : List V} {es : List (List V)} {zs : List Int} (h : intsOf (x :: es) = some zs) : ∃ n l, x = [.int .i64 n] ∧ intsOf es = some l ∧ zs = n :: l := by
 unfold intsOf at h
 split at h
 ·rename_i heq; cases heq
 ·rename_i n es' heq
  cases heq
  rw [Option.map_eq_some_iff] at h
  obtain ⟨l, h1, rfl⟩ := h
  exact ⟨n, l, rfl, h1, rfl⟩
 ·cases h
theorem intsOf_er : ∀ (es0 : List (List A)) (zs : List Int), intsOf (erR es0) = some zs → es0 = zs.map fun n => [.int .i64 n]
 | [], zs, h => by
  have : zs = [] := by simpa [erR, intsOf] using h.symm
  rw [this]; rfl
 | e :: es, zs, h => by
  rw [erR] at h
  obtain ⟨n, l, h1, h2, rfl⟩ := intsOf_cons h
  rw [erL_map] at h1
  obtain ⟨c, rfl, hc⟩ := List.map_eq_singleton_iff.1 h1
  have hc' : c = .int .i64 n := by cases c <;> simp_all [VA.er]
  rw [hc', intsOf_er es l h2]; rfl
theorem sort_special {P : Program} {sid : Nat → Nat} {g : Nat} {ρ : Ren} (L : Lays.n189 P ρ) (hg : sid g = ρ.f 189) : Special P sid g 3 := by
 intro E w args ret hP hs he hr
 replace hr : special 3 (args.map Sl.er) = some ret := hr
 obtain ⟨es, zs, hargs, hz, hlen, rfl⟩ := special_three hr
 obtain ⟨s, rfl, hs1⟩ := List.map_eq_singleton_iff.1 hargs
 obtain ⟨k, cs⟩ := s
 simp only [Sl.er, Sl.mk.injEq] at hs1
 obtain ⟨hk, hcs⟩ := hs1
 obtain ⟨c, rfl, hc⟩ := List.map_eq_singleton_iff.1 hcs
 obtain ⟨cv, cf⟩ := c
 simp only [Cell.er, Cell.mk.injEq] at hc
 obtain ⟨hcv, rfl⟩ := hc
 cases k <;> simp [Kd.er] at hk
 obtain ⟨tg, es0, rfl, hes⟩ := er_row hcv
 subst hes
 have hes0 := intsOf_er es0 zs hz
 have hce := he.cells _ (List.mem_cons_self ..) _ (List.mem_cons_self ..)
 obtain ⟨hshp, ⟨t', es', hte, hmt⟩, hblk⟩ := hce
 simp only at hshp hte hmt hblk
 obtain ⟨rfl, rfl⟩ : tg = t' ∧ es0 = es' := by cases hte; exact ⟨rfl, rfl⟩
 have hown : ∀ b ∈ (VA.row tg es0 : A).blks, b < w.heap.size ∧ ∀ j, ¬ E.old b j := fun b hb => he.own b (by simpa [Sl.own, Sl.boxOwn, Cell.own, Go.Vm.hold, isOs, owns, Bool.or_false, Bool.true_or, Bool.false_or, Bool.false_eq_true, if_false] using hb)
 have hcnt := he.cnt
 have hlen0 : es0.length = zs.length := by rw [hes0, List.length_map]
 have hval : [(⟨.val, [⟨.row tg es0, .mp 0⟩]⟩ : SA)].map (slVal sid) = [.slice tg.a zs.length tg.cap] := by rw [← hlen0]; rfl
 rw [hval, hg]
 refine ⟨enters_of L.f189 (by kernel_rfl) rfl _ _, ?_⟩
 have hlim : zs.length ≤ 1099511627776 := by simpa [lim] using hlen
 have finish : ∀ (w' : World) (es2 : List (List A)), erR es2 = ((sortI zs).map fun n => [.int .i64 n]) → es2.length = es0.length → Shp E.sid w' E.old (.row tg es2) → (∀ b ∈ (VA.row tg es2 : A).blks, b ∈ (VA.row tg es0 : A).blks) → (∀ b, (VA.row tg es2 : A).blks.count b ≤ 1) → w.heap.size ≤ w'.heap.size → Frame E w w' →
   ∃ v rs outs C, Ending.returned (.tuple #[]) = Ending.returned v ∧ Leave E w w' [(⟨.val, [⟨.row tg es0, .mp 0⟩]⟩ : SA)] ⟨[], [.row () ((sortI zs).map fun n => [.int .i64 n])], none⟩ v rs outs C := by
  intro w' es2 h1 h2 h3 h4 h5 h6 h7
  refine ⟨_, [], [.row tg es2], E.old, rfl, ?_⟩
  refine { er := rfl, val := rfl, kinds := by simp, flags := by simp, cells := by simp, box := by simp, cnt := ?_, own := by simp, clt := ?_, cbase := fun b j hb => .inr (.inl hb), frame := h7, outer := ?_, outok := ?_, left := by simp }
  ·intro b; simpa using h5 b
  ·intro b j hb; exact Nat.lt_of_lt_of_le (he.olt b j hb) h6
  ·simp [VA.er, h1]
  ·intro i v hv
   match i with
   | 0 =>
    simp at hv; subst hv
    exact ⟨h3, ⟨tg, es2, rfl, by rw [hmt, h2]⟩, fun b hb => ⟨hblk b (h4 b hb), Nat.lt_of_lt_of_le (hown b (h4 b hb)).1 h6, (hown b (h4 b hb)).2⟩⟩
   | i + 1 => simp at hv
 have cnt0 : ∀ b, (VA.row tg es0 : A).blks.count b ≤ 1 := fun b => by
  have := hcnt b
  simpa [Sl.own, Sl.boxOwn, Cell.own, Go.Vm.hold, isOs, owns, Bool.or_false, Bool.true_or, Bool.false_or, Bool.false_eq_true, if_false] using this
 by_cases hn : zs = []
 ·subst hn
  have : es0 = [] := by rw [hes0]; rfl
  subst this
  refine Calls.mono (Any.slices_Sort_int_none L tg.a tg.cap w) ?_
  rintro e w' ⟨rfl, rfl⟩
  exact finish w' [] (by simp [sortI, erR]) rfl hshp (fun _ h => h) cnt0 (Nat.le_refl _) (Frame.refl E w')
 ·have hne : es0 ≠ [] := fun h => hn (by have := congrArg List.length h; rw [hlen0] at this; exact List.length_eq_zero_iff.1 (by simpa using this))
  cases hshp with
  | nil k => exact absurd rfl hne
  | row b cap k es cur e hb hcap hmax hsize hk hk0 hnil htake hC hr =>
   have hk1 : k = 1 := by
    cases zs with
    | nil => exact absurd rfl hn
    | cons z zs => have := hk [.int .i64 z] (by rw [hes0]; simp); simpa using this.symm
   subst hk1
   rw [Nat.mul_one] at hsize htake
   have hflat : ∀ l : List Int, (l.map fun n => [(.int .i64 n : A)]).flatten.map (VA.val E.sid) = l.map (Value.int .i64) := fun l => by
    induction l with
    | nil => rfl
    | cons x l ih => simp only [List.map_cons, List.flatten_cons, List.map_append, ih]; rfl
   have ht2 : cur.toList.take zs.length = zs.map (Value.int .i64) := by rw [← hlen0, htake, hes0, hflat]
   have hbs : b < w.heap.size := (Array.getElem?_eq_some_iff.1 hb).1
   refine Calls.mono (Any.slices_Sort_int L b 0 cap zs w (holds_of_blockI hb ht2) hbs (by omega)) ?_
   rintro ex w' ⟨rfl, n, os, rfl⟩
   have hsl : (sortI zs).length = zs.length := by unfold sortI; exact List.length_mergeSort zs
   have hh := heap_sortedI (w := w) (g := b) (n := n) (os := os) (sortI zs).toArray hb
   have gb := grownBy_sortedI (w := w) (g := b) (n := n) (os := os) (sortI zs).toArray
   have hcs : zs.length ≤ cur.size := by omega
   refine finish _ ((sortI zs).map fun n => [.int .i64 n]) ?_ (by rw [List.length_map, hsl, hlen0]) ?_ ?_ ?_ gb.size ?_
   ·rw [erR_map, List.map_map]; rfl
   ·refine .row b cap 1 _ (putCells (Value.int .i64) 0 (sortI zs).toArray cur) e hh (by rw [List.length_map, hsl]; omega) hmax (by simp [putCells, hsize]) (by intro x hx; obtain ⟨y, _, rfl⟩ := List.mem_map.1 hx; rfl) (by decide) ?_ ?_ ?_ ?_
    ·intro h
     have := congrArg List.length h
     rw [List.length_map, hsl] at this
     exact absurd (List.length_eq_zero_iff.1 (by simpa using this)) hn
    ·rw [Nat.mul_one, List.length_map, hflat]
     exact take_putCellsI cur (sortI zs) (by omega)
    ·intro j _ ho; exact (hown b (by simp [VA.blks])).2 j ho
    ·intro c hc
     obtain ⟨l, hl, hcl⟩ := List.mem_flatten.1 hc
     obtain ⟨y, _, rfl⟩ := List.mem_map.1 hl
     simp at hcl; subst hcl; exact .int _ _
   ·intro b' hb'
    have hfl : ∀ l : List Int, blkR (l.map fun n => [(.int .i64 n : A)]) = [] := fun l => by
     induction l with
     | nil => rfl
     | cons x l ih => simp [blkR, blkL, VA.blks, ih]
    simp only [VA.blks, hfl, List.append_nil] at hb' ⊢
    simp at hb'; simp [hb']
   ·intro b'
    have hfl : ∀ l : List Int, blkR (l.map fun n => [(.int .i64 n : A)]) = [] := fun l => by
     induction l with
     | nil => rfl
     | cons x l ih => simp [blkR, blkL, VA.blks, ih]
    simp only [VA.blks, hfl, List.append_nil]
    rw [List.count_cons, List.count_nil]; split <;> omega
   ·refine ⟨gb.os, gb.tape, gb.output, gb.size, fun b' hb' hc' => gb.block b' (by have := he.base; omega) ?_⟩
    intro h
    simp only [Option.some.injEq] at h
    subst h
    rcases hblk b' (by simp [VA.blks]) with q | q
    ·omega
    ·exact hc' q
theorem sort_seat {P : Program} {sid : Nat → Nat} {canon : Nat → Option Nat} {g : Nat} {ir : FnIr} {ρ : Ren} (L : Lays.n189 P ρ) (hsp : ir.sp = 3) (hg : sid g = ρ.f 189) : Good P sid canon (g, ir) := by
 refine .inr ⟨by show ir.sp ≠ 0; rw [hsp]; decide, ?_⟩
 show Special P sid g ir.sp
 rw [hsp]
 exact sort_special L hg
end Go.Vm
end
