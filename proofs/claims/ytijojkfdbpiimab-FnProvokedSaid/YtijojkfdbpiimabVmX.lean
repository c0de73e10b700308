/- The library's contracts, as the value machine takes them. -/
import Derived.Test.YtijojkfdbpiimabVmF
import Derived.Shelf.Spec.SlicesGrow
import Derived.Shelf.Sort.Plain
import Derived.Shelf.Slices.In.SortNone
import Derived.Sort.OwnSortedInts
set_option maxHeartbeats 4000000
set_option maxRecDepth 10000
set_option linter.unusedVariables false
set_option linter.unusedSimpArgs false
section
namespace Go.Vm
open Go.Proofs Go.Shelf
theorem special_two {args : List SU} {ret : Ret} (h : special 2 args = some ret) : ∃ n f, args = [⟨.val, [⟨.row () [], .nl⟩]⟩, ⟨.val, [⟨.int .i64 n, f⟩]⟩] ∧ 0 < n ∧ n ≤ lim ∧ ret = ⟨[⟨.val, [⟨.row () [], .ow true⟩]⟩], [], none⟩ := by
 match args, h with
 | [⟨.val, [⟨.row _ [], .nl⟩]⟩, ⟨.val, [⟨.int .i64 n, f⟩]⟩], h =>
  simp only [special] at h
  split at h
  ·rename_i hc
   simp only [Option.some.injEq] at h
   exact ⟨n, f, rfl, hc.1, hc.2, h.symm⟩
  ·cases h
theorem grow_special {P : Program} {sid : Nat → Nat} {g : Nat} {ρ : Ren} (L : Lays8.n4 P ρ) (hg : sid g = ρ.f 4) {i0 : TypeInfo} {z : Value} (hi0 : P.info? (ρ.t 25) = some i0) (hz0 : i0.zero = some z) (hs0 : i0.size = 1) (hb0 : i0.bytes ≤ 128) (hzc : z.cells.size = 1) : Special P sid g 2 := by
 intro E w args ret hP hs he hr
 replace hr : special 2 (args.map Sl.er) = some ret := hr
 obtain ⟨n, f, hargs, hn0, hn1, rfl⟩ := special_two hr
 obtain ⟨s1, rest, rfl, hs1, hrest⟩ := List.map_eq_cons_iff.1 hargs
 obtain ⟨s2, rest2, rfl, hs2, hrest2⟩ := List.map_eq_cons_iff.1 hrest
 have hnil : rest2 = [] := by simpa using hrest2
 subst hnil
 obtain ⟨k1, cs1⟩ := s1
 obtain ⟨k2, cs2⟩ := s2
 simp only [Sl.er, Sl.mk.injEq] at hs1 hs2
 obtain ⟨hk1, hcs1⟩ := hs1
 obtain ⟨hk2, hcs2⟩ := hs2
 obtain ⟨c1, rfl, hc1⟩ := List.map_eq_singleton_iff.1 hcs1
 obtain ⟨c2, rfl, hc2⟩ := List.map_eq_singleton_iff.1 hcs2
 obtain ⟨v1, f1⟩ := c1
 obtain ⟨v2, f2⟩ := c2
 simp only [Cell.er, Cell.mk.injEq] at hc1 hc2
 obtain ⟨hv1, rfl⟩ := hc1
 obtain ⟨hv2, rfl⟩ := hc2
 cases k1 <;> simp [Kd.er] at hk1
 cases k2 <;> simp [Kd.er] at hk2
 have hce := he.cells _ (List.mem_cons_self ..) _ (List.mem_cons_self ..)
 obtain ⟨k, hk⟩ := hce
 simp only at hk
 subst hk
 have hv2' : v2 = .int .i64 n := by cases v2 <;> simp_all [VA.er]
 subst hv2'
 obtain ⟨m, rfl⟩ : ∃ m : Nat, n = (m : Int) := ⟨n.toNat, by omega⟩
 have hm0 : 0 < m := by omega
 have hm1 : m ≤ 1099511627776 := by simp only [lim] at hn1; omega
 have hval : [(⟨.val, [⟨.row ⟨none, 0, k⟩ [], .nl⟩]⟩ : SA), ⟨.val, [⟨.int .i64 (m : Int), f2⟩]⟩].map (slVal sid) = [.slice none 0 0, .int .i64 (m : Int)] := rfl
 rw [hval, hg]
 refine ⟨L.f4.enters rfl _ _, ?_⟩
 have hbig : m * i0.bytes ≤ 1099511627776 * 128 := Nat.mul_le_mul hm1 hb0
 refine Calls.mono (Any8.slices_Grow_grow L i0 z hi0 hz0 (by omega) none 0 0 m [] w (Nat.le_refl _) (by omega) (by rw [Nat.zero_add]; omega) (by omega) (by simp) (fun _ => rfl) (by simp)) ?_
 rintro e w' ⟨rfl, rfl⟩
 rw [Nat.zero_add, Nat.sub_zero]
 have hge : m ≤ grownCap w m 0 (ρ.t 25) := grownCap_ge w _ _ _
 have hle : grownCap w m 0 (ρ.t 25) ≤ maxLen := grownCap_le_maxLen w m 0 _ (by unfold maxLen; omega)
 obtain ⟨cap, hcap⟩ : ∃ cap, cap = grownCap w m 0 (ρ.t 25) := ⟨_, rfl⟩
 rw [← hcap] at hge hle ⊢
 obtain ⟨cur, hcur⟩ : ∃ cur, cur = (#[] : Array Value) ++ Builtin.zeroCells z.cells m ++ Builtin.zeroCells z.cells (cap - m) := ⟨_, rfl⟩
 have hsz : cur.size = cap := by rw [hcur, Array.size_append, Array.size_append, size_zeroCells, size_zeroCells, hzc]; simp; omega
 rw [show (([] : List Value).toArray ++ Builtin.zeroCells z.cells m ++ Builtin.zeroCells z.cells (cap - m)) = cur from hcur.symm]
 have hnew : (w.drew.alloc (.cells cur (ρ.t 25))).heap[w.heap.size]? = some (.cells cur (ρ.t 25) (0, 0)) := pushed_new w.drew _
 have hlt : w.heap.size < (w.drew.alloc (.cells cur (ρ.t 25))).heap.size := pushed_size w.drew _
 have hold : ∀ j, ¬ E.old w.heap.size j := fun j hj => Nat.lt_irrefl _ (he.olt _ j hj)
 have hbase := he.base
 refine ⟨_, [⟨.val, [⟨.row ⟨some ⟨w.heap.size, 0, none⟩, cap, 1⟩ [], .ow true⟩]⟩], [], E.old, rfl, ?_⟩
 refine { er := rfl, val := rfl, kinds := ?_, flags := ?_, cells := ?_, box := ?_, cnt := ?_, own := ?_, clt := ?_, cbase := ?_, frame := ?_, outer := rfl, outok := by simp, left := by simp }
 ·intro s hs; simp at hs; subst hs; exact .inl ⟨rfl, _, rfl⟩
 ·intro s hs x hx; simp at hs; subst hs; simp at hx; subst hx; exact .inr (.inr (.inl ⟨_, rfl⟩))
 ·intro s hs x hx; simp at hs; subst hs; simp at hx; subst hx
  refine ⟨rfl, ?_, ?_⟩
  ·exact ⟨w.heap.size, cap, cur, ρ.t 25, rfl, hnew, hle, hsz, hold⟩
  ·intro b hb; simp [VA.blks, blkR] at hb; omega
 ·intro s hs t ht; simp at hs; subst hs; cases ht
 ·intro b
  simp only [List.flatMap_cons, List.flatMap_nil, Sl.own, Sl.boxOwn, Cell.own, owns, if_true, VA.blks, blkR, List.append_nil, List.nil_append, List.count_nil, Nat.add_zero]
  rw [List.count_cons, List.count_nil]; split <;> omega
 ·intro b hb
  simp [Sl.own, Sl.boxOwn, Cell.own, owns, VA.blks, blkR] at hb
  subst hb
  exact ⟨by omega, hlt⟩
 ·intro b j hb; exact Nat.lt_trans (he.olt b j hb) hlt
 ·intro b j hb; exact .inr (.inl hb)
 ·exact ⟨rfl, rfl, rfl, Nat.le_of_lt hlt, fun b h _ => (pushed_grow w.drew _).block b (by show b < w.heap.size; omega)⟩
theorem grow_seat {P : Program} {sid : Nat → Nat} {canon : Nat → Option Nat} {g : Nat} {ir : FnIr} {ρ : Ren} (L : Lays8.n4 P ρ) (hsp : ir.sp = 2) (hg : sid g = ρ.f 4) {i0 : TypeInfo} {z : Value} (hi0 : P.info? (ρ.t 25) = some i0) (hz0 : i0.zero = some z) (hs0 : i0.size = 1) (hb0 : i0.bytes ≤ 128) (hzc : z.cells.size = 1) : Good P sid canon (g, ir) := by
 refine .inr ⟨by show ir.sp ≠ 0; rw [hsp]; decide, ?_⟩
 show Special P sid g ir.sp
 rw [hsp]
 exact grow_special L hg hi0 hz0 hs0 hb0 hzc
end Go.Vm
end
section
namespace Go.Vm
open Go.Proofs Go.Shelf Go.Sort
theorem special_three {args : List SU} {ret : Ret} (h : special 3 args = some ret) : ∃ es zs, args = [⟨.val, [⟨.row () es, .mp 0⟩]⟩] ∧ intsOf es = some zs ∧ zs.length ≤ lim ∧ ret = ⟨[], [.row () ((sortI zs).map fun n => [.int .i64 n])], none⟩ := by
 match args, h with
 | [⟨.val, [⟨.row _ es, .mp 0⟩]⟩], h =>
  simp only [special] at h
  split at h
  ·rename_i zs hz
   split at h
   ·rename_i hc
    simp only [Option.some.injEq] at h
    exact ⟨es, zs, rfl, hz, hc, h.symm⟩
   ·cases h
  ·cases h
theorem intsOf_cons {x : List V} {es : List (List V)} {zs : List Int} (h : intsOf (x :: es) = some zs) : ∃ n l, x = [.int .i64 n] ∧ intsOf es = some l ∧ zs = n :: l := by
 unfold intsOf at h
 split at h
 ·rename_i heq; cases heq
 ·rename_i n es' heq
  cases heq
  rw [Option.map_eq_some_iff] at h
  obtain ⟨l, h1, rfl⟩ := h
  exact ⟨n, l, rfl, h1, rfl⟩
 ·cases h
theorem intsOf_er : ∀ (es0 : List (List A)) (zs : List Int), intsOf (erR es0) = some zs → es0 = zs.map fun n => [.int .i64 n]
 | [], zs, h => by
  have : zs = [] := by simpa [erR, intsOf] using h.symm
  rw [this]; rfl
 | e :: es, zs, h => by
  rw [erR] at h
  obtain ⟨n, l, h1, h2, rfl⟩ := intsOf_cons h
  rw [erL_map] at h1
  obtain ⟨c, rfl, hc⟩ := List.map_eq_singleton_iff.1 h1
  have hc' : c = .int .i64 n := by cases c <;> simp_all [VA.er]
  rw [hc', intsOf_er es l h2]; rfl
theorem sort_special {P : Program} {sid : Nat → Nat} {g : Nat} {ρ : Ren} (L : Lays.n189 P ρ) (hg : sid g = ρ.f 189) : Special P sid g 3 := by
 intro E w args ret hP hs he hr
 replace hr : special 3 (args.map Sl.er) = some ret := hr
 obtain ⟨es, zs, hargs, hz, hlen, rfl⟩ := special_three hr
 obtain ⟨s, rfl, hs1⟩ := List.map_eq_singleton_iff.1 hargs
 obtain ⟨k, cs⟩ := s
 simp only [Sl.er, Sl.mk.injEq] at hs1
 obtain ⟨hk, hcs⟩ := hs1
 obtain ⟨c, rfl, hc⟩ := List.map_eq_singleton_iff.1 hcs
 obtain ⟨cv, cf⟩ := c
 simp only [Cell.er, Cell.mk.injEq] at hc
 obtain ⟨hcv, rfl⟩ := hc
 cases k <;> simp [Kd.er] at hk
 obtain ⟨tg, es0, rfl, hes⟩ := er_row hcv
 subst hes
 have hes0 := intsOf_er es0 zs hz
 have hce := he.cells _ (List.mem_cons_self ..) _ (List.mem_cons_self ..)
 obtain ⟨hshp, ⟨t', es', hte, hmt⟩, hblk⟩ := hce
 simp only at hshp hte hmt hblk
 obtain ⟨rfl, rfl⟩ : tg = t' ∧ es0 = es' := by cases hte; exact ⟨rfl, rfl⟩
 have hown : ∀ b ∈ (VA.row tg es0 : A).blks, b < w.heap.size ∧ ∀ j, ¬ E.old b j := fun b hb => he.own b (by simpa [Sl.own, Sl.boxOwn, Cell.own, owns] using hb)
 have hcnt := he.cnt
 have hlen0 : es0.length = zs.length := by rw [hes0, List.length_map]
 have hval : [(⟨.val, [⟨.row tg es0, .mp 0⟩]⟩ : SA)].map (slVal sid) = [.slice tg.a zs.length tg.cap] := by rw [← hlen0]; rfl
 rw [hval, hg]
 refine ⟨enters_of L.f189 (by kernel_rfl) rfl _ _, ?_⟩
 have hlim : zs.length ≤ 1099511627776 := by simpa [lim] using hlen
 have finish : ∀ (w' : World) (es2 : List (List A)), erR es2 = ((sortI zs).map fun n => [.int .i64 n]) → es2.length = es0.length → Shp E.sid w' E.old (.row tg es2) → (∀ b ∈ (VA.row tg es2 : A).blks, b ∈ (VA.row tg es0 : A).blks) → (∀ b, (VA.row tg es2 : A).blks.count b ≤ 1) → w.heap.size ≤ w'.heap.size → Frame E w w' →
   ∃ v rs outs C, Ending.returned (.tuple #[]) = Ending.returned v ∧ Leave E w w' [(⟨.val, [⟨.row tg es0, .mp 0⟩]⟩ : SA)] ⟨[], [.row () ((sortI zs).map fun n => [.int .i64 n])], none⟩ v rs outs C := by
  intro w' es2 h1 h2 h3 h4 h5 h6 h7
  refine ⟨_, [], [.row tg es2], E.old, rfl, ?_⟩
  refine { er := rfl, val := rfl, kinds := by simp, flags := by simp, cells := by simp, box := by simp, cnt := ?_, own := by simp, clt := ?_, cbase := fun b j hb => .inr (.inl hb), frame := h7, outer := ?_, outok := ?_, left := by simp }
  ·intro b; simpa using h5 b
  ·intro b j hb; exact Nat.lt_of_lt_of_le (he.olt b j hb) h6
  ·simp [VA.er, h1]
  ·intro i v hv
   match i with
   | 0 =>
    simp at hv; subst hv
    exact ⟨h3, ⟨tg, es2, rfl, by rw [hmt, h2]⟩, fun b hb => ⟨hblk b (h4 b hb), Nat.lt_of_lt_of_le (hown b (h4 b hb)).1 h6, (hown b (h4 b hb)).2⟩⟩
   | i + 1 => simp at hv
 have cnt0 : ∀ b, (VA.row tg es0 : A).blks.count b ≤ 1 := fun b => by
  have := hcnt b
  simpa [Sl.own, Sl.boxOwn, Cell.own, owns] using this
 by_cases hn : zs = []
 ·subst hn
  have : es0 = [] := by rw [hes0]; rfl
  subst this
  refine Calls.mono (Any.slices_Sort_int_none L tg.a tg.cap w) ?_
  rintro e w' ⟨rfl, rfl⟩
  exact finish w' [] (by simp [sortI, erR]) rfl hshp (fun _ h => h) cnt0 (Nat.le_refl _) (Frame.refl E w')
 ·have hne : es0 ≠ [] := fun h => hn (by have := congrArg List.length h; rw [hlen0] at this; exact List.length_eq_zero_iff.1 (by simpa using this))
  cases hshp with
  | nil k => exact absurd rfl hne
  | row b cap k es cur e hb hcap hmax hsize hk hk0 hnil htake hC hr =>
   have hk1 : k = 1 := by
    cases zs with
    | nil => exact absurd rfl hn
    | cons z zs => have := hk [.int .i64 z] (by rw [hes0]; simp); simpa using this.symm
   subst hk1
   rw [Nat.mul_one] at hsize htake
   have hflat : ∀ l : List Int, (l.map fun n => [(.int .i64 n : A)]).flatten.map (VA.val E.sid) = l.map (Value.int .i64) := fun l => by
    induction l with
    | nil => rfl
    | cons x l ih => simp only [List.map_cons, List.flatten_cons, List.map_append, ih]; rfl
   have ht2 : cur.toList.take zs.length = zs.map (Value.int .i64) := by rw [← hlen0, htake, hes0, hflat]
   have hbs : b < w.heap.size := (Array.getElem?_eq_some_iff.1 hb).1
   refine Calls.mono (Any.slices_Sort_int L b 0 cap zs w (holds_of_blockI hb ht2) hbs (by omega)) ?_
   rintro ex w' ⟨rfl, n, os, rfl⟩
   have hsl : (sortI zs).length = zs.length := by unfold sortI; exact List.length_mergeSort zs
   have hh := heap_sortedI (w := w) (g := b) (n := n) (os := os) (sortI zs).toArray hb
   have gb := grownBy_sortedI (w := w) (g := b) (n := n) (os := os) (sortI zs).toArray
   have hcs : zs.length ≤ cur.size := by omega
   refine finish _ ((sortI zs).map fun n => [.int .i64 n]) ?_ (by rw [List.length_map, hsl, hlen0]) ?_ ?_ ?_ gb.size ?_
   ·rw [erR_map, List.map_map]; rfl
   ·refine .row b cap 1 _ (putCells (Value.int .i64) 0 (sortI zs).toArray cur) e hh (by rw [List.length_map, hsl]; omega) hmax (by simp [putCells, hsize]) (by intro x hx; obtain ⟨y, _, rfl⟩ := List.mem_map.1 hx; rfl) (by decide) ?_ ?_ ?_ ?_
    ·intro h
     have := congrArg List.length h
     rw [List.length_map, hsl] at this
     exact absurd (List.length_eq_zero_iff.1 (by simpa using this)) hn
    ·rw [Nat.mul_one, List.length_map, hflat]
     exact take_putCellsI cur (sortI zs) (by omega)
    ·intro j _ ho; exact (hown b (by simp [VA.blks])).2 j ho
    ·intro c hc
     obtain ⟨l, hl, hcl⟩ := List.mem_flatten.1 hc
     obtain ⟨y, _, rfl⟩ := List.mem_map.1 hl
     simp at hcl; subst hcl; exact .int _ _
   ·intro b' hb'
    have hfl : ∀ l : List Int, blkR (l.map fun n => [(.int .i64 n : A)]) = [] := fun l => by
     induction l with
     | nil => rfl
     | cons x l ih => simp [blkR, blkL, VA.blks, ih]
    simp only [VA.blks, hfl, List.append_nil] at hb' ⊢
    simp at hb'; simp [hb']
   ·intro b'
    have hfl : ∀ l : List Int, blkR (l.map fun n => [(.int .i64 n : A)]) = [] := fun l => by
     induction l with
     | nil => rfl
     | cons x l ih => simp [blkR, blkL, VA.blks, ih]
    simp only [VA.blks, hfl, List.append_nil]
    rw [List.count_cons, List.count_nil]; split <;> omega
   ·refine ⟨gb.os, gb.tape, gb.output, gb.size, fun b' hb' hc' => gb.block b' (by have := he.base; omega) ?_⟩
    intro h
    simp only [Option.some.injEq] at h
    subst h
    rcases hblk b' (by simp [VA.blks]) with q | q
    ·omega
    ·exact hc' q
theorem sort_seat {P : Program} {sid : Nat → Nat} {canon : Nat → Option Nat} {g : Nat} {ir : FnIr} {ρ : Ren} (L : Lays.n189 P ρ) (hsp : ir.sp = 3) (hg : sid g = ρ.f 189) : Good P sid canon (g, ir) := by
 refine .inr ⟨by show ir.sp ≠ 0; rw [hsp]; decide, ?_⟩
 show Special P sid g ir.sp
 rw [hsp]
 exact sort_special L hg
end Go.Vm
end
