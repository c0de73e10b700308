/- The value machine, part 3: code read as work on values, and its soundness over memory. -/
import Derived.Test.YtmojgceacpclpaaVmB
set_option maxHeartbeats 4000000
set_option maxRecDepth 10000
set_option linter.unusedVariables false
set_option linter.unusedSimpArgs false
section
namespace Go.Vm
section
variable {E : Env} {cx : Cx} {S : StA} {X : List (Cell Tg)} {C : Nat → Nat → Prop} {a : Act} {w w' : World}
theorem hand_apart {zs : List (Cell Tg)} {d : Cell Tg} (h : Inv E S (zs ++ d :: X) C a w) {b : Nat} (hb : b ∈ d.own) : b ∈ ownAll S (zs ++ d :: X) ∧ b ∉ S.flatMap Sl.own := by
 have h1 : 0 < ((zs ++ d :: X).flatMap Cell.own).count b := List.count_pos_iff.2 (List.mem_flatMap.2 ⟨d, by simp, hb⟩)
 refine ⟨List.mem_append.2 (.inr (List.count_pos_iff.1 h1)), fun hm => ?_⟩
 have h2 := h.cnt b
 have h3 := List.count_pos_iff.2 hm
 simp only [ownAll, List.count_append] at h2 h1
 omega
theorem own_in_slots {i q : Nat} {y : Cell Tg} (hy : cellAt S i q = some y) (ho : owns y.f = true) {b : Nat} (hb : b ∈ y.v.blks) : b ∈ S.flatMap Sl.own := by
 obtain ⟨sl, hs, hc⟩ := cellAt_some hy
 refine List.mem_flatMap.2 ⟨sl, List.mem_of_getElem? hs, ?_⟩
 unfold Sl.own
 exact List.mem_append.2 (.inr (List.mem_flatMap.2 ⟨y, List.mem_of_getElem? hc, own_of ho hb⟩))
theorem tail_hand {zs : List (Cell Tg)} {d : Cell Tg} (h : Inv E S (zs ++ d :: X) C a w) {b n : Nat} (hb : b ∈ d.own) (hrd : Rd E.sid w C d.v) (ht : Tail w w' b n) (hC : ∀ j, n ≤ j → ¬ C b j) : Inv E S (zs ++ d :: X) C a w' := by
 have hdm : d ∈ cellsAll S (zs ++ d :: X) := mem_hand (by simp)
 refine h.tail ht (fun j hj => Nat.lt_of_not_le fun hn => hC j hn hj) (fun x hx hox hbx => ?_) (fun s hs hbs => ?_) (fun x hx p q r hxf y hy hg hbx => ?_)
 ·obtain rfl := h.one hx hdm (own_of hox hbx) hb
  exact hrd
 ·obtain ⟨i, hi⟩ := List.mem_iff_getElem?.1 hs
  exact h.boxApart hi hbs hdm hb
 ·obtain ⟨h1, h2⟩ := hand_apart h hb
  have hk := h.ok x hx
  obtain ⟨v, f⟩ := x
  simp only at hxf; subst hxf
  rcases (hk.2.2 y hy hg).2 with h3 | ⟨t, es, u, e1, e2, e3, _⟩
  ·exact (h3 b hbx).1 h1
  ·refine h2 (own_in_slots hy ?_ ?_)
   ·obtain ⟨g, hg⟩ := hg; rw [hg]; rfl
   ·rw [e1]
    exact blks_mem (List.mem_of_getElem? e2) (e3 ▸ hbx)
theorem appended {cur : Array Value} {n k : Nat} {xs news : List Value} (hx : cur.toList.take (n * k) = xs) (hxl : xs.length = n * k) {m cap : Nat} (hl : news.length = m * k) (hroom : n + m ≤ cap) (hsz : cur.size = cap * k) :
  (cur.toList.take (n * k) ++ news ++ cur.toList.drop (n * k + news.length)).toArray.size = cap * k ∧
  (cur.toList.take (n * k) ++ news ++ cur.toList.drop (n * k + news.length)).toArray.toList.take ((n + m) * k) = xs ++ news ∧
  ∀ j, j < n * k → (cur.toList.take (n * k) ++ news ++ cur.toList.drop (n * k + news.length)).toArray[j]? = cur[j]? := by
 have hfit : n * k + news.length ≤ cur.size := by rw [hl, hsz, ← Nat.add_mul]; exact Nat.mul_le_mul_right _ hroom
 refine ⟨?_, ?_, fun j hj => ?_⟩
 ·simp only [List.size_toArray, List.length_append, List.length_take, List.length_drop, Array.length_toList]
  omega
 ·rw [hx]
  have : (n + m) * k = (xs ++ news).length := by rw [List.length_append, hxl, hl, Nat.add_mul]
  rw [this]
  exact List.take_left
 ·rw [hx, List.getElem?_toArray, List.append_assoc, List.getElem?_append_left (by omega), ← hx, List.getElem?_take, if_pos hj, Array.getElem?_toList]
theorem own_elems {zs : List (Cell Tg)} {t : Tg} {es : List (List A)} {g : Bool} (h : Inv E S (zs ++ (⟨.row t es, .ow g⟩ : Cell Tg) :: X) C a w) :
  (∀ c ∈ es.flatten, Shp E.sid w C c ∧ ∀ b ∈ c.blks, E.base ≤ b) ∧ (∀ b ∈ (VA.row t es : A).blks, E.base ≤ b) := by
 have hk := h.hand ⟨.row t es, .ow g⟩ (by simp)
 obtain ⟨_, k2, k3⟩ := hk
 refine ⟨fun c hc => ⟨?_, fun b hb => k3 b (blks_mem hc hb)⟩, k3⟩
 cases g with
 | false =>
  have k2 : Shp E.sid w C (.row t es) := by simpa [Shp'] using k2
  cases k2 with
  | nil => simp at hc
  | row b cap k es cur e hb hcap hmax hsize hk hk0 hne htake hfree hr => exact hr c hc
 | true =>
  have k2 : ShpG w C (.row t es) := by simpa [Shp'] using k2
  obtain ⟨_, _, _, _, e1, _⟩ := k2
  simp only [VA.row.injEq] at e1
  rw [e1.2] at hc
  simp at hc
theorem setRow_frame (w : World) (g : Nat) (cs : Array Value) (hg : E.base ≤ g ∨ E.chg g) : Frame E w (w.setRow g cs) :=
 ⟨rfl, rfl, rfl, by rw [setRow_size]; exact Nat.le_refl _, fun b hb hc => setRow_other w g b cs (fun e => by subst e; rcases hg with hg | hg; omega; exact hc hg)⟩
theorem drew_grow (w : World) : Grow w w.drew := ⟨Nat.le_refl _, fun _ _ => rfl⟩
theorem drew_frame (E : Env) (w : World) : Frame E w w.drew := ⟨rfl, rfl, rfl, Nat.le_refl _, fun _ _ _ => rfl⟩
theorem grown_cells {xs : List Value} {k n cap : Nat} {z : Array Value} (hl : xs.length = n * k) (hz : z.size = k) (hcap : n ≤ cap) :
  (xs.toArray ++ Builtin.zeroCells z (cap - n)).size = cap * k ∧ (xs.toArray ++ Builtin.zeroCells z (cap - n)).toList.take (n * k) = xs := by
 refine ⟨?_, ?_⟩
 ·rw [Array.size_append, size_zeroCells, hz, List.size_toArray, hl, ← Nat.add_mul]
  congr 1
  omega
 ·rw [Array.toList_append, ← hl]
  exact List.take_left
theorem append_new {zs : List (Cell Tg)} (h : Inv E S (zs ++ X) C a w) (hb : E.base ≤ w.heap.size) {t u ty e e' : TypeId} {i : TypeInfo} {z : Value} (ht : E.P.underlying t = some (.slice e)) (hu : E.P.underlying u = some (.slice e')) (hi : E.P.info? e = some i) (hz : i.zero = some z)
  (hzs : z.cells.size = i.size) (hk0 : 0 < i.size) (hby : i.bytes ≤ 128) {tx ty' : Tg} {es ys : List (List A)} (hxs : Rd E.sid w C (.row tx es)) (hkx : ∀ e ∈ es, e.length = i.size) (hys : Rd E.sid w C (.row ty' ys)) (hky : ∀ e ∈ ys, e.length = i.size)
  (hcap : tx.cap < es.length + ys.length) (hlim : es.length + ys.length ≤ 1099511627776) {ok : Lv} (hfr : ok = .fre → ∀ c ∈ (es ++ ys).flatten, Fre E c)
  (hok : ok = .own → (∀ c ∈ (es ++ ys).flatten, Shp E.sid w C c ∧ ∀ b ∈ c.blks, E.base ≤ b) ∧ ∀ b, ((es ++ ys).flatten.flatMap VA.blks).count b ≤ (zs.flatMap Cell.own).count b) :
  ∃ v w' C1 t1, (Builtin.append_ #[t, u] ty #[(VA.row tx es : A).val E.sid, (VA.row ty' ys : A).val E.sid]).run E.P w = .ok v w' ∧ Made E S X C1 a w' ⟨.val, [⟨.row t1 (es ++ ys), rowFl ok⟩]⟩ v ∧ Frame E w w' ∧
   t1.a = some ⟨w.heap.size, 0, none⟩ ∧ (ok = .own → C1 = C) := by
 have hrun := run_append_new (P := E.P) (ty := ty) ht hu hi hz hxs hkx hys hky hcap hlim hby
 have hk : ∀ e ∈ es ++ ys, e.length = i.size := by
  intro e he
  rcases List.mem_append.1 he with he | he
  ·exact hkx e he
  ·exact hky e he
 have hge := grownCap_ge w (es.length + ys.length) tx.cap e
 have hle := grownCap_le_maxLen w (es.length + ys.length) tx.cap e (by simp only [maxLen]; omega)
 have hll : ((es ++ ys).flatten.map (VA.val E.sid)).length = (es.length + ys.length) * i.size := by rw [List.length_map, flatten_length hk, List.length_append]
 obtain ⟨c1, c2⟩ := grown_cells (z := z.cells) hll hzs hge
 have hd : Inv E S (zs ++ X) C a w.drew := h.grow (drew_grow w)
 have hrd : ∀ {v : A}, Rd E.sid w C v → Rd E.sid w.drew C v := fun hr => hr.mono (fun _ _ => id) (fun _ _ _ => rfl)
 have hne : es ++ ys = [] → grownCap w (es.length + ys.length) tx.cap e = 0 := by
  intro he
  rw [List.append_eq_nil_iff] at he
  rw [he.1, he.2] at hcap
  simp at hcap
 cases ok with
 | own =>
  obtain ⟨q1, q2⟩ := hok rfl
  have hmade := made_rowc hd hb e hk hk0 (by rw [List.length_append]; exact hge) hle c1 hne (by rw [List.length_append]; exact c2) (fun c hc => ⟨(q1 c hc).1.mono (fun _ _ _ => id) (fun _ _ => rfl), (q1 c hc).2⟩) q2
  rw [List.length_append] at hmade
  exact ⟨_, _, C, _, hrun, hmade, (drew_frame E w).trans (pushed_frame E w.drew _ hb), rfl, fun _ => rfl⟩
 | fre =>
  have hmade := made_rowc_os hd hb e hk hk0 (by rw [List.length_append]; exact hge) hle c1 hne (by rw [List.length_append]; exact c2) (fun c hc => ⟨by
   rw [List.flatten_append] at hc
   rcases List.mem_append.1 hc with hc | hc
   ·exact hrd (hxs.sub hc)
   ·exact hrd (hys.sub hc), hfr rfl c hc⟩)
  rw [List.length_append] at hmade
  exact ⟨_, _, _, _, hrun, hmade, (drew_frame E w).trans (pushed_frame E w.drew _ hb), rfl, by simp⟩
 | any =>
  have hmade := made_rowc_no hd hb e hk (by rw [List.length_append]; exact hge) (cur := ((es ++ ys).flatten.map (VA.val E.sid)).toArray ++ Builtin.zeroCells z.cells (grownCap w (es.length + ys.length) tx.cap e - (es.length + ys.length))) (by rw [List.length_append]; exact c2) (fun c hc => by
   rw [List.flatten_append] at hc
   rcases List.mem_append.1 hc with hc | hc
   ·exact hrd (hxs.sub hc)
   ·exact hrd (hys.sub hc))
  rw [List.length_append] at hmade
  exact ⟨_, _, _, _, hrun, hmade, (drew_frame E w).trans (pushed_frame E w.drew _ hb), rfl, by simp⟩
theorem append_blk {zs : List (Cell Tg)} {b cap k : Nat} {g : Bool} {es : List (List A)} (h : Inv E S (zs ++ (⟨.row ⟨some ⟨b, 0, none⟩, cap, k⟩ es, .ow g⟩ : Cell Tg) :: X) C a w) (hb : E.base ≤ w.heap.size)
  {t u ty e e' : TypeId} {i : TypeInfo} {z : Value} (ht : E.P.underlying t = some (.slice e)) (hu : E.P.underlying u = some (.slice e')) (hi : E.P.info? e = some i) (hz : i.zero = some z)
  (hzs : z.cells.size = i.size) (hik : i.size = k) (hk0 : 0 < k) (hby : i.bytes ≤ 128)
  {cur : Array Value} {T : TypeId} (hheap : w.heap[b]? = some (.cells cur T (0, 0))) (hmax : cap ≤ maxLen) (hsize : cur.size = cap * k) (hkx : ∀ e ∈ es, e.length = k)
  (htake : cur.toList.take (es.length * k) = es.flatten.map (VA.val E.sid)) (hfree : ∀ j, es.length * k ≤ j → ¬ C b j)
  {t' : Tg} {ys : List (List A)} (hys : Rd E.sid w C (.row t' ys)) (hky : ∀ e ∈ ys, e.length = k) (hlim : es.length + ys.length ≤ 1099511627776) {ok : Lv} (hok : ok = .own → Mine zs t' ys) (hfr : ok = .fre → ∀ c ∈ ys.flatten, Fre E c) (hne : es ++ ys = [] → cap = 0) :
  ∃ v w' C1 t1, (Builtin.append_ #[t, u] ty #[.slice (some ⟨b, 0, none⟩) es.length cap, (VA.row t' ys : A).val E.sid]).run E.P w = .ok v w' ∧ Made E S X C1 a w' ⟨.val, [⟨.row t1 (es ++ ys), rowFl ok⟩]⟩ v ∧ Frame E w w' := by
 subst hik
 have hdm : (⟨.row ⟨some ⟨b, 0, none⟩, cap, i.size⟩ es, .ow g⟩ : Cell Tg) ∈ cellsAll S (zs ++ (⟨.row ⟨some ⟨b, 0, none⟩, cap, i.size⟩ es, .ow g⟩ : Cell Tg) :: X) := mem_hand (by simp)
 have hbm : b ∈ (VA.row ⟨some ⟨b, 0, none⟩, cap, i.size⟩ es : A).blks := by simp [VA.blks]
 have hnd := h.nodupOwn hdm rfl
 have h1 := h.commit hdm rfl
 have hxs : Rd E.sid w (fun b' j => C b' j ∨ InC (.row ⟨some ⟨b, 0, none⟩, cap, i.size⟩ es : A) b' j) (.row ⟨some ⟨b, 0, none⟩, cap, i.size⟩ es) := by
  have hk := h.hand (⟨.row ⟨some ⟨b, 0, none⟩, cap, i.size⟩ es, .ow g⟩ : Cell Tg) (by simp)
  exact own_rd hk.2.1
 have hys1 : Rd E.sid w (fun b' j => C b' j ∨ InC (.row ⟨some ⟨b, 0, none⟩, cap, i.size⟩ es : A) b' j) (.row t' ys) := hys.mono (fun _ _ => .inl) (fun _ _ _ => rfl)
 have hfree1 : ∀ j, es.length * i.size ≤ j → ¬ (C b j ∨ InC (.row ⟨some ⟨b, 0, none⟩, cap, i.size⟩ es : A) b j) := by
  rintro j hj (hc | hc)
  ·exact hfree j hj hc
  ·have hnd' : b ∉ es.flatten.flatMap VA.blks ∧ (es.flatten.flatMap VA.blks).Nodup := by simpa [VA.blks, blkR_map] using hnd
   cases hc with
   | here _ _ _ _ _ hlt => rw [flatten_length hkx] at hlt; omega
   | there _ _ c _ _ hc hi => exact hnd'.1 (List.mem_flatMap.2 ⟨c, hc, hi.blk⟩)
 have hkk : ∀ e ∈ es ++ ys, e.length = i.size := by
  intro e he
  rcases List.mem_append.1 he with he | he
  ·exact hkx e he
  ·exact hky e he
 have hcount : ok = .own → ∀ {w' : World} {C' : Nat → Nat → Prop}, Inv E S (zs ++ (⟨.row ⟨some ⟨b, 0, none⟩, cap, i.size⟩ es, .ow g⟩ : Cell Tg) :: X) C' a w' →
   (∀ c ∈ (es ++ ys).flatten, Shp E.sid w' C' c ∧ ∀ b ∈ c.blks, E.base ≤ b) ∧ ∀ x, ([b].count x + ((es ++ ys).flatten.flatMap VA.blks).count x ≤ ((zs ++ [(⟨.row ⟨some ⟨b, 0, none⟩, cap, i.size⟩ es, .ow g⟩ : Cell Tg)]).flatMap Cell.own).count x) := by
  intro hokt w' C' hi'
  obtain ⟨p1, p2⟩ := own_elems hi'
  obtain ⟨q1, q2⟩ := mine_elems hi' (hok hokt)
  refine ⟨fun c hc => ?_, fun x => ?_⟩
  ·rw [List.flatten_append] at hc
   rcases List.mem_append.1 hc with hc | hc
   ·exact p1 c hc
   ·exact q1 c hc
  ·have := q2 x
   simp only [List.flatMap_append, List.flatMap_cons, List.flatMap_nil, List.append_nil, List.flatten_append, List.count_append, Cell.own, hold, isOs, owns, Bool.or_false, Bool.true_or, Bool.false_eq_true, if_false, if_true, VA.blks, blkR_map]
   omega
 by_cases hroom : es.length + ys.length ≤ cap
 ·have hrun := run_append_in (P := E.P) (ty := ty) ht hu hi hheap hys hky hroom hsize
  have hxl : (es.flatten.map (VA.val E.sid)).length = es.length * i.size := by rw [List.length_map, flatten_length hkx]
  have hyl : (ys.flatten.map (VA.val E.sid)).length = ys.length * i.size := by rw [List.length_map, flatten_length hky]
  have hap := appended htake hxl hyl hroom hsize
  rw [List.length_map] at hap
  obtain ⟨c1, c2, c3⟩ := hap
  have hh' := setRow_heap w b cur (cur.toList.take (es.length * i.size) ++ ys.flatten.map (VA.val E.sid) ++ cur.toList.drop (es.length * i.size + ys.flatten.length)).toArray T (0, 0) hheap
  generalize hcur : (cur.toList.take (es.length * i.size) ++ ys.flatten.map (VA.val E.sid) ++ cur.toList.drop (es.length * i.size + ys.flatten.length)).toArray = cur' at hrun hh' c1 c2 c3
  have htail : Tail w (w.setRow b cur') b (es.length * i.size) := ⟨⟨cur, cur', T, T, hheap, hh', c1.trans hsize.symm, c3⟩, setRow_size w b cur', fun b' hb' => setRow_other w b b' cur' hb'⟩
  have h2 := tail_hand h1 (own_of rfl hbm) hxs htail hfree1
  have hbase := (own_elems h1).2 b hbm
  have hfr' : Frame E w (w.setRow b cur') := setRow_frame w b cur' (.inl hbase)
  have hCt : ∀ j, (C b j ∨ InC (.row ⟨some ⟨b, 0, none⟩, cap, i.size⟩ es : A) b j) → j < es.length * i.size := fun j hj => Nat.lt_of_not_le fun hn => hfree1 j hn hj
  have htake' : cur'.toList.take ((es ++ ys).length * i.size) = (es ++ ys).flatten.map (VA.val E.sid) := by
   rw [List.length_append, c2, List.flatten_append, List.map_append]
  cases ok with
  | own =>
   obtain ⟨q1, q2⟩ := hcount rfl h2
   have hblks : (VA.row ⟨some ⟨b, 0, none⟩, cap, i.size⟩ (es ++ ys) : A).blks = b :: (es ++ ys).flatten.flatMap VA.blks := by simp only [VA.blks, blkR_map]; rfl
   refine ⟨_, _, fun b' j => C b' j ∨ InC (.row ⟨some ⟨b, 0, none⟩, cap, i.size⟩ es : A) b' j, ⟨some ⟨b, 0, none⟩, cap, i.size⟩, hrun, ⟨?_, fun _ => ⟨_, rfl, by simp [VA.val]⟩, by simp, by simp, by simp⟩, hfr'⟩
   have h3 : Inv E S ((zs ++ [(⟨.row ⟨some ⟨b, 0, none⟩, cap, i.size⟩ es, .ow g⟩ : Cell Tg)]) ++ X) (fun b' j => C b' j ∨ InC (.row ⟨some ⟨b, 0, none⟩, cap, i.size⟩ es : A) b' j) a (w.setRow b cur') := by
    rw [List.append_assoc]; exact h2
   refine h3.rehand (less_hand (rs := [⟨.row ⟨some ⟨b, 0, none⟩, cap, i.size⟩ (es ++ ys), .ow false⟩]) (fun x => ?_)) (fun r hr => ?_) (fun r hr => ?_)
   ·have := q2 x
    simp only [List.flatMap_cons, List.flatMap_nil, List.append_nil, Cell.own, hold, isOs, owns, Bool.or_false, Bool.true_or, Bool.false_eq_true, if_false, if_true, hblks, List.count_cons] at this ⊢
    simp only [List.count_nil] at this
    omega
   ·rcases List.mem_append.1 hr with hr | hr
    ·simp only [List.mem_singleton] at hr
     subst hr
     refine ⟨rfl, ?_, fun x hx => ?_⟩
     ·show Shp' E.sid _ _ false _
      simp only [Shp', Bool.false_eq_true, if_false]
      refine .row b cap i.size (es ++ ys) cur' T hh' (by rw [List.length_append]; exact hroom) hmax c1 hkk hk0 hne htake' (fun j hj => hfree1 j ?_) (fun c hc => (q1 c hc).1)
      refine Nat.le_trans (Nat.mul_le_mul_right _ ?_) hj
      rw [List.length_append]; omega
     ·rw [hblks] at hx
      rcases List.mem_cons.1 hx with rfl | hx
      ·exact hbase
      ·obtain ⟨c, hc, hxc⟩ := List.mem_flatMap.1 hx
       exact (q1 c hc).2 x hxc
    ·exact h3.hand r (List.mem_append.2 (.inr hr))
   ·rcases List.mem_append.1 hr with hr | hr
    ·simp only [List.mem_singleton] at hr
     subst hr
     exact .inl (by simp [rowFl])
    ·exact .inr (List.mem_append.2 (.inr hr))
  | fre =>
   have h3 : Inv E S ((zs ++ [(⟨.row ⟨some ⟨b, 0, none⟩, cap, i.size⟩ es, .ow g⟩ : Cell Tg)]) ++ X) (fun b' j => C b' j ∨ InC (.row ⟨some ⟨b, 0, none⟩, cap, i.size⟩ es : A) b' j) a (w.setRow b cur') := by
    rw [List.append_assoc]; exact h2
   refine ⟨_, _, fun b' j => (C b' j ∨ InC (.row ⟨some ⟨b, 0, none⟩, cap, i.size⟩ es : A) b' j) ∨ (b' = b ∧ j < (es ++ ys).length * i.size), ⟨some ⟨b, 0, none⟩, cap, i.size⟩, hrun, ⟨?_, fun _ => ⟨_, rfl, by simp [VA.val]⟩, by simp, by simp, by simp⟩, hfr'⟩
   refine h3.keepBlk (rs := [⟨.row ⟨some ⟨b, 0, none⟩, cap, i.size⟩ (es ++ ys), .os false⟩]) (d := ⟨.row ⟨some ⟨b, 0, none⟩, cap, i.size⟩ es, .ow g⟩) (by simp) (own_of rfl hbm) (.inl hbase) (fun _ _ => .inl) (fun b' j hj => hj.imp id And.left) ?_ ?_
   ·intro r hr
    simp only [List.mem_singleton] at hr
    subst hr
    refine ⟨⟨rfl, rd_row_block hh' (by rw [List.length_append]; exact hroom) hkk htake' (fun j hj => .inr ⟨rfl, hj⟩) (fun c hc => ?_), ?_, ?_⟩, by simp [rowFl]⟩
    ·rw [List.flatten_append] at hc
     rcases List.mem_append.1 hc with hc | hc
     ·exact (htail.rd hCt (hxs.sub hc)).mono (fun _ _ => .inl) (fun _ _ _ => rfl)
     ·exact (htail.rd hCt (hys1.sub hc)).mono (fun _ _ => .inl) (fun _ _ _ => rfl)
    ·refine ⟨.row _ _ (fun c hc => ?_), fun x hx => ?_⟩
     ·rw [List.flatten_append] at hc
      rcases List.mem_append.1 hc with hc | hc
      ·exact ((own_elems h1).1 c hc).1.pur
      ·exact (hfr rfl c hc).1
     simp only [VA.blks, blkR_map, List.mem_append, List.mem_singleton, List.flatten_append, List.flatMap_append] at hx
     rcases hx with rfl | hx | hx
     ·exact hbase
     ·obtain ⟨c, hc, hxc⟩ := List.mem_flatMap.1 hx
      exact ((own_elems h1).1 c hc).2 x hxc
     ·obtain ⟨c, hc, hxc⟩ := List.mem_flatMap.1 hx
      exact (hfr rfl c hc).2 x hxc
    ·refine ⟨_, es ++ ys, rfl, .inr ⟨b, cur', T, rfl, hh', by rw [List.length_append]; exact hroom, hmax, c1, hk0, hne, fun j hj hc => ?_⟩⟩
     rcases hc with hc | hc
     ·refine hfree1 j ?_ hc
      refine Nat.le_trans (Nat.mul_le_mul_right _ ?_) hj
      rw [List.length_append]; omega
     ·simp only at hj; omega
   ·intro x
    simp [Cell.own, hold, isOs, owns, VA.top, rowFl]
  | any =>
   have h3 : Inv E S ((zs ++ [(⟨.row ⟨some ⟨b, 0, none⟩, cap, i.size⟩ es, .ow g⟩ : Cell Tg)]) ++ X) (fun b' j => C b' j ∨ InC (.row ⟨some ⟨b, 0, none⟩, cap, i.size⟩ es : A) b' j) a (w.setRow b cur') := by
    rw [List.append_assoc]; exact h2
   have h4 := h3.dropBlk (d := ⟨.row ⟨some ⟨b, 0, none⟩, cap, i.size⟩ es, .ow g⟩) (by simp) rfl hbm
   refine ⟨_, _, fun b' j => (C b' j ∨ InC (.row ⟨some ⟨b, 0, none⟩, cap, i.size⟩ es : A) b' j) ∨ b' = b, ⟨some ⟨b, 0, none⟩, cap, i.size⟩, hrun, ⟨?_, fun _ => ⟨_, rfl, by simp [VA.val]⟩, by simp, by simp, by simp⟩, hfr'⟩
   refine h4.addAll [_] ?_
   simp only [List.mem_singleton]
   rintro r rfl
   refine ⟨⟨rfl, rd_row_block hh' (by rw [List.length_append]; exact hroom) hkk htake' (fun _ _ => .inr rfl) (fun c hc => ?_)⟩, rfl, .inl (by simp [rowFl])⟩
   rw [List.flatten_append] at hc
   rcases List.mem_append.1 hc with hc | hc
   ·exact (htail.rd hCt (hxs.sub hc)).mono (fun _ _ => .inl) (fun _ _ _ => rfl)
   ·exact (htail.rd hCt (hys1.sub hc)).mono (fun _ _ => .inl) (fun _ _ _ => rfl)
 ·have h3 : Inv E S ((zs ++ [(⟨.row ⟨some ⟨b, 0, none⟩, cap, i.size⟩ es, .ow g⟩ : Cell Tg)]) ++ X) (fun b' j => C b' j ∨ InC (.row ⟨some ⟨b, 0, none⟩, cap, i.size⟩ es : A) b' j) a w := by
   rw [List.append_assoc]; exact h1
  obtain ⟨v, w', C1, t1, r1, r2, r3, _, _⟩ := append_new (ty := ty) (ok := ok) h3 hb ht hu hi hz hzs hk0 hby hxs hkx hys1 hky (by simpa using hroom) hlim (fun e c hc => by
   rw [List.flatten_append] at hc
   rcases List.mem_append.1 hc with hc | hc
   ·exact ⟨((own_elems h1).1 c hc).1.pur, ((own_elems h1).1 c hc).2⟩
   ·exact hfr e c hc) (fun hokt => by
   obtain ⟨q1, q2⟩ := hcount hokt h1
   exact ⟨q1, fun x => by have := q2 x; omega⟩)
  exact ⟨v, w', C1, t1, r1, r2, r3⟩
theorem take_rd {b cap k : Nat} {cur : Array Value} {T : TypeId} {es : List (List A)} (hb : w.heap[b]? = some (.cells cur T (0, 0))) (hr : Rd E.sid w C (.row ⟨some ⟨b, 0, none⟩, cap, k⟩ es)) (hk : ∀ e ∈ es, e.length = k) (hsz : es.length * k ≤ cur.size) :
  cur.toList.take (es.length * k) = es.flatten.map (VA.val E.sid) := by
 have hl : es.flatten.length = es.length * k := flatten_length hk
 apply List.ext_getElem?
 intro j
 rw [List.getElem?_take, List.getElem?_map]
 split
 ·rename_i hj
  have hj' : j < es.flatten.length := by omega
  cases hr with
  | row _ _ _ _ hh _ =>
   obtain ⟨b', o', e1, _, e3⟩ := hh j _ (List.getElem?_eq_getElem hj')
   simp only [Option.some.injEq, Addr.mk.injEq, and_true] at e1
   obtain ⟨rfl, rfl⟩ := e1
   rw [Nat.zero_add, cell_of_heap hb] at e3
   rw [Array.getElem?_toList, e3, List.getElem?_eq_getElem hj']
   rfl
 ·rename_i hj
  rw [List.getElem?_eq_none (by omega)]
  rfl
theorem append_os {zs : List (Cell Tg)} {t0 : Tg} {n : Bool} {es : List (List A)} (h : Inv E S (zs ++ (⟨.row t0 es, .os n⟩ : Cell Tg) :: X) C a w) (hb : E.base ≤ w.heap.size)
  {t u ty e e' : TypeId} {i : TypeInfo} {z : Value} (ht : E.P.underlying t = some (.slice e)) (hu : E.P.underlying u = some (.slice e')) (hi : E.P.info? e = some i) (hz : i.zero = some z)
  (hzs : z.cells.size = i.size) (hk0 : 0 < i.size) (hby : i.bytes ≤ 128) (hkx : ∀ e ∈ es, e.length = i.size)
  {t' : Tg} {ys : List (List A)} (hys : Rd E.sid w C (.row t' ys)) (hky : ∀ e ∈ ys, e.length = i.size) (hlim : es.length + ys.length ≤ 1099511627776) {ok : Lv} (hno : ok ≠ .own) (hfr : ok = .fre → ∀ c ∈ ys.flatten, Fre E c) :
  ∃ v w' C1 t1, (Builtin.append_ #[t, u] ty #[(VA.row t0 es : A).val E.sid, (VA.row t' ys : A).val E.sid]).run E.P w = .ok v w' ∧ Made E S X C1 a w' ⟨.val, [⟨.row t1 (es ++ ys), rowFl ok⟩]⟩ v ∧ Frame E w w' := by
 have hd := h.hand (⟨.row t0 es, .os n⟩ : Cell Tg) (by simp)
 obtain ⟨_, hrd, hbase, hspn⟩ := hd
 have hall : ok = .fre → ∀ c ∈ (es ++ ys).flatten, Fre E c := fun ef c hc => by
  rw [List.flatten_append] at hc
  rcases List.mem_append.1 hc with hc | hc
  ·exact ⟨hbase.1.sub hc, fun b hb' => hbase.2 b (blks_mem hc hb')⟩
  ·exact hfr ef c hc
 have h3 : Inv E S ((zs ++ [(⟨.row t0 es, .os n⟩ : Cell Tg)]) ++ X) C a w := by rw [List.append_assoc]; exact h
 by_cases hroom : es.length + ys.length ≤ t0.cap
 ·obtain ⟨t1, es1, e1, hs⟩ := hspn
  simp only [VA.row.injEq] at e1
  obtain ⟨rfl, rfl⟩ := e1
  by_cases he0 : es = []
  ·-- nothing is appended to nothing
   subst he0
   have hc0 : t0.cap = 0 := by
    rcases hs with ⟨_, hc, _⟩ | ⟨_, _, _, _, _, _, _, _, _, hc, _⟩
    ·exact hc
    ·exact hc rfl
   have hy0 : ys = [] := List.length_eq_zero_iff.1 (by omega)
   subst hy0
   have hmade : ∀ v, (VA.row t0 [] : A).val E.sid = v → ∃ C1, Made E S X C1 a w ⟨.val, [⟨.row t0 [], rowFl ok⟩]⟩ v := by
    rintro v rfl
    have hc : COk E w C S ([(⟨.row t0 [], rowFl ok⟩ : Cell Tg)] ++ X) ⟨.row t0 [], rowFl ok⟩ := by
     cases ok with
     | own => exact absurd rfl hno
     | fre => exact ⟨rfl, hrd, hbase, ⟨t0, [], rfl, hs⟩⟩
     | any => exact ⟨rfl, hrd⟩
    refine ⟨C, ?_, fun _ => ⟨_, rfl, rfl⟩, by simp, by simp, by simp⟩
    refine h3.rehand (less_hand (rs := [⟨.row t0 [], rowFl ok⟩]) (fun x => ?_)) (fun r hr => ?_) (fun r hr => ?_)
    ·have : (⟨.row t0 [], .os n⟩ : Cell Tg).own = (VA.row t0 [] : A).top := by simp [Cell.own, hold, isOs, owns]
     have h2 : (⟨.row t0 [], rowFl ok⟩ : Cell Tg).own.count x ≤ (VA.row t0 [] : A).top.count x := by
      cases ok with
      | own => exact absurd rfl hno
      | fre => simp [Cell.own, hold, isOs, owns, rowFl]
      | any => simp [Cell.own, hold, isOs, owns, rowFl]
     simp only [List.flatMap_append, List.flatMap_cons, List.flatMap_nil, List.append_nil, List.count_append, this]
     omega
    ·rcases List.mem_append.1 hr with hr | hr
     ·simp only [List.mem_singleton] at hr
      subst hr
      cases ok with
      | own => exact absurd rfl hno
      | fre => exact ⟨rfl, hrd, hbase, ⟨t0, [], rfl, hs⟩⟩
      | any => exact ⟨rfl, hrd⟩
     ·exact h3.hand r (List.mem_append.2 (.inr hr))
    ·rcases List.mem_append.1 hr with hr | hr
     ·simp only [List.mem_singleton] at hr
      subst hr
      exact .inl (by cases ok <;> simp [rowFl])
     ·exact .inr (List.mem_append.2 (.inr hr))
   obtain ⟨ad, cap, kk⟩ := t0
   simp only at hc0
   subst hc0
   rcases hs with ⟨ha, _, _⟩ | ⟨b, cur, T, ha, hheap, _, _, hsize, _⟩
   ·simp only at ha
    subst ha
    obtain ⟨C1, hm⟩ := hmade _ rfl
    exact ⟨_, w, C1, _, run_append_zero ht hu hi hys, hm, Frame.refl E w⟩
   ·simp only at ha hsize
    subst ha
    have hrun := run_append_in (P := E.P) (ty := ty) (n := 0) (cap := 0) ht hu hi hheap hys hky (by simp) (by simpa using hsize)
    have hcur : cur.toList = [] := by
     have : cur.size = 0 := by simpa using hsize
     simpa using this
    have hself : w.setRow b (cur.toList.take (0 * i.size) ++ ([] : List (List A)).flatten.map (VA.val E.sid) ++ cur.toList.drop (0 * i.size + ([] : List (List A)).flatten.length)).toArray = w := by
     rw [hcur]
     have : cur = #[] := by rw [← Array.toList_inj, hcur]
     subst this
     simpa using setRow_self w b #[] T (0, 0) hheap
    rw [hself] at hrun
    obtain ⟨C1, hm⟩ := hmade _ rfl
    exact ⟨_, w, C1, _, hrun, hm, Frame.refl E w⟩
  ·-- in place
   have hkt : t0.k = i.size := by
    cases es with
    | nil => exact absurd rfl he0
    | cons x r =>
     cases hrd with
     | row _ _ hk _ _ _ => exact (hk x (by simp)).symm.trans (hkx x (by simp))
   rcases hs with ⟨_, _, hs⟩ | ⟨b, cur, T, ha, hheap, hcap, hmax, hsize, _, hne, hfree⟩
   ·exact absurd hs he0
   obtain ⟨ad, cap, kk⟩ := t0
   simp only at ha hcap hmax hsize hne hfree hkt hroom
   subst ha; subst hkt
   have hdown : b ∈ (⟨.row ⟨some ⟨b, 0, none⟩, cap, i.size⟩ es, .os n⟩ : Cell Tg).own := by simp [Cell.own, hold, isOs, owns, VA.top]
   have hkk : ∀ e ∈ es ++ ys, e.length = i.size := by
    intro e he
    rcases List.mem_append.1 he with he | he
    ·exact hkx e he
    ·exact hky e he
   have htake := take_rd hheap hrd hkx (by rw [hsize]; exact Nat.mul_le_mul_right _ hcap)
   have hrun := run_append_in (P := E.P) (ty := ty) ht hu hi hheap hys hky hroom hsize
   have hxl : (es.flatten.map (VA.val E.sid)).length = es.length * i.size := by rw [List.length_map, flatten_length hkx]
   have hyl : (ys.flatten.map (VA.val E.sid)).length = ys.length * i.size := by rw [List.length_map, flatten_length hky]
   have hap := appended htake hxl hyl hroom hsize
   rw [List.length_map] at hap
   obtain ⟨c1, c2, c3⟩ := hap
   have hh' := setRow_heap w b cur (cur.toList.take (es.length * i.size) ++ ys.flatten.map (VA.val E.sid) ++ cur.toList.drop (es.length * i.size + ys.flatten.length)).toArray T (0, 0) hheap
   generalize hcur : (cur.toList.take (es.length * i.size) ++ ys.flatten.map (VA.val E.sid) ++ cur.toList.drop (es.length * i.size + ys.flatten.length)).toArray = cur' at hrun hh' c1 c2 c3
   have htail : Tail w (w.setRow b cur') b (es.length * i.size) := ⟨⟨cur, cur', T, T, hheap, hh', c1.trans hsize.symm, c3⟩, setRow_size w b cur', fun b' hb' => setRow_other w b b' cur' hb'⟩
   have h2 := tail_hand h hdown hrd htail hfree
   have hbb : E.base ≤ b := hbase.2 b (by simp [VA.blks])
   have hfr' : Frame E w (w.setRow b cur') := setRow_frame w b cur' (.inl hbb)
   have hCt : ∀ j, C b j → j < es.length * i.size := fun j hj => Nat.lt_of_not_le fun hn => hfree j hn hj
   have htake' : cur'.toList.take ((es ++ ys).length * i.size) = (es ++ ys).flatten.map (VA.val E.sid) := by
    rw [List.length_append, c2, List.flatten_append, List.map_append]
   have h4 : Inv E S ((zs ++ [(⟨.row ⟨some ⟨b, 0, none⟩, cap, i.size⟩ es, .os n⟩ : Cell Tg)]) ++ X) C a (w.setRow b cur') := by
    rw [List.append_assoc]; exact h2
   refine ⟨_, _, fun b' j => C b' j ∨ (b' = b ∧ j < (es ++ ys).length * i.size), ⟨some ⟨b, 0, none⟩, cap, i.size⟩, hrun, ⟨?_, fun _ => ⟨_, rfl, by simp [VA.val]⟩, by simp, by simp, by simp⟩, hfr'⟩
   have hrd' : Rd E.sid (w.setRow b cur') (fun b' j => C b' j ∨ (b' = b ∧ j < (es ++ ys).length * i.size)) (.row ⟨some ⟨b, 0, none⟩, cap, i.size⟩ (es ++ ys)) := by
    refine rd_row_block hh' (by rw [List.length_append]; exact hroom) hkk htake' (fun j hj => .inr ⟨rfl, hj⟩) (fun c hc => ?_)
    rw [List.flatten_append] at hc
    rcases List.mem_append.1 hc with hc | hc
    ·exact (htail.rd hCt (hrd.sub hc)).mono (fun _ _ => .inl) (fun _ _ _ => rfl)
    ·exact (htail.rd hCt (hys.sub hc)).mono (fun _ _ => .inl) (fun _ _ _ => rfl)
   refine h4.keepBlk (rs := [⟨.row ⟨some ⟨b, 0, none⟩, cap, i.size⟩ (es ++ ys), rowFl ok⟩]) (d := ⟨.row ⟨some ⟨b, 0, none⟩, cap, i.size⟩ es, .os n⟩) (by simp) hdown (.inl hbb) (fun _ _ => .inl) (fun b' j hj => hj.imp id And.left) ?_ ?_
   ·intro r hr
    simp only [List.mem_singleton] at hr
    subst hr
    cases ok with
    | own => exact absurd rfl hno
    | any => exact ⟨⟨rfl, hrd'⟩, by simp [rowFl]⟩
    | fre =>
     refine ⟨⟨rfl, hrd', ⟨.row _ _ (fun c hc => (hall rfl c hc).1), fun x hx => ?_⟩, ?_⟩, by simp [rowFl]⟩
     ·simp only [VA.blks, blkR_map, List.mem_append, List.mem_singleton] at hx
      rcases hx with rfl | hx
      ·exact hbb
      ·obtain ⟨c, hc, hxc⟩ := List.mem_flatMap.1 hx
       exact (hall rfl c hc).2 x hxc
     ·refine ⟨_, es ++ ys, rfl, .inr ⟨b, cur', T, rfl, hh', by rw [List.length_append]; exact hroom, hmax, c1, hk0, fun he => absurd (List.append_eq_nil_iff.1 he).1 he0, fun j hj hc => ?_⟩⟩
      rcases hc with hc | hc
      ·refine hfree j ?_ hc
       refine Nat.le_trans (Nat.mul_le_mul_right _ ?_) hj
       rw [List.length_append]; omega
      ·simp only at hj; omega
   ·intro x
    cases ok with
    | own => exact absurd rfl hno
    | fre => simp [Cell.own, hold, isOs, owns, VA.top, rowFl]
    | any => simp [Cell.own, hold, isOs, owns, rowFl]
 ·obtain ⟨v, w', C1, t1, r1, r2, r3, _, _⟩ := append_new (ty := ty) (ok := ok) h3 hb ht hu hi hz hzs hk0 hby hrd hkx hys hky (by omega) hlim hall (fun e => absurd e hno)
  exact ⟨v, w', C1, t1, r1, r2, r3⟩
end
end Go.Vm
end
section
namespace Go.Vm
section
variable {E : Env} {cx : Cx} {S : StA} {X : List (Cell Tg)} {C : Nat → Nat → Prop} {a : Act} {w w' : World}
theorem erR_append (xs ys : List (List A)) : erR (xs ++ ys) = erR xs ++ erR ys := by simp [erR_map]
theorem erR_nil {ys : List (List A)} (h : erR ys = []) : ys = [] := by
 rw [erR_map, List.map_eq_nil_iff] at h; exact h
theorem erR_length (xs : List (List A)) : (erR xs).length = xs.length := by simp [erR_map]
theorem rowsOf_er {k : Nat} {es : List (List A)} (h : rowsOf k (erR es) = true) : ∀ e ∈ es, e.length = k := by
 intro e he
 simp only [rowsOf, erR_map, List.all_map, List.all_eq_true] at h
 have := h e he
 simpa using this
theorem allScal_er {es : List (List A)} (h : allScal (erR es) = true) : ∀ c ∈ es.flatten, scal c = true := by
 intro c hc
 obtain ⟨e, he, hce⟩ := List.mem_flatten.1 hc
 simp only [allScal, erR_map, List.all_map, List.all_eq_true] at h
 have := h e he
 simp only [Function.comp, List.all_map, List.all_eq_true] at this
 have := this c hce
 simpa [scal_er] using this
theorem allScal_of {es : List (List A)} (h : ∀ c ∈ es.flatten, scal c = true) : allScal es = true := by
 simp only [allScal, List.all_eq_true]
 exact fun e he c hc => h c (List.mem_flatten.2 ⟨e, he, hc⟩)
theorem made_nil (h : Inv E S X C a w) (k : Nat) {f : Fl} (hf : f = .ow false ∨ f = .no ∨ f = .nl ∨ f = .os false) : Made E S X C a w ⟨.val, [⟨.row ⟨none, 0, k⟩ [], f⟩]⟩ (.slice none 0 0) := by
 have hown : (⟨.row ⟨none, 0, k⟩ [], f⟩ : Cell Tg).own = [] := by
  rcases hf with rfl | rfl | rfl | rfl <;> simp [Cell.own, hold, isOs, owns, VA.blks, VA.top, blkR]
 have hap : ∀ p q r, f ≠ .ap p q r := by rcases hf with rfl | rfl | rfl | rfl <;> simp
 refine ⟨?_, fun _ => ⟨_, rfl, rfl⟩, by simp, by simp, by simp⟩
 refine h.rehand ⟨fun b => ?_, fun _ _ h => h, fun s c y _ hy _ => ⟨y, hy, rfl, rfl⟩⟩ (fun r hr => ?_) (fun r hr => ?_)
 ·simp [ownAll, hown]
 ·rcases List.mem_append.1 hr with hr | hr
  ·simp only [List.mem_singleton] at hr
   subst hr
   rcases hf with rfl | rfl | rfl | rfl
   ·exact ⟨rfl, by simpa [Shp'] using Shp.nil k, by simp [VA.blks, blkR]⟩
   ·exact ⟨rfl, .row _ _ (by simp) (by simp) (by simp) (by simp)⟩
   ·exact ⟨k, rfl⟩
   ·exact ⟨rfl, .row _ _ (by simp) (by simp) (by simp) (by simp), ⟨.row _ _ (by simp), by simp [VA.blks, blkR]⟩, ⟨_, [], rfl, .inl ⟨rfl, rfl, rfl⟩⟩⟩
  ·exact h.hand r hr
 ·rcases List.mem_append.1 hr with hr | hr
  ·simp only [List.mem_singleton] at hr
   subst hr
   exact .inl hap
  ·exact .inr hr
theorem er_row_cell (t : Tg) (es : List (List A)) (f : Fl) : (⟨.val, [⟨.row t es, f⟩]⟩ : SA).er = ⟨.val, [⟨.row () (erR es), f⟩]⟩ := rfl
theorem append_hand {zs : List (Cell Tg)} {tx : Tg} {es : List (List A)} {f : Fl} (h : Inv E S (zs ++ (⟨.row tx es, f⟩ : Cell Tg) :: X) C a w) (hb : E.base ≤ w.heap.size)
  {t u ty e e' : TypeId} {i : TypeInfo} {z : Value} (ht : E.P.underlying t = some (.slice e)) (hu : E.P.underlying u = some (.slice e')) (hi : E.P.info? e = some i) (hz : i.zero = some z)
  (hzs : z.cells.size = i.size) {k : Nat} (hik : i.size = k) (hk0 : 0 < k) (hby : i.bytes ≤ 128)
  {t' : Tg} {ys : List (List A)} (hys : Rd E.sid w C (.row t' ys)) {ok : Lv} (hok : ok = .own → Mine zs t' ys) (hfr : ok ≠ .any → ∀ c ∈ ys.flatten, Fre E c) {s : SU} {st st1 : St} (hr : (append1 k ok (erR es) (erR ys) f).run st = some (s, st1)) :
  st1 = st ∧ ∃ v w' C1 sA, (Builtin.append_ #[t, u] ty #[(VA.row tx es : A).val E.sid, (VA.row t' ys : A).val E.sid]).run E.P w = .ok v w' ∧ sA.er = s ∧ Made E S X C1 a w' sA v ∧ Frame E w w' := by
 subst hik
 unfold append1 at hr
 split at hr
 ·rename_i hh
  obtain ⟨q1, q2, q3⟩ := hh
  have hkx := rowsOf_er q1
  have hky := rowsOf_er q2
  rw [erR_length, erR_length] at q3
  have q3 : es.length + ys.length ≤ 1099511627776 := q3
  have hd := h.hand (⟨.row tx es, f⟩ : Cell Tg) (by simp)
  have nilcase : ∀ k', (⟨none, 0, k'⟩ : Tg) = tx → es = [] → ys ≠ [] → ∀ {ok : Lv}, (ok = .own → Mine zs t' ys) → (ok ≠ .any → ∀ c ∈ ys.flatten, Fre E c) → s = ⟨.val, [⟨.row () (erR es ++ erR ys), rowFl ok⟩]⟩ →
    ∃ v w' C1 sA, (Builtin.append_ #[t, u] ty #[(VA.row tx es : A).val E.sid, (VA.row t' ys : A).val E.sid]).run E.P w = .ok v w' ∧ sA.er = s ∧ Made E S X C1 a w' sA v ∧ Frame E w w' := by
   intro k' e1 e2 hne ok hok hfr hs
   subst e1; subst e2
   have h3 : Inv E S ((zs ++ [(⟨.row ⟨none, 0, k'⟩ [], f⟩ : Cell Tg)]) ++ X) C a w := by rw [List.append_assoc]; exact h
   have hrn : Rd E.sid w C (.row ⟨none, 0, k'⟩ []) := .row _ _ (by simp) (by simp) (by simp) (by simp)
   have hpos : 0 < ys.length := by
    cases ys with
    | nil => exact absurd rfl hne
    | cons y r => simp
   obtain ⟨v, w', C1, t1, r1, r2, r3, _, _⟩ := append_new (ty := ty) (ok := ok) h3 hb ht hu hi hz hzs hk0 hby hrn (by simp) hys hky (by simpa using hpos) q3 (fun e => by simpa using hfr (by rw [e]; simp)) (fun hokt => by
    obtain ⟨p1, p2⟩ := mine_elems h (hok hokt)
    refine ⟨by simpa using p1, fun x => ?_⟩
    have := p2 x
    simp only [List.nil_append, List.flatMap_append, List.count_append]
    omega)
   exact ⟨v, w', C1, _, r1, by rw [er_row_cell, erR_append, hs], r2, r3⟩
  split at hr
  ·obtain ⟨rfl, rfl⟩ := ret_run hr
   refine ⟨rfl, ?_⟩
   have hshp : Shp E.sid w C (.row tx es) := by simpa [Shp'] using hd.2.1
   cases hshp with
   | nil k' =>
    by_cases hys0 : ys = []
    ·subst hys0
     refine ⟨_, w, C, ⟨.val, [⟨.row ⟨none, 0, k'⟩ [], rowFl ok⟩]⟩, run_append_zero ht hu hi hys, by rw [er_row_cell]; rfl, made_nil ((h.dropAll).drop) k' ?_, Frame.refl E w⟩
     cases ok
     ·exact .inl rfl
     ·exact .inr (.inr (.inr rfl))
     ·exact .inr (.inl rfl)
    ·exact nilcase k' rfl rfl hys0 hok hfr rfl
   | row b cap k es cur e hheap hcap hmax hsize hk hk0' hne htake hfree hr =>
    have hkk : es = [] ∨ k = i.size := by
     cases es with
     | nil => exact .inl rfl
     | cons x r => exact .inr ((hk x (List.mem_cons_self ..)).symm.trans (hkx x (List.mem_cons_self ..)))
    by_cases hk2 : k = i.size
    ·subst hk2
     obtain ⟨v, w', C1, t1, r1, r2, r3⟩ := append_blk (ty := ty) h hb ht hu hi hz hzs rfl hk0 hby hheap hmax hsize hk htake hfree hys hky q3 hok (fun e => hfr (by rw [e]; simp)) (fun he => hne (List.append_eq_nil_iff.1 he).1)
     exact ⟨v, w', C1, _, r1, by rw [er_row_cell, erR_append], r2, r3⟩
    ·have hes := hkk.resolve_right hk2
     subst hes
     have hc0 := hne rfl
     subst hc0
     have hx0 : Rd E.sid w C (.row ⟨some ⟨b, 0, none⟩, 0, k⟩ []) := .row _ _ (by simp) (by simp) (by simp) (by simp)
     have h3 : Inv E S ((zs ++ [(⟨.row ⟨some ⟨b, 0, none⟩, 0, k⟩ [], .ow false⟩ : Cell Tg)]) ++ X) C a w := by rw [List.append_assoc]; exact h
     by_cases hys0 : ys = []
     ·subst hys0
      have hrun := run_append_in (P := E.P) (ty := ty) (n := 0) (cap := 0) ht hu hi hheap hys hky (by simp) (by simpa using hsize)
      have hcur : cur.toList = [] := by
       have : cur.size = 0 := by simpa using hsize
       simpa using this
      have hself : w.setRow b (cur.toList.take (0 * i.size) ++ ([] : List (List A)).flatten.map (VA.val E.sid) ++ cur.toList.drop (0 * i.size + ([] : List (List A)).flatten.length)).toArray = w := by
       rw [hcur]
       have : cur = #[] := by rw [← Array.toList_inj, hcur]
       subst this
       simpa using setRow_self w b #[] e (0, 0) hheap
      rw [hself] at hrun
      have hdd : (⟨.row ⟨some ⟨b, 0, none⟩, 0, k⟩ [], .ow false⟩ : Cell Tg) ∈ zs ++ (⟨.row ⟨some ⟨b, 0, none⟩, 0, k⟩ [], .ow false⟩ : Cell Tg) :: X := by simp
      have h4 : Inv E S ([(⟨.row ⟨some ⟨b, 0, none⟩, 0, k⟩ [], .ow false⟩ : Cell Tg)] ++ X) C a w := h.dropAll
      cases ok with
      | own => exact ⟨_, w, C, ⟨.val, [⟨.row ⟨some ⟨b, 0, none⟩, 0, k⟩ [], .ow false⟩]⟩, hrun, rfl, ⟨h4, fun _ => ⟨_, rfl, rfl⟩, by simp, by simp, by simp⟩, Frame.refl E w⟩
      | fre =>
       refine ⟨_, w, C, ⟨.val, [⟨.row ⟨some ⟨b, 0, none⟩, 0, k⟩ [], .os false⟩]⟩, hrun, rfl, ⟨?_, fun _ => ⟨_, rfl, rfl⟩, by simp, by simp, by simp⟩, Frame.refl E w⟩
       refine h4.rehand (less_hand (rs := [⟨.row ⟨some ⟨b, 0, none⟩, 0, k⟩ [], .os false⟩]) (fun x => ?_)) (fun r hr => ?_) (fun r hr => ?_)
       ·simp [Cell.own, hold, isOs, owns, VA.top, VA.blks, blkR]
       ·rcases List.mem_append.1 hr with hr | hr
        ·simp only [List.mem_singleton] at hr
         subst hr
         exact ⟨rfl, hx0, ⟨.row _ _ (by simp), hd.2.2⟩, ⟨_, [], rfl, .inr ⟨b, cur, e, rfl, hheap, by simp, by simp [maxLen], hsize, hk0', fun _ => rfl, hfree⟩⟩⟩
        ·exact h4.hand r (List.mem_append.2 (.inr hr))
       ·rcases List.mem_append.1 hr with hr | hr
        ·simp only [List.mem_singleton] at hr
         subst hr
         exact .inl (by simp)
        ·exact .inr (List.mem_append.2 (.inr hr))
      | any =>
       refine ⟨_, w, C, ⟨.val, [⟨.row ⟨some ⟨b, 0, none⟩, 0, k⟩ [], .no⟩]⟩, hrun, rfl, ⟨(h4.dropAll).addAll [_] ?_, fun _ => ⟨_, rfl, rfl⟩, by simp, by simp, by simp⟩, Frame.refl E w⟩
       simp only [List.mem_singleton]
       rintro r rfl
       exact ⟨⟨rfl, hx0⟩, rfl, .inl (by simp)⟩
     ·have hpos : 0 < ys.length := by
       cases ys with
       | nil => exact absurd rfl hys0
       | cons y r => simp
      obtain ⟨v, w', C1, t1, r1, r2, r3, _, _⟩ := append_new (ty := ty) (ok := ok) h3 hb ht hu hi hz hzs hk0 hby hx0 (by simp) hys hky (by simpa using hpos) q3 (fun e => by simpa using hfr (by rw [e]; simp)) (fun hokt => by
       obtain ⟨p1, p2⟩ := mine_elems h (hok hokt)
       refine ⟨by simpa using p1, fun x => ?_⟩
       have := p2 x
       simp only [List.nil_append, List.flatMap_append, List.count_append]
       omega)
      exact ⟨v, w', C1, _, r1, by rw [er_row_cell, erR_append], r2, r3⟩
  ·split at hr
   ·rename_i hg
    obtain ⟨hk1, hsc⟩ := hg
    obtain ⟨rfl, rfl⟩ := ret_run hr
    refine ⟨rfl, ?_⟩
    have hg : ShpG w C (.row tx es) := by simpa [Shp'] using hd.2.1
    obtain ⟨b, cap, cur, T, e1, hheap, hmax, hsize, hfree⟩ := hg
    simp only [VA.row.injEq] at e1
    obtain ⟨rfl, rfl⟩ := e1
    by_cases hys0 : ys = []
    ·subst hys0
     have hrun := run_append_in (P := E.P) (ty := ty) (n := 0) (cap := cap) ht hu hi hheap hys hky (by simp) (by rw [hsize, hk1, Nat.mul_one])
     have hself : w.setRow b (cur.toList.take (0 * i.size) ++ ([] : List (List A)).flatten.map (VA.val E.sid) ++ cur.toList.drop (0 * i.size + ([] : List (List A)).flatten.length)).toArray = w := by
      simp only [Nat.zero_mul, List.take_zero, List.flatten_nil, List.map_nil, List.length_nil, Nat.add_zero, List.drop_zero, List.nil_append, Array.toArray_toList]
      exact setRow_self w b cur T (0, 0) hheap
     rw [hself] at hrun
     have h4 : Inv E S ([(⟨.row ⟨some ⟨b, 0, none⟩, cap, 1⟩ [], .ow true⟩ : Cell Tg)] ++ X) C a w := h.dropAll
     exact ⟨_, w, C, ⟨.val, [⟨.row ⟨some ⟨b, 0, none⟩, cap, 1⟩ [], .ow true⟩]⟩, hrun, rfl, ⟨h4, fun _ => ⟨_, rfl, rfl⟩, by simp, by simp, by simp⟩, Frame.refl E w⟩
    ·obtain ⟨v, w', C1, t1, r1, r2, r3⟩ := append_blk (ty := ty) (ok := .own) h hb ht hu hi hz hzs hk1 (by omega) hby hheap hmax (by rw [hsize, Nat.mul_one]) (by simp) (by simp) (fun j _ => hfree j) hys (by rw [← hk1]; exact hky) q3 (fun _ => .inl (allScal_er hsc)) (fun e => by cases e) (fun he => absurd (List.append_eq_nil_iff.1 he).2 hys0)
     refine ⟨v, w', C1, _, r1, ?_, r2, r3⟩
     rw [er_row_cell, erR_append]
     cases hy : ys with
     | nil => exact absurd hy hys0
     | cons y r => rfl
   ·simp [FM.run] at hr
  ·obtain ⟨rfl, rfl⟩ := ret_run hr
   refine ⟨rfl, ?_⟩
   obtain ⟨k', hv⟩ := hd
   have hv : (VA.row tx es : A) = .row ⟨none, 0, k'⟩ [] := hv
   simp only [VA.row.injEq] at hv
   obtain ⟨rfl, rfl⟩ := hv
   by_cases hys0 : ys = []
   ·subst hys0
    exact ⟨_, w, C, ⟨.val, [⟨.row ⟨none, 0, k'⟩ [], .nl⟩]⟩, run_append_zero ht hu hi hys, by rw [er_row_cell]; rfl, made_nil ((h.dropAll).drop) k' (.inr (.inr (.inl rfl))), Frame.refl E w⟩
   ·refine nilcase k' rfl rfl hys0 hok hfr ?_
    cases hy : ys with
    | nil => exact absurd hy hys0
    | cons y r => rfl
  ·obtain ⟨rfl, rfl⟩ := ret_run hr
   refine ⟨rfl, ?_⟩
   obtain ⟨v, w', C1, t1, r1, r2, r3⟩ := append_os (ty := ty) (ok := Lv.and .fre ok) h hb ht hu hi hz hzs hk0 hby hkx hys hky q3 (by cases ok <;> simp [Lv.and]) (fun e => hfr (fun e' => by rw [e'] at e; cases e))
   exact ⟨v, w', C1, _, r1, by rw [er_row_cell, erR_append], r2, r3⟩
  ·simp [FM.run] at hr
 ·simp [FM.run] at hr
theorem takeElems_lift {R : List (Cell Tg)} (hf : Fits E cx) (h : Inv E S R C a w) {oy : Operand} {y : Opd} (hc : cOpd cx oy = some y) {t : Tg} {ys : List (List A)} (hv : a.eval oy = (VA.row t ys : A).val E.sid) (hrd : Rd E.sid w C (.row t ys))
  {r : List (List V) × Lv} {st1 : St} (hr : (takeElems (erR ys) y).run (erS S) = some (r, st1)) :
  ∃ S1 C1 zs t1 ys1, erS S1 = st1 ∧ erR ys1 = r.1 ∧ a.eval oy = (VA.row t1 ys1 : A).val E.sid ∧ Rd E.sid w C1 (.row t1 ys1) ∧ Inv E S1 (zs ++ R) C1 a w ∧ (r.2 = .own → Mine zs t1 ys1) ∧ (r.2 ≠ .any → ∀ c ∈ ys1.flatten, Fre E c) := by
 unfold takeElems at hr
 split at hr
 ·rename_i hs
  obtain ⟨rfl, rfl⟩ := ret_run hr
  exact ⟨S, C, [], t, ys, rfl, rfl, hv, hrd, h, fun _ => .inl (allScal_er hs), fun _ c hc => ⟨.scal _ (allScal_er hs c hc), by rw [blks_scal (allScal_er hs c hc)]; simp⟩⟩
 ·obtain ⟨z, st2, h1, h2⟩ := FM.bind_some hr
  clear hr
  obtain ⟨S1, C1, zs, rfl, e2, e3, e4, e5, e6, e7⟩ := take_lift hf h hc h1
  split at h2
  ·rename_i u es'
   obtain ⟨rfl, rfl⟩ := ret_run h2
   simp only [Bool.false_eq_true, if_false] at e7
   obtain ⟨d, rfl, hdv⟩ := e7
   simp only [List.map_cons, List.map_nil, List.cons.injEq, and_true] at e2
   obtain ⟨v, f⟩ := d
   simp only [Cell.er, Cell.mk.injEq] at e2
   obtain ⟨e2, rfl⟩ := e2
   obtain ⟨t1, ys1, rfl, he⟩ := er_row (t := u) e2
   have hdm : (⟨.row t1 ys1, .ow false⟩ : Cell Tg) ∈ cellsAll S1 ([⟨.row t1 ys1, .ow false⟩] ++ R) := mem_hand (by simp)
   have hk := e4.hand (⟨.row t1 ys1, .ow false⟩ : Cell Tg) (by simp)
   exact ⟨S1, _, _, t1, ys1, rfl, he, hdv, own_rd hk.2.1, e4.commit hdm rfl, fun _ => .inr rfl, fun _ c hc => by
    have hs : Shp E.sid w C1 (VA.row t1 ys1 : A) := by simpa [Shp'] using hk.2.1
    exact ⟨hs.pur.sub hc, fun b hb => hk.2.2 b (blks_mem hc hb)⟩⟩
  ·rename_i u es' n'
   obtain ⟨rfl, rfl⟩ := ret_run h2
   simp only [Bool.false_eq_true, if_false] at e7
   obtain ⟨d, rfl, hdv⟩ := e7
   simp only [List.map_cons, List.map_nil, List.cons.injEq, and_true] at e2
   obtain ⟨v, f⟩ := d
   simp only [Cell.er, Cell.mk.injEq] at e2
   obtain ⟨e2, rfl⟩ := e2
   obtain ⟨t1, ys1, rfl, he⟩ := er_row (t := u) e2
   have hk := e4.hand (⟨.row t1 ys1, .os n'⟩ : Cell Tg) (by simp)
   exact ⟨S1, _, _, t1, ys1, rfl, he, hdv, hk.2.1, e4, by simp, fun _ c hc => ⟨hk.2.2.1.1.sub hc, fun b hb => hk.2.2.1.2 b (blks_mem hc hb)⟩⟩
  ·obtain ⟨rfl, rfl⟩ := ret_run h2
   exact ⟨S1, C1, zs, t, ys, rfl, rfl, hv, hrd.mono e6 (fun _ _ _ => rfl), e4, by simp, by simp⟩
end
end Go.Vm
end
section
namespace Go.Vm
section
variable {E : Env} {cx : Cx} {S : StA} {X : List (Cell Tg)} {C : Nat → Nat → Prop} {a : Act} {w w' : World}
theorem Inv.addAp (h : Inv E S X C a w) {l : SA} (hl : S[lockS E.nt]? = some l) (hk : l.k ≠ .dead) {z : Cell Tg} (ho : hold z.f = false) (hz : COk E w C S X z) : Inv E S (z :: X) C a w := by
 have hL : Less S S X ([z] ++ X) := Less.hand [z] (by simpa using ho)
 refine ⟨h.len, h.tsz, h.nodef, h.slv, h.high, h.emp, h.lock, ?_, h.box, ?_, ?_, ?_, ?_, h.olt, h.clt, h.cbase, fun b hb => h.ownlt b (hL.mem hb)⟩
 ·intro l' hl' hd
  rw [hl] at hl'
  obtain rfl := Option.some.inj hl'
  exact absurd hd hk
 ·exact fun i s t src ix hs hk => (h.ept i s t src ix hs hk).less hL
 ·exact fun i s hs x hx => (h.cells i s hs x hx).less hL
 ·intro x hx
  rcases List.mem_cons.1 hx with rfl | hx
  ·exact hz.less hL
  ·exact (h.hand x hx).less hL
 ·exact fun b => Nat.le_trans (hL.own b) (h.cnt b)
theorem Fst.scalRow {b cap k : Nat} {cur : Array Value} {T : TypeId} {es : List (List A)} (hb : w.heap[b]? = some (.cells cur T (0, 0))) (hcap : es.length ≤ cap) (hmax : cap ≤ maxLen) (hsize : cur.size = cap * k) (hk : ∀ e ∈ es, e.length = k) (hk0 : 0 < k)
  (hne : es = [] → cap = 0) (htake : cur.toList.take (es.length * k) = es.flatten.map (VA.val E.sid)) (hs : ∀ c ∈ es.flatten, scal c = true) (hbase : E.base ≤ b) : Fst E w (.row ⟨some ⟨b, 0, none⟩, cap, k⟩ es) := by
 have hblks : (VA.row ⟨some ⟨b, 0, none⟩, cap, k⟩ es : A).blks = [b] := by simp [VA.blks, blkR_map, blks_scals hs]
 refine ⟨.row b cap k es cur T hb hcap hmax hsize hk hk0 hne htake (fun _ _ => id) (fun c hc => .of_scal (hs c hc)), by rw [hblks]; simp, by rw [hblks]; simpa using hbase⟩
theorem Shp.free {D : Nat → Nat → Prop} {b cap k : Nat} {es : List (List A)} (h : Shp E.sid w D (.row ⟨some ⟨b, 0, none⟩, cap, k⟩ es)) : ∀ j, es.length * k ≤ j → ¬ D b j := by
 cases h with
 | row _ _ _ _ _ _ _ _ _ _ _ _ _ _ hfree _ => exact hfree
theorem Shp.el {D : Nat → Nat → Prop} {t : Tg} {es : List (List A)} (h : Shp E.sid w D (.row t es)) {c : A} (hc : c ∈ es.flatten) : Shp E.sid w D c := by
 cases h with
 | nil => simp at hc
 | row b cap k es cur e hb hcap hmax hsize hk hk0 hne htake hfree hr => exact hr c hc
theorem append_ap (h : Inv E S X C a w) (hb : E.base ≤ w.heap.size) {tx : Tg} {es : List (List A)} {s c ix : Nat} (hz : COk E w C S X ⟨.row tx es, .cp .own s c (some ix)⟩) {y0 : Cell Tg} (hy0 : cellAt S s c = some y0) (hy0f : y0.f = .ow false)
  {l : SA} (hl : S[lockS E.nt]? = some l) (hld : l.k = .dead)
  {t u ty e e' : TypeId} {i : TypeInfo} {z : Value} (ht : E.P.underlying t = some (.slice e)) (hu : E.P.underlying u = some (.slice e')) (hi : E.P.info? e = some i) (hzv : i.zero = some z)
  (hzs : z.cells.size = i.size) (hk0 : 0 < i.size) (hby : i.bytes ≤ 128)
  {t' : Tg} {ys : List (List A)} (hys : Rd E.sid w C (.row t' ys)) (hkx : ∀ e ∈ es, e.length = i.size) (hky : ∀ e ∈ ys, e.length = i.size) (hlim : es.length + ys.length ≤ 1099511627776)
  (hsx : ∀ c ∈ es.flatten, scal c = true) (hsy : ∀ c ∈ ys.flatten, scal c = true) :
  ∃ v w' C1 t1, (Builtin.append_ #[t, u] ty #[(VA.row tx es : A).val E.sid, (VA.row t' ys : A).val E.sid]).run E.P w = .ok v w' ∧
   Made E (S.set (lockS E.nt) ⟨.und, []⟩) X C1 a w' ⟨.val, [⟨.row t1 (es ++ ys), .ap s c ix⟩]⟩ v ∧ Frame E w w' := by
 obtain ⟨sl0, hs0, hc0⟩ := cellAt_some hy0
 have hy0m : y0 ∈ cellsAll S X := mem_cellsAll hs0 (List.mem_of_getElem? hc0)
 have hy0o : owns y0.f = true := by rw [hy0f]; rfl
 have h1 := h.commit hy0m hy0o
 obtain ⟨_, hzrd, hzcp, hzfst⟩ := hz
 obtain ⟨hrow, hcp⟩ := hzcp
 have hzfst : Fst E w (.row tx es) := hzfst rfl
 have hzrd : Rd E.sid w C (.row tx es) := hzrd
 have hsrc : ∃ t0 es0, y0.v = .row t0 es0 ∧ es0.flatten[ix]? = some (.row tx es) := hcp y0 hy0 (.inl ⟨false, hy0f⟩)
 obtain ⟨t0, es0, hy0v, hes0⟩ := hsrc
 have hy0ok : COk E w (fun b j => C b j ∨ InC y0.v b j) S X y0 := h1.ok y0 hy0m
 have hy0shp : Shp E.sid w (fun b j => C b j ∨ InC y0.v b j) y0.v := by
  obtain ⟨v, f⟩ := y0
  simp only at hy0f; subst hy0f
  have := hy0ok.2.1
  simpa [Shp'] using this
 have hy0rd : Rd E.sid w (fun b j => C b j ∨ InC y0.v b j) y0.v := by
  obtain ⟨v, f⟩ := y0
  simp only at hy0f; subst hy0f
  have := (h.ok _ hy0m).2.1
  exact own_rd this
 have hxshp : Shp E.sid w (fun b j => C b j ∨ InC y0.v b j) (.row tx es) := by
  rw [hy0v] at hy0shp ⊢
  exact hy0shp.el (List.mem_of_getElem? hes0)
 have hzrd1 : Rd E.sid w (fun b j => C b j ∨ InC y0.v b j) (.row tx es) := hzrd.mono (fun _ _ => .inl) (fun _ _ _ => rfl)
 have hys1 : Rd E.sid w (fun b j => C b j ∨ InC y0.v b j) (.row t' ys) := hys.mono (fun _ _ => .inl) (fun _ _ _ => rfl)
 have hkk : ∀ e ∈ es ++ ys, e.length = i.size := by
  intro e he
  rcases List.mem_append.1 he with he | he
  ·exact hkx e he
  ·exact hky e he
 have hss : ∀ c ∈ (es ++ ys).flatten, scal c = true := by
  intro c hc
  rw [List.flatten_append] at hc
  rcases List.mem_append.1 hc with hc | hc
  ·exact hsx c hc
  ·exact hsy c hc
 have hlcs : l.cs = [] := h.emp _ l hl (.inl hld)
 have hL : Less S (S.set (lockS E.nt) ⟨.und, []⟩) X X := by
  have := less_put (X := X) (zs := []) (s := ⟨.und, []⟩) hl ⟨by simp [hld], by simp [hlcs]⟩ rfl (by simp)
  simpa using this
 have hlS := (List.getElem?_eq_some_iff.1 hl).1
 obtain ⟨hnoap1, hnoap2⟩ := h.noap l hl hld
 have hnoap : ∀ x ∈ cellsAll S X, ∀ p q r, x.f ≠ .ap p q r := by
  intro x hx
  rcases List.mem_append.1 hx with hx | hx
  ·obtain ⟨s', hs', hm⟩ := List.mem_flatMap.1 hx
   obtain ⟨j, hj⟩ := List.mem_iff_getElem?.1 hs'
   exact hnoap1 j s' hj x hm
  ·exact hnoap2 x hx
 have fin : ∀ {w' : World} {C' : Nat → Nat → Prop} {t1 : Tg} {v : Value}, Inv E S X C' a w' → ApOk E w' C' S X s c ix (.row t1 (es ++ ys)) → v = (VA.row t1 (es ++ ys) : A).val E.sid →
   Made E (S.set (lockS E.nt) ⟨.und, []⟩) X C' a w' ⟨.val, [⟨.row t1 (es ++ ys), .ap s c ix⟩]⟩ v := by
  intro w' C' t1 v hi' hap hv
  have h2 := hi'.setLock hl hld
  have hz' : COk E w' C' S X ⟨.row t1 (es ++ ys), .ap s c ix⟩ := hap
  refine ⟨h2.addAp (l := ⟨.und, []⟩) (by rw [List.getElem?_set_self hlS]) (by simp) rfl (hz'.less hL), fun _ => ⟨_, rfl, hv⟩, by simp, by simp, by simp⟩
 have hat : ∀ y, cellAt S s c = some y → y = y0 := fun y hy => Option.some.inj (hy.symm.trans hy0)
 have hscal : ∃ t es', (VA.row t0 es0 : A) = .row t es' := ⟨_, _, rfl⟩
 have newblock : ∀ (_ : tx.cap < es.length + ys.length), ∃ v w' C1 t1, (Builtin.append_ #[t, u] ty #[(VA.row tx es : A).val E.sid, (VA.row t' ys : A).val E.sid]).run E.P w = .ok v w' ∧
   Made E (S.set (lockS E.nt) ⟨.und, []⟩) X C1 a w' ⟨.val, [⟨.row t1 (es ++ ys), .ap s c ix⟩]⟩ v ∧ Frame E w w' := by
  intro hcap
  obtain ⟨v, w', C1, t1, r1, r2, r3, r4, r5⟩ := append_new (ty := ty) (ok := .own) (zs := []) h1 hb ht hu hi hzv hzs hk0 hby hzrd1 hkx hys1 hky hcap hlim (fun e => by cases e) (fun _ => by
   refine ⟨fun c hc => ⟨.of_scal (hss c hc), by rw [blks_scal (hss c hc)]; simp⟩, fun x => by rw [blks_scals hss]; simp⟩)
  have hC := r5 rfl
  subst hC
  have hi' := r2.inv
  have hk := hi'.hand (⟨.row t1 (es ++ ys), rowFl .own⟩ : Cell Tg) (by simp)
  have hshp : Shp E.sid w' (fun b j => C b j ∨ InC y0.v b j) (.row t1 (es ++ ys)) := by
   have := hk.2.1
   simpa [Shp'] using this
  have hblks : (VA.row t1 (es ++ ys) : A).blks = [w.heap.size] := by
   simp only [VA.blks, blkR_map, blks_scals hss, r4, List.append_nil]
  obtain ⟨n1, n2, n3⟩ := new_free h1
  refine ⟨v, w', _, t1, r1, fin hi'.dropAll ⟨⟨_, _, rfl, allScal_of hss⟩, hrow, fun y hy hg => ⟨⟨hshp.mono (fun _ _ _ hf => hf.elim) (fun _ _ => rfl), by rw [hblks]; simp, fun b hb' => hk.2.2 b hb'⟩, .inl fun b hb' => ?_⟩⟩ ?_, r3⟩
  ·rw [hblks, List.mem_singleton] at hb'
   subst hb'
   exact ⟨n2, n1⟩
  ·have := r2.val (by simp)
   simp only [SlV] at this
   obtain ⟨c', hc', hv'⟩ := this
   simp only [List.cons.injEq, and_true] at hc'
   rw [hv', ← hc']
 cases hxshp with
 | nil k' =>
  by_cases hys0 : ys = []
  ·subst hys0
   refine ⟨_, w, _, ⟨none, 0, k'⟩, run_append_zero ht hu hi hys, fin h1 ⟨⟨_, _, rfl, rfl⟩, hrow, fun y hy hg => ⟨⟨.nil k', by simp [VA.blks, blkR], by simp [VA.blks, blkR]⟩, .inl (by simp [VA.blks, blkR])⟩⟩ rfl, Frame.refl E w⟩
  ·refine newblock ?_
   cases ys with
   | nil => exact absurd rfl hys0
   | cons y r => simp
 | row b cap k es cur T hheap hcap hmax hsize hk hk0' hne htake hfree hr =>
  have hbm : b ∈ (VA.row ⟨some ⟨b, 0, none⟩, cap, k⟩ es : A).blks := by simp [VA.blks]
  have hbase : E.base ≤ b := hzfst.2.2 b hbm
  by_cases hroom : es.length + ys.length ≤ cap
  ·by_cases hk2 : k = i.size
   ·subst hk2
    have hb0 : b ∈ y0.v.blks := by rw [hy0v]; exact blks_mem (List.mem_of_getElem? hes0) hbm
    have hrun := run_append_in (P := E.P) (ty := ty) ht hu hi hheap hys hky hroom hsize
    have hxl : (es.flatten.map (VA.val E.sid)).length = es.length * i.size := by rw [List.length_map, flatten_length hkx]
    have hyl : (ys.flatten.map (VA.val E.sid)).length = ys.length * i.size := by rw [List.length_map, flatten_length hky]
    have hap := appended htake hxl hyl hroom hsize
    rw [List.length_map] at hap
    obtain ⟨c1, c2, c3⟩ := hap
    have hh' := setRow_heap w b cur (cur.toList.take (es.length * i.size) ++ ys.flatten.map (VA.val E.sid) ++ cur.toList.drop (es.length * i.size + ys.flatten.length)).toArray T (0, 0) hheap
    generalize hcur : (cur.toList.take (es.length * i.size) ++ ys.flatten.map (VA.val E.sid) ++ cur.toList.drop (es.length * i.size + ys.flatten.length)).toArray = cur' at hrun hh' c1 c2 c3
    have htail : Tail w (w.setRow b cur') b (es.length * i.size) := ⟨⟨cur, cur', T, T, hheap, hh', c1.trans hsize.symm, c3⟩, setRow_size w b cur', fun b' hb' => setRow_other w b b' cur' hb'⟩
    have hCt : ∀ j, (C b j ∨ InC y0.v b j) → j < es.length * i.size := fun j hj => Nat.lt_of_not_le fun hn => hfree j hn hj
    have h2 : Inv E S X (fun b j => C b j ∨ InC y0.v b j) a (w.setRow b cur') := by
     refine h1.tail htail hCt (fun x hx hox hbx => ?_) (fun s' hs' hbs => ?_) (fun x hx p q r hxf => absurd hxf (hnoap x hx p q r))
     ·obtain rfl := h1.one hx hy0m (own_of hox hbx) (own_of hy0o hb0)
      exact hy0rd
     ·obtain ⟨j, hj⟩ := List.mem_iff_getElem?.1 hs'
      exact h1.boxApart hj hbs hy0m (own_of hy0o hb0)
    refine ⟨_, _, _, ⟨some ⟨b, 0, none⟩, cap, i.size⟩, hrun, fin h2 ⟨⟨_, _, rfl, allScal_of hss⟩, hrow, fun y hy hg => ⟨?_, .inr ⟨t0, es0, _, (hat y hy) ▸ hy0v, hes0, ?_, ?_⟩⟩⟩ (by simp [VA.val]), setRow_frame w b cur' (.inl hbase)⟩
    ·exact Fst.scalRow hh' (by rw [List.length_append]; exact hroom) hmax c1 hkk hk0 (fun he => hne (List.append_eq_nil_iff.1 he).1) (by rw [List.length_append, c2, List.flatten_append, List.map_append]) hss hbase
    ·simp [VA.blks, blkR_map, blks_scals hsx, blks_scals hsy]
    ·simp [rowLen]
   ·have hes : es = [] := by
     cases es with
     | nil => rfl
     | cons x r => exact absurd ((hk x (List.mem_cons_self ..)).symm.trans (hkx x (List.mem_cons_self ..))) hk2
    subst hes
    have hc0 := hne rfl
    subst hc0
    have hys0 : ys = [] := by
     cases ys with
     | nil => rfl
     | cons y r => simp at hroom
    subst hys0
    have hrun := run_append_in (P := E.P) (ty := ty) (n := 0) (cap := 0) ht hu hi hheap hys hky (by simp) (by simpa using hsize)
    have hcur : cur.toList = [] := by
     have : cur.size = 0 := by simpa using hsize
     simpa using this
    have hself : w.setRow b (cur.toList.take (0 * i.size) ++ ([] : List (List A)).flatten.map (VA.val E.sid) ++ cur.toList.drop (0 * i.size + ([] : List (List A)).flatten.length)).toArray = w := by
     rw [hcur]
     have : cur = #[] := by rw [← Array.toList_inj, hcur]
     subst this
     simpa using setRow_self w b #[] T (0, 0) hheap
    rw [hself] at hrun
    refine ⟨_, w, _, ⟨some ⟨b, 0, none⟩, 0, k⟩, hrun, fin h1 ⟨⟨_, _, rfl, rfl⟩, hrow, fun y hy hg => ⟨hzfst, .inr ⟨t0, es0, _, (hat y hy) ▸ hy0v, hes0, rfl, Nat.le_refl _⟩⟩⟩ rfl, Frame.refl E w⟩
  ·exact newblock (by simpa using hroom)
theorem sound_append (hf : Fits E cx) (h : Inv E S X C a w) (hb : E.base ≤ w.heap.size) {o : Oper} {k : Call} {t u e' : TypeId} {ox oy : Operand} {x y : Opd} {zs : List V} (ho : o.op = .call k) (hcb : k.callee = .builtin .append) (hk : k.args.toList = [ox, oy]) (hta : k.argTypes.toList = [t, u])
  (hz : elemZ E.P t = some zs) (hu : E.P.underlying u = some (.slice e')) (hx : cOpd cx ox = some x) (hy : cOpd cx oy = some y) {s : SU} {st1 : St} (hr : (evalIr cx.nt (.append zs.length x y)).run (erS S) = some (s, st1)) : Makes E X a w o s st1 := by
 have hka : k.args = #[ox, oy] := by rw [← Array.toList_inj, hk]
 have htya : k.argTypes = #[t, u] := by rw [← Array.toList_inj, hta]
 obtain ⟨cs, hex⟩ := exec_builtin (ρ := a.eval) ho hcb
 rw [hka, htya] at hex
 obtain ⟨e, i, ht, hi, hby, hze⟩ := elemZ_some hz
 obtain ⟨i', z, hi', hz1, hz2, hz3⟩ := zeroV_some hze
 rw [hi] at hi'
 obtain rfl := Option.some.inj hi'
 have hzl : zs.length = i.size := by
  have := (mapO_some hz3).1
  rw [this, ← hz2]; simp
 have hexec : ∀ {v : Value} {w' : World}, (Builtin.append_ #[t, u] o.type #[a.eval ox, a.eval oy]).run E.P w = .ok v w' → (execOp a.eval o).run E.P w = .ok (.value v) w' := by
  intro v w' hrun
  rw [hex]
  simp only [builtin, List.map_toArray, List.map_cons, List.map_nil]
  rw [Sem.run_bind, hrun]
  rfl
 unfold evalIr at hr
 obtain ⟨r, st2, h1, h2⟩ := FM.bind_some hr
 clear hr
 obtain ⟨rfl, C1, t', ys, hi1, hC1, her, hyv, hrow⟩ := row_lift hf h hy h1
 split at h2
 ·simp [FM.run] at h2
 ·rename_i hk0
  have hk0' : 0 < i.size := by omega
  obtain ⟨c, st3, h3, h4⟩ := FM.bind_some h2
  clear h2
  obtain ⟨rfl, zc, rfl, hdd, hzc, hxv, hzm⟩ := one_lift hf hi1 hx h3
  split at h4
  ·rename_i v f u' es' s' c' ix hvv hff
   obtain ⟨sl, st4, h5, h6⟩ := FM.bind_some h4
   clear h4
   obtain ⟨h7, rfl⟩ := getS_run h5
   obtain ⟨slA, hA, rfl⟩ := erS_some h7
   obtain ⟨l, st5, h8, h9⟩ := FM.bind_some h6
   clear h6
   obtain ⟨h10, rfl⟩ := getS_run h8
   obtain ⟨lA, hlA, rfl⟩ := erS_some h10
   rw [hf.nt] at hlA h9
   split at h9
   ·rename_i hfl hld
    split at h9
    ·rename_i hh
     obtain ⟨q1, q2, q3, q4, q5⟩ := hh
     obtain ⟨un, st6, h11, h12⟩ := FM.bind_some h9
     obtain ⟨rfl, rfl⟩ := ret_run h12
     obtain ⟨_, rfl⟩ := setS_run h11
     obtain ⟨zv, zf⟩ := zc
     have hzf : zf = .cp .own s' c' (some ix) := hff
     subst hzf
     obtain ⟨tx, es, hzv, hes⟩ := er_row (t := u') (v := zv) hvv
     subst hzv
     subst hes
     rw [← her] at q2 q4 q5
     rw [← her]
     simp only [flAt, er_cells, List.getElem?_map, Option.map_map, Option.map_eq_some_iff] at hfl
     obtain ⟨y0, hy0, hy0f⟩ := hfl
     have hy0f : y0.f = .ow false := hy0f
     have hld' : lA.k = .dead := by
      rw [er_kind] at hld
      cases hk' : lA.k <;> rw [hk'] at hld <;> simp [Kd.er] at hld ⊢
     rw [erR_length, erR_length] at q5
     obtain ⟨v, w', C2, t1, r1, r2, r3⟩ := append_ap (ty := o.type) hi1 hb hzc (cellAt_of hA hy0) hy0f hlA hld' ht hu hi hz1 hz2 hk0' hby hrow.rd (by rw [← hzl]; exact rowsOf_er q3) (by rw [← hzl]; exact rowsOf_er q4) q5 (allScal_er q1) (allScal_er q2)
     refine ⟨v, w', _, C2, _, hexec ?_, ?_, ?_, r2, r3⟩
     ·rw [hxv, hyv]; exact r1
     ·rw [erS_set]; rfl
     ·rw [← erR_append]; rfl
    ·simp [FM.run] at h9
   ·simp [FM.run] at h9
  ·obtain ⟨xs, st4, h5, h6⟩ := FM.bind_some h4
   clear h4
   obtain ⟨S1, C2, zs1, rfl, e2, e3, e4, e5, e6, e7⟩ := take_lift hf hi1 hx h5
   obtain ⟨zz, st5, h7, h8⟩ := FM.bind_some h6
   clear h6
   rw [← her] at h7
   obtain ⟨S2, C3, zs2, t1, ys1, rfl, m2, m3, m4, m5, m6, m7⟩ := takeElems_lift hf e4 hy hyv (hrow.rd.mono e6 (fun _ _ _ => rfl)) h7
   split at h8
   ·rename_i u' es' f
    simp only [Bool.false_eq_true, if_false] at e7
    obtain ⟨d, rfl, hdv⟩ := e7
    simp only [List.map_cons, List.map_nil, List.cons.injEq, and_true] at e2
    obtain ⟨v, f'⟩ := d
    simp only [Cell.er, Cell.mk.injEq] at e2
    obtain ⟨e2, rfl⟩ := e2
    obtain ⟨tx, es, rfl, he⟩ := er_row (t := u') e2
    rw [← he, ← m2] at h8
    obtain ⟨rfl, v, w', C4, sA, r1, r2, r3, r4⟩ := append_hand (ty := o.type) m5 hb ht hu hi hz1 hz2 hzl.symm (by omega) hby m4 m6 m7 h8
    refine ⟨v, w', S2, C4, sA, hexec ?_, rfl, r2, r3, r4⟩
    rw [hdv, m3]; exact r1
   ·simp [FM.run] at h8
end
end Go.Vm
end
section
namespace Go.Vm
section
variable {E : Env} {cx : Cx} {S : StA} {X : List (Cell Tg)} {C : Nat → Nat → Prop} {a : Act} {w w' : World}
theorem fail_run {α : Type} {st : St} {r : α × St} (h : (FM.fail : FM α).run st = some r) : False := by simp [FM.run] at h
theorem elemZ_size {P : Program} {t : TypeId} {zs : List V} (h : elemZ P t = some zs) : ∃ e i, P.underlying t = some (.slice e) ∧ P.info? e = some i ∧ i.size = zs.length := by
 obtain ⟨e, i, hu, hi, _, hze⟩ := elemZ_some h
 obtain ⟨i', z, hi', hz1, hz2, hz3⟩ := zeroV_some hze
 rw [hi] at hi'
 obtain rfl := Option.some.inj hi'
 refine ⟨e, i, hu, hi, ?_⟩
 have := (mapO_some hz3).1
 rw [this, ← hz2]; simp
theorem sound_call_ir (hf : Fits E cx) (h : Inv E S X C a w) (hb : E.base ≤ w.heap.size) {o : Oper} {k : Call} (ho : o.op = .call k) {ir : Ir} (hc : cCall cx k = some ir)
  {s : SU} {st1 : St} (hr : (evalIr cx.nt ir).run (erS S) = some (s, st1)) : Makes E X a w o s st1 := by
 unfold cCall at hc
 split at hc
 ·rw [Option.map_eq_some_iff] at hc
  obtain ⟨g, _, rfl⟩ := hc
  exact (fail_run hr).elim
 ·rw [Option.map_eq_some_iff] at hc
  obtain ⟨g, _, rfl⟩ := hc
  exact (fail_run hr).elim
 ·rename_i x hcal hargs
  obtain ⟨ox, hk, hx⟩ := mapO_one hargs
  split at hc
  ·rename_i t ht
   split at hc
   ·rename_i e hu
    simp only [Option.some.injEq] at hc; subst hc
    exact sound_len hf h (b := false) ho hcal hk ht ⟨_, by rw [← hf.P]; exact hu⟩ hx hr
   ·rename_i hu
    simp only [Option.some.injEq] at hc; subst hc
    exact sound_len hf h (b := true) ho hcal hk ht (by simp only [if_true]; rw [← hf.P]; exact hu) hx hr
   ·cases hc
  ·cases hc
 ·rename_i x y hcal hargs
  simp only [Option.some.injEq] at hc; subst hc
  obtain ⟨ox, oy, hk, hx, hy⟩ := mapO_two hargs
  exact sound_min hf h ho hcal hk hx hy hr
 ·rename_i x y hcal hargs
  simp only [Option.some.injEq] at hc; subst hc
  obtain ⟨ox, oy, hk, hx, hy⟩ := mapO_two hargs
  exact sound_max hf h ho hcal hk hx hy hr
 ·rename_i x y hcal hargs
  obtain ⟨ox, oy, hk, hx, hy⟩ := mapO_two hargs
  split at hc
  ·rename_i t u ht
   split at hc
   ·rename_i z e' hz hu
    simp only [Option.some.injEq] at hc; subst hc
    rw [hf.P] at hz hu
    exact sound_append hf h hb ho hcal hk ht hz hu hx hy hr
   ·cases hc
  ·cases hc
 ·cases hc
theorem sound_ir (hf : Fits E cx) (h : Inv E S X C a w) (hb : E.base ≤ w.heap.size) {inRow : Nat → Bool} {o : Oper} {ir : Ir} (hc : cOp cx inRow o = some ir)
  {s : SU} {st1 : St} (hr : (evalIr cx.nt ir).run (erS S) = some (s, st1)) : Makes E X a w o s st1 := by
 have hP := hf.P
 unfold cOp at hc
 split at hc
 ·rename_i ox ho
  rw [Option.map_eq_some_iff] at hc
  obtain ⟨x, hx, rfl⟩ := hc
  exact sound_move hf h ho hx hr
 ·split at hc
  ·simp only [Option.some.injEq] at hc; subst hc; exact (fail_run hr).elim
  ·simp only [Option.some.injEq] at hc; subst hc; exact (fail_run hr).elim
  ·rw [Option.map_eq_some_iff] at hc
   obtain ⟨x, hx, rfl⟩ := hc
   exact (fail_run hr).elim
 ·rename_i oc ox oy ho
  split at hc
  ·rename_i c x y h1 h2 h3
   simp only [Option.some.injEq] at hc; subst hc
   exact sound_pick hf h ho h1 h2 h3 hr
  ·cases hc
 ·rename_i t ho
  rw [Option.map_eq_some_iff] at hc
  obtain ⟨zs, hz, rfl⟩ := hc
  rw [hP] at hz
  rw [hf.nt] at hr
  exact sound_alloc h hb ho hz hr
 ·rename_i t ox ho
  rw [Option.map_eq_some_iff] at hc
  obtain ⟨x, hx, rfl⟩ := hc
  exact sound_box hf h hb ho hx hr
 ·rename_i t ps ho
  split at hc
  ·rename_i pl z hpl hz
   rw [Option.map_eq_some_iff] at hc
   obtain ⟨parts, hps, rfl⟩ := hc
   rw [hP] at hz hpl
   exact sound_build hf h ho hpl hz hps hr
  ·cases hc
 ·rename_i t len ps ho
  split at hc
  ·rename_i z parts hz hps
   split at hc
   ·rename_i hlim
    simp only [Option.some.injEq] at hc; subst hc
    rw [hP] at hz
    exact sound_bslice hf h hb ho hz hlim hps hr
   ·cases hc
  ·cases hc
 ·rename_i t oa ho
  split at hc
  ·rename_i g n x hag hx
   simp only [Option.some.injEq] at hc; subst hc
   rw [hP] at hag
   exact sound_load hf h ho hag hx hr
  ·cases hc
 ·rename_i t oa ox ho
  split at hc
  ·rename_i a' x' i' h1 h2 h3
   simp only [Option.some.injEq] at hc; subst hc
   split at hr
   ·split at hr <;> exact (fail_run hr).elim
   ·simp only [Bool.false_eq_true, if_false] at hr
    exact (fail_run hr).elim
  ·cases hc
 ·rename_i ox ho
  rw [Option.map_eq_some_iff] at hc
  obtain ⟨x, hx, rfl⟩ := hc
  exact sound_nilchk hf h ho hx hr
 ·rename_i op t ox oy t' ho
  split at hc
  ·rename_i x y k hx hy hu
   simp only [Option.some.injEq] at hc; subst hc
   exact sound_bin hf h ho hx hy hr
  ·rename_i x y hx hy hu
   rw [hP] at hu
   split at hc
   ·simp only [Option.some.injEq] at hc; subst hc
    exact sound_beq hf h ho (by simp) hu hx hy hr
   ·simp only [Option.some.injEq] at hc; subst hc
    exact sound_beq hf h ho (by simp) hu hx hy hr
   ·cases hc
  ·cases hc
 ·rename_i op t ox ho
  rw [Option.map_eq_some_iff] at hc
  obtain ⟨x, hx, rfl⟩ := hc
  exact sound_un hf h ho hx hr
 ·rename_i t u ox ho
  split at hc
  ·rename_i k' k ht hu
   rw [Option.map_eq_some_iff] at hc
   obtain ⟨x, hx, rfl⟩ := hc
   rw [hP] at ht hu
   exact sound_conv hf h ho ht hu hx hr
  ·cases hc
 ·rename_i f first caps ho
  split at hc
  ·rename_i hfi
   split at hc
   ·rename_i g ts hg ht
    simp only [Option.some.injEq] at hc; subst hc
    exact sound_mkfn hf h ho hfi hg ht hr
   ·cases hc
  ·cases hc
 ·rename_i t ol oc ho
  split at hc
  ·rename_i z l c hz hl hcc
   simp only [Option.some.injEq] at hc; subst hc
   rw [hP] at hz
   exact sound_mkslice hf h hb ho hz hl hcc hr
  ·cases hc
 ·rename_i t ox olo ohi ho
  split at hc
  ·rename_i z x lo hi hz hx hlo hhi
   simp only [Option.some.injEq] at hc; subst hc
   rw [hP] at hz
   obtain ⟨e, i, hu, hinf, hk⟩ := elemZ_size hz
   exact sound_slice hf h ho hu hinf hk hx hlo hhi hr
  ·cases hc
 ·rename_i t oa f ho
  split at hc
  ·rename_i fld x hfl hx
   split at hc
   ·cases hc
   ·rename_i hn
    simp only [Option.some.injEq] at hc; subst hc
    rw [hP] at hfl hn
    exact sound_faddr hf h ho hfl hn hx hr
  ·cases hc
 ·rename_i t ox f ho
  split at hc
  ·rename_i fld x hfl hx
   split at hc
   ·rename_i g n hag
    simp only [Option.some.injEq] at hc; subst hc
    rw [hP] at hfl hag
    exact sound_field hf h ho hfl hag hx hr
   ·cases hc
  ·cases hc
 ·rename_i t ox oi ho
  split at hc
  ·rename_i z x y hz hx hy
   simp only [Option.some.injEq] at hc; subst hc
   rw [hP] at hz
   obtain ⟨e, i, hu, hinf, hk⟩ := elemZ_size hz
   exact sound_iaddr hf h ho hu hinf hk hx hy hr
  ·cases hc
 ·rename_i t ox oi ho
  split at hc
  ·rename_i x y hu hx hy
   simp only [Option.some.injEq] at hc; subst hc
   rw [hP] at hu
   exact sound_index hf h ho hu hx hy hr
  ·cases hc
 ·rename_i ox ix ho
  rw [Option.map_eq_some_iff] at hc
  obtain ⟨x, hx, rfl⟩ := hc
  exact sound_extract hf h ho hx hr
 ·rename_i k ho
  exact sound_call_ir hf h hb ho hc hr
 ·cases hc
end
end Go.Vm
end
section
namespace Go.Vm
section
variable {E : Env} {cx : Cx} {S : StA} {X : List (Cell Tg)} {C : Nat → Nat → Prop} {a : Act} {w w' : World}
theorem SlV.ext {sid : Nat → Nat} {S S' : StA} (hb : ∀ r x, boxAddr S r = some x → boxAddr S' r = some x) {s : SA} {v : Value} (h : SlV sid S s v) : SlV sid S' s v := by
 obtain ⟨k, cs⟩ := s
 cases k with
 | ptr r off =>
  obtain ⟨b, h1, h2⟩ := h
  exact ⟨b, hb r _ h1, h2⟩
 | clo g rs =>
  obtain ⟨h1, h2⟩ := h
  refine ⟨fun r hr => ?_, ?_⟩
  ·obtain ⟨b, hr'⟩ := h1 r hr
   exact ⟨b, hb r _ hr'⟩
  ·have h2 : v = _ := h2
   rw [h2]
   congr 2
   refine List.map_congr_left fun r hr => ?_
   obtain ⟨b, hr'⟩ := h1 r hr
   rw [hr', hb r _ hr']
 | _ => exact h
theorem Inv.putHigh {s there : SA} {p b : Nat} {t : Tg} (h : Inv E S (s.cs ++ X) C a w) (he1 : E.nt ≤ p) (he2 : p ≠ lockS E.nt) (he3 : p ≠ lockS E.nt + 1) (hth : S[p]? = some there) (hk : there.k = .dead) (hs : s.k = .box t) (hta : t.a = some ⟨b, 0, none⟩)
  (hbox : BoxOk E w C t s.cs) (hb : b ∉ ownAll S (s.cs ++ X)) (hlt : b < w.heap.size) (hold : ∀ j, ¬ E.old b j)
  (hap : ∀ x ∈ cellsAll S (s.cs ++ X), ∀ p q r, x.f = .ap p q r → ∀ y, cellAt S p q = some y → (∃ g, y.f = .ow g) → b ∉ x.v.blks) : Inv E (S.set p s) X C a w := by
 have hpS := (List.getElem?_eq_some_iff.1 hth).1
 have hthcs : there.cs = [] := h.emp p there hth (.inl hk)
 have hthown : there.own = [] := by simp [Sl.own, Sl.boxOwn, hk, hthcs]
 have hsown : s.own = b :: s.cs.flatMap Cell.own := by simp [Sl.own, Sl.boxOwn, hs, hta]
 have hL : Less S (S.set p s) ((⟨.row ⟨some ⟨b, 0, none⟩, 0, 0⟩ [], .ow false⟩ : Cell Tg) :: (s.cs ++ X)) X := by
  refine ⟨fun x => ?_, fun i q hr => ?_, fun i q y hr hy hf => ?_⟩
  ·have h1 := count_set_flatMap Sl.own x S p there s hth
   rw [hthown, hsown] at h1
   have h2 : (Cell.own (⟨.row ⟨some ⟨b, 0, none⟩, 0, 0⟩ [], .ow false⟩ : Cell Tg)) = [b] := by simp [Cell.own, Go.Vm.hold, isOs, owns, VA.blks, blkR]
   simp only [ownAll, List.count_append, List.flatMap_cons, List.flatMap_append, h2, List.count_cons, List.count_nil] at h1 ⊢
   omega
  ·obtain ⟨y, hy, hyr⟩ := hr
   unfold RowAt
   rw [cellAt_set hpS]
   by_cases hi : i = p
   ·subst hi
    obtain ⟨sl, h1, h2⟩ := cellAt_some hy
    rw [hth] at h1
    obtain rfl := Option.some.inj h1
    rw [hthcs] at h2; simp at h2
   ·simp only [hi, if_false]
    exact ⟨y, hy, hyr⟩
  ·rw [cellAt_set hpS] at hy
   by_cases hi : i = p
   ·subst hi
    obtain ⟨y', hy', _⟩ := hr
    obtain ⟨sl, h1, h2⟩ := cellAt_some hy'
    rw [hth] at h1
    obtain rfl := Option.some.inj h1
    rw [hthcs] at h2; simp at h2
   ·simp only [hi, if_false] at hy
    exact ⟨y, hy, rfl, rfl⟩
 have hmemY : ∀ x, x ∈ ownAll S ((⟨.row ⟨some ⟨b, 0, none⟩, 0, 0⟩ [], .ow false⟩ : Cell Tg) :: (s.cs ++ X)) → x = b ∨ x ∈ ownAll S (s.cs ++ X) := by
  intro x hx
  simp only [ownAll, List.flatMap_cons, List.mem_append, Cell.own, Go.Vm.hold, isOs, owns, Bool.or_false, Bool.true_or, Bool.false_eq_true, if_false, if_true, VA.blks, blkR, List.append_nil, List.mem_singleton] at hx ⊢
  rcases hx with hx | hx | hx
  ·exact .inr (.inl hx)
  ·exact .inl hx
  ·exact .inr (.inr hx)
 have hcok : ∀ x ∈ cellsAll S (s.cs ++ X), COk E w C S ((⟨.row ⟨some ⟨b, 0, none⟩, 0, 0⟩ [], .ow false⟩ : Cell Tg) :: (s.cs ++ X)) x := by
  intro x hx
  have hk := h.ok x hx
  have hax := hap x hx
  obtain ⟨v, f⟩ := x
  cases f with
  | ap i q r =>
   refine ⟨hk.1, hk.2.1, fun y hy hg => ⟨(hk.2.2 y hy hg).1, (hk.2.2 y hy hg).2.imp (fun hn b' hb' => ⟨fun hm => ?_, (hn b' hb').2⟩) id⟩⟩
   rcases hmemY b' hm with rfl | hm
   ·exact hax i q r rfl y hy hg hb'
   ·exact (hn b' hb').1 hm
  | _ => exact hk
 have hbx : ∀ r x, boxAddr S r = some x → boxAddr (S.set p s) r = some x := by
  intro r x hr
  by_cases e : p = r
  ·subst e
   unfold boxAddr at hr
   rw [hth] at hr
   obtain ⟨k', cs'⟩ := there
   simp only at hk; subst hk
   simp at hr
  ·unfold boxAddr at hr ⊢
   rw [List.getElem?_set_ne e]; exact hr
 have hget : ∀ {i : Nat} {s' : SA}, (S.set p s)[i]? = some s' → (i = p ∧ s' = s) ∨ (i ≠ p ∧ S[i]? = some s') := by
  intro i s' hi
  rw [List.getElem?_set] at hi
  split at hi
  ·rename_i e; subst e
   simp only [Option.some.injEq] at hi
   exact .inl ⟨rfl, hi.symm⟩
  ·rename_i e
   exact .inr ⟨fun h => e h.symm, hi⟩
 have hcnt : ∀ x, (ownAll S ((⟨.row ⟨some ⟨b, 0, none⟩, 0, 0⟩ [], .ow false⟩ : Cell Tg) :: (s.cs ++ X))).count x ≤ 1 := by
  intro x
  have h1 := h.cnt x
  have h2 : (ownAll S ((⟨.row ⟨some ⟨b, 0, none⟩, 0, 0⟩ [], .ow false⟩ : Cell Tg) :: (s.cs ++ X))).count x = (ownAll S (s.cs ++ X)).count x + [b].count x := by
   simp only [ownAll, List.count_append, List.flatMap_cons, Cell.own, Go.Vm.hold, isOs, owns, Bool.or_false, Bool.true_or, Bool.false_eq_true, if_false, if_true, VA.blks, blkR, List.append_nil]
   omega
  rw [h2]
  by_cases e : b = x
  ·subst e
   rw [List.count_eq_zero.2 hb]
   simp
  ·have : [b].count x = 0 := by
    rw [List.count_eq_zero]
    simpa using fun h => e h.symm
   omega
 refine ⟨by simp [h.len], h.tsz, h.nodef, ?_, ?_, ?_, ?_, ?_, ?_, ?_, ?_, ?_, ?_, h.olt, h.clt, h.cbase, ?_⟩
 ·intro i s' hi hs'
  rcases hget hs' with ⟨rfl, rfl⟩ | ⟨hne, hs'⟩
  ·omega
  ·exact (h.slv i s' hi hs').ext hbx
 ·intro i s' hi hs'
  rcases hget hs' with ⟨rfl, rfl⟩ | ⟨hne, hs'⟩
  ·exact .inr (.inr ⟨t, hs, fun e => absurd e he3⟩)
  ·exact h.high i s' hi hs'
 ·intro i s' hs' hk'
  rcases hget hs' with ⟨rfl, rfl⟩ | ⟨hne, hs'⟩
  ·rw [hs] at hk'; simp at hk'
  ·exact h.emp i s' hs' hk'
 ·intro i s' hi hs' hk'
  rcases hget hs' with ⟨rfl, rfl⟩ | ⟨hne, hs'⟩
  ·rw [hs] at hk'; simp at hk'
  ·exact h.lock i s' hi hs' hk'
 ·intro l hl hd
  rcases hget hl with ⟨e, _⟩ | ⟨hne, hl⟩
  ·exact absurd e.symm he2
  ·obtain ⟨h1, h2⟩ := h.noap l hl hd
   refine ⟨fun i s' hs' x hx => ?_, fun x hx => h2 x (List.mem_append.2 (.inr hx))⟩
   rcases hget hs' with ⟨rfl, rfl⟩ | ⟨hne, hs'⟩
   ·exact h2 x (List.mem_append.2 (.inl hx))
   ·exact h1 i s' hs' x hx
 ·intro i s' t' hs' hk'
  rcases hget hs' with ⟨rfl, rfl⟩ | ⟨hne, hs'⟩
  ·rw [hs] at hk'
   simp only [Kd.box.injEq] at hk'
   subst hk'
   exact hbox
  ·exact h.box i s' t' hs' hk'
 ·intro i s' t' src ix hs' hk'
  rcases hget hs' with ⟨rfl, rfl⟩ | ⟨hne, hs'⟩
  ·rw [hs] at hk'; simp at hk'
  ·exact (h.ept i s' t' src ix hs' hk').less hL
 ·intro i s' hs' x hx
  rcases hget hs' with ⟨rfl, rfl⟩ | ⟨hne, hs'⟩
  ·exact (hcok x (mem_hand (List.mem_append.2 (.inl hx)))).less hL
  ·exact (hcok x (mem_cellsAll hs' hx)).less hL
 ·intro x hx
  exact (hcok x (mem_hand (List.mem_append.2 (.inr hx)))).less hL
 ·exact fun x => Nat.le_trans (hL.own x) (hcnt x)
 ·intro x hx
  rcases hmemY x (hL.mem hx) with rfl | hx
  ·exact ⟨hlt, hold⟩
  ·exact h.ownlt x hx
theorem put_lift {sA : SA} {v : Value} (hm : Made E S X C a w sA v) {d : Nat} {u : Unit} {st1 : St} (hr : (putS E.nt d sA.er).run (erS S) = some (u, st1)) :
  ∃ S1, erS S1 = st1 ∧ Inv E S1 X C (a.put (some d) v) w := by
 unfold putS at hr
 obtain ⟨old, st2, h1, h2⟩ := FM.bind_some hr
 clear hr
 obtain ⟨h3, rfl⟩ := getS_run h1
 obtain ⟨o, ho, rfl⟩ := erS_some h3
 split at h2
 ·rename_i hh
  obtain ⟨hfr, hd⟩ := hh
  have hfree := freeS_free hm.inv ho hfr
  split at h2
  ·rename_i hk
   have hk' : ∃ t, sA.k = .box t := by
    rw [er_kind] at hk
    cases hk' : sA.k <;> rw [hk'] at hk <;> simp [Kd.er] at hk ⊢
   obtain ⟨t, hk'⟩ := hk'
   obtain ⟨there, st3, h4, h5⟩ := FM.bind_some h2
   clear h2
   obtain ⟨h6, rfl⟩ := getS_run h4
   obtain ⟨th, hth, rfl⟩ := erS_some h6
   split at h5
   ·rename_i hdk
    have hdk' : th.k = .dead := by
     rw [er_kind] at hdk
     cases hk' : th.k <;> rw [hk'] at hdk <;> simp [Kd.er] at hdk ⊢
    obtain ⟨u1, st4, h7, h8⟩ := FM.bind_some h5
    obtain ⟨_, rfl⟩ := setS_run h7
    obtain ⟨_, rfl⟩ := setS_run h8
    obtain ⟨hbox, b, hta, hv, hb1, hb2, hb3, hb4, hb5⟩ := hm.box t hk'
    have hp := hm.inv.putHigh (p := d + E.nt) (by omega) (by unfold lockS; omega) (by unfold lockS; omega) hth hdk' hk' hta hbox hb1 hb3 hb4 hb5
    have hpS := (List.getElem?_eq_some_iff.1 hth).1
    have ho' : (S.set (d + E.nt) sA)[d]? = some o := by
     rw [List.getElem?_set_ne (by omega)]; exact ho
    have hba : boxAddr (S.set (d + E.nt) sA) (d + E.nt) = some ⟨b, 0, none⟩ := by
     unfold boxAddr
     rw [List.getElem?_set_self hpS]
     obtain ⟨k', cs'⟩ := sA
     simp only at hk'; subst hk'
     exact hta
    refine ⟨(S.set (d + E.nt) sA).set d ⟨.ptr (d + E.nt) 0, []⟩, by rw [erS_set, erS_set]; rfl, ?_⟩
    refine Inv.put (zs := []) (s := ⟨.ptr (d + E.nt) 0, []⟩) hp hd ho' hfree rfl (by simp) ?_ (by simp) (by simp)
    exact ⟨b, hba, by rw [hv]⟩
   ·exact (fail_run h5).elim
  ·rename_i hk
   have hk' : ∀ t, sA.k ≠ .box t := by
    intro t ht
    exact hk () (by rw [er_kind, ht]; rfl)
   obtain ⟨_, rfl⟩ := setS_run h2
   refine ⟨S.set d sA, by rw [erS_set], ?_⟩
   exact hm.inv.put hd ho hfree rfl hk' (hm.val hk') hm.emp hm.ept
 ·exact (fail_run h2).elim
theorem Made.drop {sA : SA} {v : Value} (hm : Made E S X C a w sA v) : Inv E S X C a w := hm.inv.dropAll
end
end Go.Vm
end
section
namespace Go.Vm
def newCellA (x : Cell Tg) : Cell Tg := match x.f with | .ow g => ⟨x.v, .nw g⟩ | .os _ => ⟨x.v, .os true⟩ | _ => x
theorem newCellA_v (x : Cell Tg) : (newCellA x).v = x.v := by
 obtain ⟨v, f⟩ := x
 cases f <;> rfl
theorem newCellA_er (x : Cell Tg) : (newCellA x).er = newCell x.er := by
 obtain ⟨v, f⟩ := x
 cases f <;> rfl
theorem newCellA_own (x : Cell Tg) : (newCellA x).own = x.own := by
 obtain ⟨v, f⟩ := x
 cases f <;> rfl
theorem newCellsA_er (zs : List (Cell Tg)) : (zs.map newCellA).map Cell.er = (zs.map Cell.er).map newCell := by
 simp only [List.map_map]
 exact List.map_congr_left fun x _ => newCellA_er x
theorem newCellsA_v (zs : List (Cell Tg)) : (zs.map newCellA).map (·.v) = zs.map (·.v) := by
 simp only [List.map_map]
 exact List.map_congr_left fun x _ => newCellA_v x
theorem newCellsA_own (zs : List (Cell Tg)) : (zs.map newCellA).flatMap Cell.own = zs.flatMap Cell.own := by
 induction zs with
 | nil => rfl
 | cons z zs ih => simp only [List.map_cons, List.flatMap_cons, ih, newCellA_own]
section
variable {E : Env} {cx : Cx} {S : StA} {X : List (Cell Tg)} {C : Nat → Nat → Prop} {a : Act} {w w' : World}
theorem COk.new {x : Cell Tg} (h : COk E w C S X x) : COk E w C S X (newCellA x) := by
 obtain ⟨v, f⟩ := x
 cases f <;> exact h
def Quiet (f : Fl) : Prop := (∀ g, f ≠ .ow g) ∧ ((∀ i, f ≠ .mp i) ∧ f ≠ .os false) ∧ ∀ p q r, f ≠ .ap p q r
theorem quiet_new {z : Cell Tg} (ht : Taken z.f = true) (hm : ∀ i, z.f ≠ .mp i) : Quiet (newCellA z).f := by
 obtain ⟨v, f⟩ := z
 cases f <;> first | exact absurd rfl (hm _) | (simp [Taken] at ht; done) | exact ⟨by simp [newCellA], by simp [newCellA], by simp [newCellA]⟩
theorem noMp_er {zs : List (Cell Tg)} (h : noMp (zs.map Cell.er) = true) : ∀ z ∈ zs, ∀ i, z.f ≠ .mp i := by
 intro z hz i e
 have := List.all_eq_true.1 h z.er (List.mem_map_of_mem hz)
 simp [Cell.er, e] at this
theorem rowsStay_at : ∀ {xs ys : List (Cell Tg)}, rowsStay (xs.map Cell.er) (ys.map Cell.er) = true → ∀ (q : Nat) (x : Cell Tg), xs[q]? = some x → isRow x.v = true → ∃ y, ys[q]? = some y ∧ isRow y.v = true
 | [], _, _, q, x, hx, _ => by simp at hx
 | x' :: xs, [], h, q, x, hx, hr => by
  simp only [List.map_cons, List.map_nil, rowsStay, Bool.and_eq_true, Cell.er, isRow_er] at h
  cases q with
  | zero => simp at hx; subst hx; simp [hr] at h
  | succ q =>
   obtain ⟨y, hy, _⟩ := rowsStay_at (xs := xs) (ys := []) (by simpa using h.2) q x (by simpa using hx) hr
   simp at hy
 | x' :: xs, y' :: ys, h, q, x, hx, hr => by
  simp only [List.map_cons, rowsStay, Bool.and_eq_true, Cell.er, isRow_er, Bool.or_eq_true, Bool.not_eq_true'] at h
  cases q with
  | zero =>
   simp at hx; subst hx
   refine ⟨y', rfl, ?_⟩
   rcases h.1 with h | h
   ·rw [hr] at h; cases h
   ·exact h
  | succ q =>
   obtain ⟨y, hy, hyr⟩ := rowsStay_at (xs := xs) (ys := ys) h.2 q x (by simpa using hx) hr
   exact ⟨y, by simpa using hy, hyr⟩
theorem less_replace {zs : List (Cell Tg)} {d : Nat} {s o : SA} (ho : S[d]? = some o) (hbo : s.boxOwn = o.boxOwn) (hown : ∀ b, (s.cs.flatMap Cell.own).count b ≤ (o.cs.flatMap Cell.own).count b + (zs.flatMap Cell.own).count b)
  (hrow : ∀ (q : Nat) (x : Cell Tg), o.cs[q]? = some x → isRow x.v = true → ∃ y, s.cs[q]? = some y ∧ isRow y.v = true)
  (hq : ∀ (q : Nat) (x : Cell Tg), s.cs[q]? = some x → Quiet x.f ∨ o.cs[q]? = some x) : Less S (S.set d s) (zs ++ X) X := by
 have hd := (List.getElem?_eq_some_iff.1 ho).1
 refine ⟨fun b => ?_, fun p q hr => ?_, fun p q y hr hy hf => ?_⟩
 ·have h1 := count_set_flatMap Sl.own b S d o s ho
  have h2 := hown b
  have h3 : o.own.count b = o.boxOwn.count b + (o.cs.flatMap Cell.own).count b := by unfold Sl.own; rw [List.count_append]
  have h4 : s.own.count b = s.boxOwn.count b + (s.cs.flatMap Cell.own).count b := by unfold Sl.own; rw [List.count_append]
  rw [hbo] at h4
  simp only [ownAll, List.count_append, List.flatMap_append] at h1 ⊢
  omega
 ·obtain ⟨y, hy, hyr⟩ := hr
  unfold RowAt
  rw [cellAt_set hd]
  by_cases hp : p = d
  ·subst hp
   obtain ⟨sl, h1, h2⟩ := cellAt_some hy
   rw [ho] at h1
   obtain rfl := Option.some.inj h1
   simp only [if_true]
   exact hrow q y h2 hyr
  ·simp only [hp, if_false]
   exact ⟨y, hy, hyr⟩
 ·rw [cellAt_set hd] at hy
  by_cases hp : p = d
  ·subst hp
   simp only [if_true] at hy
   rcases hq q y hy with hq | hq
   ·rcases hf with ⟨g, hg⟩ | ⟨i, hi⟩ | hf
    ·exact absurd hg (hq.1 g)
    ·exact absurd hi (hq.2.1.1 i)
    ·exact absurd hf hq.2.1.2
   ·exact ⟨y, cellAt_of ho hq, rfl, rfl⟩
  ·simp only [hp, if_false] at hy
   exact ⟨y, hy, rfl, rfl⟩
theorem Inv.putL {zs : List (Cell Tg)} (h : Inv E S (zs ++ X) C a w) {d : Nat} {s o : SA} (hd : d < E.nt) (ho : S[d]? = some o) (hl : Less S (S.set d s) (zs ++ X) X) (hcs : ∀ x ∈ s.cs, COk E w C S (zs ++ X) x ∧ ∀ p q r, x.f ≠ .ap p q r)
  (hob : ∀ t, o.k ≠ .box t) (hsb : ∀ t, s.k ≠ .box t)
  {v : Value} (hv : SlV E.sid S s v) (hemp : (s.k = .dead ∨ s.k = .und ∨ (∃ r o, s.k = .ptr r o) ∨ ∃ g rs, s.k = .clo g rs) → s.cs = [])
  (hept : ∀ t src ix, s.k = .ept t src ix → EptOk E w C S t src ix s.cs) : Inv E (S.set d s) X C (a.put (some d) v) w := by
 have hdS := (List.getElem?_eq_some_iff.1 ho).1
 have hbox := boxAddr_set ho hob hsb
 have hget : ∀ {i : Nat} {s' : SA}, (S.set d s)[i]? = some s' → (i = d ∧ s' = s) ∨ (i ≠ d ∧ S[i]? = some s') := by
  intro i s' hi
  rw [List.getElem?_set] at hi
  split at hi
  ·rename_i e; subst e
   simp only [Option.some.injEq] at hi
   exact .inl ⟨rfl, hi.symm⟩
  ·rename_i e
   exact .inr ⟨fun h => e h.symm, hi⟩
 refine ⟨by simp [h.len], by simp [Act.put, h.tsz], h.nodef, ?_, ?_, ?_, ?_, ?_, ?_, ?_, ?_, ?_, ?_, h.olt, h.clt, h.cbase, fun b hb => h.ownlt b (hl.mem hb)⟩
 ·intro i s' hi hs'
  rcases hget hs' with ⟨rfl, rfl⟩ | ⟨hne, hs'⟩
  ·have : (a.put (some i) v).tmps.getD i undef = v := by
    simp [Act.put, h.tsz, hd]
   rw [this]; exact hv.set hbox
  ·have : (a.put (some d) v).tmps.getD i undef = a.tmps.getD i undef := by
    have hne' : ¬ d = i := fun e => hne e.symm
    simp [Act.put, hne']
   rw [this]; exact (h.slv i s' hi hs').set hbox
 ·intro i s' hi hs'
  rcases hget hs' with ⟨rfl, rfl⟩ | ⟨hne, hs'⟩
  ·omega
  ·exact h.high i s' hi hs'
 ·intro i s' hs' hk
  rcases hget hs' with ⟨rfl, rfl⟩ | ⟨hne, hs'⟩
  ·exact hemp hk
  ·exact h.emp i s' hs' hk
 ·intro i s' hi hs' hk
  rcases hget hs' with ⟨rfl, rfl⟩ | ⟨hne, hs'⟩
  ·omega
  ·exact h.lock i s' hi hs' hk
 ·intro l hl' hk
  rcases hget hl' with ⟨e, _⟩ | ⟨hne, hl'⟩
  ·unfold lockS at e; omega
  ·obtain ⟨h1, h2⟩ := h.noap l hl' hk
   refine ⟨fun i s' hs' x hx => ?_, fun x hx => h2 x (List.mem_append.2 (.inr hx))⟩
   rcases hget hs' with ⟨rfl, rfl⟩ | ⟨hne, hs'⟩
   ·exact (hcs x hx).2
   ·exact h1 i s' hs' x hx
 ·intro i s' t hs' hk
  rcases hget hs' with ⟨rfl, rfl⟩ | ⟨hne, hs'⟩
  ·exact absurd hk (hsb t)
  ·exact h.box i s' t hs' hk
 ·intro i s' t src ix hs' hk
  rcases hget hs' with ⟨rfl, rfl⟩ | ⟨hne, hs'⟩
  ·exact (hept t src ix hk).less hl
  ·exact (h.ept i s' t src ix hs' hk).less hl
 ·intro i s' hs' x hx
  rcases hget hs' with ⟨rfl, rfl⟩ | ⟨hne, hs'⟩
  ·exact ((hcs x hx).1).less hl
  ·exact (h.cells i s' hs' x hx).less hl
 ·intro x hx
  exact (h.hand x (List.mem_append.2 (.inr hx))).less hl
 ·exact fun b => Nat.le_trans (hl.own b) (h.cnt b)
theorem low_nobox (h : Inv E S X C a w) {d : Nat} (hd : d < E.nt) {o : SA} (ho : S[d]? = some o) : ∀ t, o.k ≠ .box t := by
 intro t hk
 have := h.slv d o hd ho
 unfold SlV at this
 rw [hk] at this
 exact this
theorem assign_lift (hf : Fits E cx) (h : Inv E S X C a w) {o : Oper} {ox : Operand} {x : Opd} (ho : o.op = .assign ox) (hx : cOpd cx ox = some x) {d : Nat} {u : Unit} {st1 : St} (hr : (evalAssign E.nt d x).run (erS S) = some (u, st1)) :
  ∃ S1 C1, (execOp a.eval o).run E.P w = .ok (.value (a.eval ox)) w ∧ erS S1 = st1 ∧ Inv E S1 X C1 (a.put (some d) (a.eval ox)) w := by
 have hex : (execOp a.eval o).run E.P w = .ok (.value (a.eval ox)) w := by unfold execOp; rw [ho]; rfl
 unfold evalAssign at hr
 split at hr
 ·exact (fail_run hr).elim
 ·rename_i hd
  have hd : d < E.nt := by omega
  obtain ⟨sl, st2, h1, h2⟩ := FM.bind_some hr
  clear hr
  obtain ⟨rfl, s0, rfl, hop⟩ := opd_lift hf h hx h1
  have cells : ((take x).bind fun y => (getS d).bind fun old =>
    if rowsStay old.cs y.2 ∧ noMp y.2 then setS d ⟨if y.1 then .agg else .val, y.2.map newCell⟩ else .fail).run (erS S) = some (u, st1) →
    ∃ S1 C1, (execOp a.eval o).run E.P w = .ok (.value (a.eval ox)) w ∧ erS S1 = st1 ∧ Inv E S1 X C1 (a.put (some d) (a.eval ox)) w := by
   intro hr
   obtain ⟨y, st3, h3, h4⟩ := FM.bind_some hr
   clear hr
   obtain ⟨S1, C1, zs, rfl, e2, e3, e4, e5, e6, e7⟩ := take_lift hf h hx h3
   obtain ⟨old, st4, h5, h6⟩ := FM.bind_some h4
   clear h4
   obtain ⟨h7, rfl⟩ := getS_run h5
   obtain ⟨o1, ho1, rfl⟩ := erS_some h7
   split at h6
   ·rename_i hh
    obtain ⟨hst, hmp⟩ := hh
    obtain ⟨_, rfl⟩ := setS_run h6
    rw [← e2] at hst hmp
    have hmp' := noMp_er hmp
    have hst' := rowsStay_at hst
    have hsb : ∀ (t : Tg), (⟨if y.1 then Kd.agg else .val, zs.map newCellA⟩ : SA).k ≠ .box t := by
     intro t; cases y.1 <;> simp
    have hnb := low_nobox e4 hd ho1
    refine ⟨S1.set d ⟨if y.1 then .agg else .val, zs.map newCellA⟩, C1, hex, ?_, ?_⟩
    ·rw [erS_set]
     congr 1
     simp only [Sl.er, newCellsA_er, e2]
     cases y.1 <;> rfl
    ·refine e4.putL hd ho1 (less_replace ho1 ?_ (fun b => ?_) (fun q z hz hzr => ?_) (fun q z hz => ?_)) (fun z hz => ?_) hnb hsb ?_ ?_ ?_
     ·unfold Sl.boxOwn
      cases hk : o1.k <;> first | (cases y.1 <;> rfl) | exact absurd hk (hnb _)
     ·rw [newCellsA_own]; omega
     ·obtain ⟨z', hz', hzr'⟩ := hst' q z hz hzr
      exact ⟨newCellA z', by simp [hz'], by rw [newCellA_v]; exact hzr'⟩
     ·simp only [List.getElem?_map, Option.map_eq_some_iff] at hz
      obtain ⟨z', hz', rfl⟩ := hz
      have := List.mem_of_getElem? hz'
      exact .inl (quiet_new (e3 z' this) (hmp' z' this))
     ·obtain ⟨z', hz', rfl⟩ := List.mem_map.1 hz
      exact ⟨(e4.hand z' (List.mem_append.2 (.inl hz'))).new, (quiet_new (e3 z' hz') (hmp' z' hz')).2.2⟩
     ·unfold SlV
      cases hy1 : y.1 with
      | true =>
       rw [hy1] at e7
       simp only [if_true] at e7 ⊢
       rw [e7, map_val (newCellsA_v zs)]
      | false =>
       rw [hy1] at e7
       simp only [Bool.false_eq_true, if_false] at e7 ⊢
       obtain ⟨z, rfl, hzv⟩ := e7
       exact ⟨newCellA z, rfl, by rw [newCellA_v]; exact hzv⟩
     ·cases y.1 <;> simp
     ·cases y.1 <;> simp
   ·exact (fail_run h6).elim
  have bare : (∃ r o, s0.k = .ptr r o) ∨ (∃ g rs, s0.k = .clo g rs) → ((getS d).bind fun old => if rowsStay old.cs [] then setS d s0.er else .fail).run (erS S) = some (u, st1) →
    ∃ S1 C1, (execOp a.eval o).run E.P w = .ok (.value (a.eval ox)) w ∧ erS S1 = st1 ∧ Inv E S1 X C1 (a.put (some d) (a.eval ox)) w := by
   intro hk hr
   obtain ⟨old, st4, h5, h6⟩ := FM.bind_some hr
   clear hr
   obtain ⟨h7, rfl⟩ := getS_run h5
   obtain ⟨o1, ho1, rfl⟩ := erS_some h7
   split at h6
   ·rename_i hst
    obtain ⟨_, rfl⟩ := setS_run h6
    have hst' := rowsStay_at (ys := []) hst
    have hsb : ∀ t, s0.k ≠ .box t := by
     intro t e; rcases hk with ⟨r, o, hk⟩ | ⟨g, rs, hk⟩ <;> rw [hk] at e <;> cases e
    have hnb := low_nobox h hd ho1
    cases hop with
    | slot i s0 hi hs hv =>
     have hemp := h.emp i s0 hs (hk.elim (fun h => .inr (.inr (.inl h))) (fun h => .inr (.inr (.inr h))))
     refine ⟨S.set d s0, C, hex, by rw [erS_set], ?_⟩
     refine Inv.putL (zs := []) h hd ho1 (less_replace ho1 ?_ (fun b => ?_) (fun q z hz hzr => ?_) (fun q z hz => ?_)) (fun z hz => ?_) hnb hsb hv (fun _ => hemp) ?_
     ·unfold Sl.boxOwn
      cases hk' : o1.k <;> first | exact absurd hk' (hnb _) | (cases hk2 : s0.k <;> first | rfl | exact absurd hk2 (hsb _))
     ·rw [hemp]; simp
     ·obtain ⟨y, hy, _⟩ := hst' q z hz hzr
      simp at hy
     ·rw [hemp] at hz; simp at hz
     ·rw [hemp] at hz; simp at hz
     ·intro t src ix e
      rcases hk with ⟨r, o, hk⟩ | ⟨g, rs, hk⟩ <;> rw [hk] at e <;> cases e
    | const agg vs s0 hk' he hok hv h1' =>
     exfalso
     cases agg <;> rcases hk with ⟨r, o, hk⟩ | ⟨g, rs, hk⟩ <;> rw [hk] at hk' <;> simp at hk'
    | fn g hv => simp at hk
   ·exact (fail_run h6).elim
  split at h2
  ·exact cells h2
  ·exact cells h2
  ·rename_i r off hk
   refine bare (.inl ?_) h2
   rw [er_kind] at hk
   cases hk' : s0.k <;> rw [hk'] at hk <;> simp [Kd.er] at hk ⊢
  ·rename_i g rs hk
   refine bare (.inr ?_) h2
   rw [er_kind] at hk
   cases hk' : s0.k <;> rw [hk'] at hk <;> simp [Kd.er] at hk ⊢
  ·exact (fail_run h2).elim
end
end Go.Vm
end
section
namespace Go.Vm
theorem splice_eq {α : Type} : ∀ (xs cs : List α) (off : Nat), off + xs.length ≤ cs.length → splice cs off xs = cs.take off ++ xs ++ cs.drop (off + xs.length)
 | [], cs, off, _ => by simp [splice]
 | x :: xs, cs, off, h => by
  simp only [List.length_cons] at h
  simp only [splice]
  rw [splice_eq xs (cs.set off x) (off + 1) (by rw [List.length_set]; omega)]
  have h1 : (cs.set off x).take (off + 1) = cs.take off ++ [x] := by
   rw [List.set_eq_take_append_cons_drop, if_pos (by omega)]
   rw [List.take_append]
   simp [List.length_take, List.take_take, Nat.min_eq_left (show off ≤ cs.length by omega)]
  have h2 : (cs.set off x).drop (off + 1 + xs.length) = cs.drop (off + (xs.length + 1)) := by
   rw [List.drop_set]
   rw [if_pos (by omega)]
   congr 1; omega
  rw [h1, h2]
  simp
theorem splice_get {α : Type} {xs cs : List α} {off : Nat} (h : off + xs.length ≤ cs.length) (q : Nat) : (splice cs off xs)[q]? = if off ≤ q ∧ q < off + xs.length then xs[q - off]? else cs[q]? := by
 rw [splice_eq xs cs off h]
 by_cases h1 : q < off
 ·rw [if_neg (by omega), List.append_assoc, List.getElem?_append_left (by rw [List.length_take]; omega), List.getElem?_take, if_pos h1]
 ·by_cases h2 : q < off + xs.length
  ·rw [if_pos (by omega), List.append_assoc, List.getElem?_append_right (by rw [List.length_take]; omega), List.length_take, Nat.min_eq_left (by omega), List.getElem?_append_left (by omega)]
  ·rw [if_neg (by omega), List.getElem?_append_right (by rw [List.length_append, List.length_take]; omega), List.length_append, List.length_take, Nat.min_eq_left (by omega), List.getElem?_drop]
   congr 1; omega
section
variable {E : Env} {cx : Cx} {S : StA} {X : List (Cell Tg)} {C : Nat → Nat → Prop} {a : Act} {w w' : World}
theorem Inv.boxBlk (_h : Inv E S X C a w) {i : Nat} {s : SA} (hs : S[i]? = some s) {b : Nat} (hb : b ∈ s.boxOwn) : b ∈ ownAll S X := by
 rw [← List.count_pos_iff, count_ownAll]
 have := List.count_pos_iff.2 (List.mem_flatMap.2 ⟨s, List.mem_of_getElem? hs, hb⟩)
 omega
theorem boxOwn_same {i j : Nat} {s s' : SA} (hcnt : ∀ b, (S.flatMap Sl.boxOwn).count b ≤ 1) (hs : S[i]? = some s) (hs' : S[j]? = some s') {b : Nat} (hb : b ∈ s.boxOwn) (hb' : b ∈ s'.boxOwn) : i = j := by
 induction S generalizing i j with
 | nil => simp at hs
 | cons t S ih =>
  simp only [List.flatMap_cons, List.count_append] at hcnt
  cases i with
  | zero =>
   cases j with
   | zero => rfl
   | succ j =>
    simp at hs hs'; subst hs
    have h1 := hcnt b
    have h2 := List.count_pos_iff.2 hb
    have h3 : 0 < (S.flatMap Sl.boxOwn).count b := List.count_pos_iff.2 (List.mem_flatMap.2 ⟨s', List.mem_of_getElem? hs', hb'⟩)
    omega
  | succ i =>
   cases j with
   | zero =>
    simp at hs hs'; subst hs'
    have h1 := hcnt b
    have h2 := List.count_pos_iff.2 hb'
    have h3 : 0 < (S.flatMap Sl.boxOwn).count b := List.count_pos_iff.2 (List.mem_flatMap.2 ⟨s, List.mem_of_getElem? hs, hb⟩)
    omega
   | succ j =>
    congr 1
    exact ih (fun b => by have := hcnt b; omega) (by simpa using hs) (by simpa using hs')
theorem Inv.setBox {zs : List (Cell Tg)} (h : Inv E S (zs ++ X) C a w) {r b : Nat} {o : SA} {cs' : List (Cell Tg)} {t : Tg} (ho : S[r]? = some o) (hk : o.k = .box t) (hta : t.a = some ⟨b, 0, none⟩) (ht : Tail w w' b 0)
  (hbox : BoxOk E w' C t cs') (hl : Less S (S.set r ⟨.box t, cs'⟩) (zs ++ X) X) (hcs : ∀ x ∈ cs', COk E w C S (zs ++ X) x ∧ ((∀ p q k, x.f ≠ .ap p q k) ∨ x ∈ o.cs)) : Inv E (S.set r ⟨.box t, cs'⟩) X C a w' := by
 have hrS := (List.getElem?_eq_some_iff.1 ho).1
 have hbo : b ∈ o.boxOwn := by simp [Sl.boxOwn, hk, hta]
 have hbin := h.boxBlk ho hbo
 have hCb : ∀ j, ¬ C b j := by
  obtain ⟨b', T, h1, h2, h3⟩ := h.box r o t ho hk
  rw [hta] at h1
  simp only [Option.some.injEq, Addr.mk.injEq, and_true] at h1
  subst h1
  exact h3.1
 have hC : ∀ j, C b j → j < 0 := fun j hj => (hCb j hj).elim
 have hnb : ∀ x ∈ cellsAll S (zs ++ X), owns x.f = true → b ∉ x.v.blks := fun x hx hox hbx => h.boxApart ho hbo hx (own_of hox hbx)
 have hcell : ∀ x, COk E w C S (zs ++ X) x → (owns x.f = true → b ∉ x.v.blks) → COk E w' C S (zs ++ X) x := by
  intro x hk hn
  have hro : ∀ {v : A}, Rd E.sid w E.old v → Rd E.sid w' E.old v := fun hr => hr.mono (fun _ _ => id) (fun b' j hj => ht.cell (fun e => hC j (e ▸ h.olt b' j hj)))
  obtain ⟨v, f⟩ := x
  cases f with
  | sp p q => exact ⟨hk.1, hro hk.2.1, hk.2.2⟩
  | sh => exact hro hk
  | ow g => exact ⟨hk.1, ht.shp' hC hk.2.1 (fun hb => (hn rfl hb).elim), hk.2.2⟩
  | nw g => exact ⟨hk.1, ht.shp' hC hk.2.1 (fun hb => (hn rfl hb).elim), hk.2.2⟩
  | mp i =>
   refine ⟨?_, hk.2⟩
   have := ht.shp' (g := false) hC (v := v) (by simpa [Shp'] using hk.1) (fun hb => (hn rfl hb).elim)
   simpa [Shp'] using this
  | cp ck s c ix => exact ⟨hk.1, ht.rd hC hk.2.1, hk.2.2.1, fun e => ht.fst hC (hk.2.2.2 e) hk.2.1⟩
  | ap s c ix =>
   refine ⟨hk.1, hk.2.1, fun y hy hg => ⟨?_, (hk.2.2 y hy hg).2⟩⟩
   have h1 := (hk.2.2 y hy hg).1
   have hb : b ∉ v.blks := by
    intro hb
    rcases (hk.2.2 y hy hg).2 with h2 | ⟨t', es, u, e1, e2, e3, _⟩
    ·exact (h2 b hb).1 hbin
    ·obtain ⟨sl, hs, hc⟩ := cellAt_some hy
     refine hnb y (mem_cellsAll hs (List.mem_of_getElem? hc)) (by obtain ⟨g, hg⟩ := hg; rw [hg]; rfl) ?_
     rw [e1]
     exact blks_mem (List.mem_of_getElem? e2) (e3 ▸ hb)
   exact ⟨h1.1.mono (fun _ _ _ => id) (fun b' hb' => ht.other b' (fun e => hb (e ▸ hb'))), h1.2⟩
  | fr => exact ⟨hk.1, ht.rd hC hk.2.1, ht.fst hC hk.2.2 hk.2.1⟩
  | no => exact ⟨hk.1, ht.rd hC hk.2⟩
  | os m => exact ⟨hk.1, ht.rd hC hk.2.1, hk.2.2.1, ht.spn hk.2.2.2⟩
  | _ => exact hk
 have hget : ∀ {i : Nat} {s' : SA}, (S.set r ⟨.box t, cs'⟩)[i]? = some s' → (i = r ∧ s' = ⟨.box t, cs'⟩) ∨ (i ≠ r ∧ S[i]? = some s') := by
  intro i s' hi
  rw [List.getElem?_set] at hi
  split at hi
  ·rename_i e; subst e
   simp only [Option.some.injEq] at hi
   exact .inl ⟨rfl, hi.symm⟩
  ·rename_i e
   exact .inr ⟨fun h => e h.symm, hi⟩
 have hba : ∀ q, boxAddr (S.set r ⟨.box t, cs'⟩) q = boxAddr S q := by
  intro q
  unfold boxAddr
  by_cases e : r = q
  ·subst e
   rw [List.getElem?_set_self hrS, ho]
   obtain ⟨k, cs⟩ := o
   simp only at hk; subst hk; rfl
  ·rw [List.getElem?_set_ne e]
 have hrnt : E.nt ≤ r := by
  rcases Nat.lt_or_ge r E.nt with hlt | hge
  ·exact absurd hk (low_nobox h hlt ho t)
  ·exact hge
 refine ⟨by simp [h.len], h.tsz, h.nodef, ?_, ?_, ?_, ?_, ?_, ?_, ?_, ?_, ?_, ?_, h.olt, ?_, h.cbase, ?_⟩
 ·intro i s' hi hs'
  rcases hget hs' with ⟨rfl, rfl⟩ | ⟨hne, hs'⟩
  ·omega
  ·exact (h.slv i s' hi hs').set hba
 ·intro i s' hi hs'
  rcases hget hs' with ⟨rfl, rfl⟩ | ⟨hne, hs'⟩
  ·refine .inr (.inr ⟨t, rfl, ?_⟩)
   rcases h.high _ o hi ho with h1 | h1 | ⟨t', h1, h2⟩
   ·rw [hk] at h1; cases h1
   ·rw [hk] at h1; cases h1
   ·rw [hk] at h1
    simp only [Kd.box.injEq] at h1
    subst h1; exact h2
  ·exact h.high i s' hi hs'
 ·intro i s' hs' hk'
  rcases hget hs' with ⟨rfl, rfl⟩ | ⟨hne, hs'⟩
  ·simp at hk'
  ·exact h.emp i s' hs' hk'
 ·intro i s' hi hs' hk'
  rcases hget hs' with ⟨rfl, rfl⟩ | ⟨hne, hs'⟩
  ·simp at hk'
  ·exact h.lock i s' hi hs' hk'
 ·intro l hl' hk'
  rcases hget hl' with ⟨e, rfl⟩ | ⟨hne, hl'⟩
  ·simp at hk'
  ·obtain ⟨h1, h2⟩ := h.noap l hl' hk'
   refine ⟨fun i s' hs' x hx => ?_, fun x hx => h2 x (List.mem_append.2 (.inr hx))⟩
   rcases hget hs' with ⟨rfl, rfl⟩ | ⟨hne, hs'⟩
   ·rcases (hcs x hx).2 with hn | hm
    ·exact hn
    ·exact h1 _ o ho x hm
   ·exact h1 i s' hs' x hx
 ·intro i s' t' hs' hk'
  rcases hget hs' with ⟨rfl, rfl⟩ | ⟨hne, hs'⟩
  ·simp only [Kd.box.injEq] at hk'
   subst hk'
   exact hbox
  ·obtain ⟨b', T, h1, h2, h3⟩ := h.box i s' t' hs' hk'
   refine ⟨b', T, h1, (ht.other b' (fun e => ?_)).trans h2, h3⟩
   subst e
   refine hne (boxOwn_same (S := S) (fun x => ?_) hs' ho (b := b') (by simp [Sl.boxOwn, hk', h1]) hbo)
   have h5 := h.cnt x
   rw [count_ownAll] at h5
   omega
 ·intro i s' t' src ix hs' hk'
  rcases hget hs' with ⟨rfl, rfl⟩ | ⟨hne, hs'⟩
  ·simp at hk'
  ·obtain ⟨b', o', h1, h2, h3⟩ := (h.ept i s' t' src ix hs' hk').less hl
   exact ⟨b', o', h1, fun j x hx => ⟨(h2 j x hx).1, (ht.cell (fun e => hC _ (e ▸ (h2 j x hx).1))).trans (h2 j x hx).2⟩, h3⟩
 ·intro i s' hs' x hx
  rcases hget hs' with ⟨rfl, rfl⟩ | ⟨hne, hs'⟩
  ·refine (hcell x (hcs x hx).1 (fun hox hbx => ?_)).less hl
   have hin : b ∈ (S.set i (⟨.box t, cs'⟩ : SA)).flatMap Sl.own := by
    refine List.mem_flatMap.2 ⟨⟨.box t, cs'⟩, List.mem_of_getElem? (List.getElem?_set_self hrS), ?_⟩
    unfold Sl.own
    exact List.mem_append.2 (.inl (by simp [Sl.boxOwn, hta]))
   have hc2 : 2 ≤ ((⟨.box t, cs'⟩ : SA).own).count b := by
    unfold Sl.own
    rw [List.count_append]
    have e1 : 0 < (Sl.boxOwn (⟨.box t, cs'⟩ : SA)).count b := List.count_pos_iff.2 (by simp [Sl.boxOwn, hta])
    have e2 : 0 < (cs'.flatMap Cell.own).count b := List.count_pos_iff.2 (List.mem_flatMap.2 ⟨x, hx, own_of hox hbx⟩)
    simp only
    omega
   have h5 := hl.own b
   have h6 := h.cnt b
   have h7 : ((⟨.box t, cs'⟩ : SA).own).count b ≤ ((S.set i (⟨.box t, cs'⟩ : SA)).flatMap Sl.own).count b := by
    have := count_set_flatMap Sl.own b S i o ⟨.box t, cs'⟩ ho
    have h8 : o.own.count b ≤ (S.flatMap Sl.own).count b := by
     have hm := List.mem_of_getElem? ho
     obtain ⟨l1, l2, hl12⟩ := List.append_of_mem hm
     rw [hl12]
     simp only [List.flatMap_append, List.flatMap_cons, List.count_append]
     omega
    omega
   have h9 : ((S.set i (⟨.box t, cs'⟩ : SA)).flatMap Sl.own).count b ≤ (ownAll (S.set i ⟨.box t, cs'⟩) X).count b := by
    unfold ownAll; rw [List.count_append]; omega
   omega
  ·exact (hcell x (h.cells i s' hs' x hx) (hnb x (mem_cellsAll hs' hx))).less hl
 ·intro x hx
  have hm := List.mem_append.2 (.inr hx : x ∈ zs ∨ x ∈ X)
  exact (hcell x (h.hand x hm) (hnb x (mem_hand hm))).less hl
 ·exact fun b' => Nat.le_trans (hl.own b') (h.cnt b')
 ·exact fun b' j hj => by rw [ht.size]; exact h.clt b' j hj
 ·exact fun b' hb' => ⟨by rw [ht.size]; exact (h.ownlt b' (hl.mem hb')).1, (h.ownlt b' (hl.mem hb')).2⟩
theorem run_storeAt {P : Program} {t : TypeId} {i : TypeInfo} (hi : P.info? t = some i) {v : Value} {vs : List Value} (hv : v.cells = vs.toArray) (hn : vs.length = i.size) (h1 : ∀ u ∈ vs, u.oneCell' = true) {b off : Nat} {cur : Array Value} {T : TypeId}
  (hg : w.heap[b]? = some (.cells cur T (0, 0))) (hfit : off + vs.length ≤ cur.size) :
  (Instr.storeAt t (.pointer (some ⟨b, off, none⟩)) v).run P w = .ok () (w.setRow b (splice cur.toList off vs).toArray) := by
 have hst := run_storeCells_at P b off T vs 0 cur w hg (by simpa using hfit) h1
 simp only [Nat.add_zero] at hst
 rw [← splice_eq vs cur.toList off (by simpa using hfit)] at hst
 simp [Instr.storeAt, Instr.sureAddr, storeVar, sizeOf, typeInfo, hi, hv, hn, hst]
theorem store_lift (hf : Fits E cx) (h : Inv E S X C a w) {o : Oper} {t : TypeId} {i : TypeInfo} {oa ox : Operand} {x y : Opd} (ho : o.op = .store t oa ox) (hi : E.P.info? t = some i) (hx : cOpd cx oa = some x) (hy : cOpd cx ox = some y)
  {u : Unit} {st1 : St} (hr : (evalStore i.size x y).run (erS S) = some (u, st1)) :
  ∃ w' S1 C1, (execOp a.eval o).run E.P w = .ok .skip w' ∧ erS S1 = st1 ∧ Inv E S1 X C1 a w' ∧ Frame E w w' := by
 unfold evalStore at hr
 obtain ⟨sl, st2, h1, h2⟩ := FM.bind_some hr
 clear hr
 obtain ⟨rfl, s0, rfl, hop⟩ := opd_lift hf h hx h1
 split at h2
 ·rename_i r off hk
  have hk' : s0.k = .ptr r off := by
   rw [er_kind] at hk
   cases hk' : s0.k <;> rw [hk'] at hk <;> simp [Kd.er] at hk ⊢
   exact hk
  have hptr : ∃ b, boxAddr S r = some ⟨b, 0, none⟩ ∧ a.eval oa = .pointer (some ⟨b, off, none⟩) := by
   cases hop with
   | slot j s0 hj hs hv => unfold SlV at hv; rw [hk'] at hv; exact hv
   | const agg vs s0 hk he hok hv h1' => cases agg <;> rw [hk'] at hk <;> simp at hk
   | fn g hv => simp at hk'
  obtain ⟨b, hba, hva⟩ := hptr
  obtain ⟨yy, st3, h3, h4⟩ := FM.bind_some h2
  clear h2
  obtain ⟨S1, C1, zs, rfl, e2, e3, e4, e5, e6, e7⟩ := take_lift hf h hy h3
  obtain ⟨bb, st4, h5, h6⟩ := FM.bind_some h4
  clear h4
  obtain ⟨h7, rfl⟩ := getS_run h5
  obtain ⟨o1, ho1, rfl⟩ := erS_some h7
  split at h6
  ·rename_i tb hkb
   have hkb' : ∃ t1, o1.k = .box t1 := by
    rw [er_kind] at hkb
    cases hk' : o1.k <;> rw [hk'] at hkb <;> simp [Kd.er] at hkb ⊢
   obtain ⟨t1, hkb'⟩ := hkb'
   split at h6
   ·rename_i hh
    obtain ⟨hn, hle, hst, hmp⟩ := hh
    obtain ⟨_, rfl⟩ := setS_run h6
    rw [er_cells] at hle hst
    rw [← e2] at hst hmp hn
    rw [List.length_map] at hn hle
    have hmp' := noMp_er hmp
    have hst' := rowsStay_at (xs := o1.cs.drop off) (ys := zs ++ o1.cs.drop (off + i.size)) (by
     rw [List.map_drop, List.map_append, List.map_drop]; exact hst)
    have hba1 : boxAddr S1 r = some ⟨b, 0, none⟩ := by rw [e5.box]; exact hba
    have hta : t1.a = some ⟨b, 0, none⟩ := by
     unfold boxAddr at hba1
     rw [ho1] at hba1
     obtain ⟨k, cs⟩ := o1
     simp only at hkb'; subst hkb'
     exact hba1
    obtain ⟨b', T, q1, q2, q3, q4⟩ := e4.box r o1 t1 ho1 hkb'
    rw [hta] at q1
    simp only [Option.some.injEq, Addr.mk.injEq, and_true] at q1
    subst q1
    have hcells := taken_cells e7
    have hfit : off + (zs.map newCellA).length ≤ o1.cs.length := by rw [List.length_map]; omega
    have hrun := run_storeAt (P := E.P) (w := w) hi (b := b) (off := off) (vs := zs.map (·.v.val E.sid)) (v := a.eval ox) hcells (by rw [List.length_map]; exact hn) (by
     intro u hu
     obtain ⟨z, _, rfl⟩ := List.mem_map.1 hu
     exact oneCell_val _) q2 (by simp only [List.length_map, List.size_toArray]; omega)
    have hnew : (splice (o1.cs.map (·.v.val E.sid)).toArray.toList off (zs.map (·.v.val E.sid))).toArray = ((splice o1.cs off (zs.map newCellA)).map (·.v.val E.sid)).toArray := by
     rw [splice_map]
     congr 2
     rw [List.map_map]
     exact List.map_congr_left fun z _ => by simp [newCellA_v]
    rw [hnew] at hrun
    have hh' := setRow_heap w b _ ((splice o1.cs off (zs.map newCellA)).map (·.v.val E.sid)).toArray T (0, 0) q2
    have htail : Tail w (w.setRow b ((splice o1.cs off (zs.map newCellA)).map (·.v.val E.sid)).toArray) b 0 :=
     ⟨⟨_, _, T, T, q2, hh', by simp [splice_length], by simp⟩, setRow_size w b _, fun b' hb' => setRow_other w b b' _ hb'⟩
    refine ⟨w.setRow b ((splice o1.cs off (zs.map newCellA)).map (·.v.val E.sid)).toArray, S1.set r ⟨.box t1, splice o1.cs off (zs.map newCellA)⟩, C1, ?_, ?_, ?_, setRow_frame w b _ q4⟩
    ·unfold execOp
     rw [ho]
     simp only [hva]
     rw [Sem.run_bind, hrun]
     rfl
    ·rw [erS_set]
     congr 1
     simp only [Sl.er, Kd.er]
     congr 1
     rw [splice_map, newCellsA_er, e2]
    ·have hnl : (zs.map newCellA).length = i.size := by rw [List.length_map]; exact hn
     have hget : ∀ q, (splice o1.cs off (zs.map newCellA))[q]? = if off ≤ q ∧ q < off + i.size then (zs.map newCellA)[q - off]? else o1.cs[q]? := by
      intro q
      rw [splice_get hfit, hnl]
     refine e4.setBox ho1 hkb' hta htail ⟨b, T, hta, hh', q3, q4⟩ (less_replace ho1 ?_ (fun x => ?_) (fun q z hz hzr => ?_) (fun q z hz => ?_)) (fun z hz => ?_)
     ·simp [Sl.boxOwn, hkb']
     ·have := count_splice Cell.own x (zs.map newCellA) o1.cs off
      rw [newCellsA_own] at this
      exact this
     ·show ∃ y', (splice o1.cs off (zs.map newCellA))[q]? = some y' ∧ _
      rw [hget q]
      by_cases hq : off ≤ q
      ·obtain ⟨y', hy', hyr⟩ := hst' (q - off) z (by rw [List.getElem?_drop, show off + (q - off) = q by omega]; exact hz) hzr
       by_cases hq2 : q < off + i.size
       ·rw [if_pos ⟨hq, hq2⟩]
        rw [List.getElem?_append_left (by omega)] at hy'
        exact ⟨newCellA y', by simp [hy'], by rw [newCellA_v]; exact hyr⟩
       ·rw [if_neg (by omega)]
        exact ⟨z, hz, hzr⟩
      ·rw [if_neg (by omega)]
       exact ⟨z, hz, hzr⟩
     ·have hz : (splice o1.cs off (zs.map newCellA))[q]? = some z := hz
      rw [hget q] at hz
      split at hz
      ·simp only [List.getElem?_map, Option.map_eq_some_iff] at hz
       obtain ⟨z', hz', rfl⟩ := hz
       have := List.mem_of_getElem? hz'
       exact .inl (quiet_new (e3 z' this) (hmp' z' this))
      ·exact .inr hz
     ·rcases splice_mem _ _ _ hz with hz | hz
      ·exact ⟨e4.cells r o1 ho1 z hz, .inr hz⟩
      ·obtain ⟨z', hz', rfl⟩ := List.mem_map.1 hz
       exact ⟨(e4.hand z' (List.mem_append.2 (.inl hz'))).new, .inl (quiet_new (e3 z' hz') (hmp' z' hz')).2.2⟩
   ·exact (fail_run h6).elim
  ·exact (fail_run h6).elim
 ·exact (fail_run h2).elim
end
end Go.Vm
end
section
namespace Go.Vm
def loseCellA (x : Cell Tg) : Cell Tg := match x.f with | .cp _ _ _ _ | .ap _ _ _ | .fr | .no | .os _ => ⟨x.v, .dd⟩ | _ => x
def loseSA (s : SA) : SA := match s.k with | .ept _ _ _ => ⟨.dead, []⟩ | _ => ⟨s.k, s.cs.map loseCellA⟩
def loseA (S : StA) : StA := S.map loseSA
theorem loseCellA_er (x : Cell Tg) : (loseCellA x).er = loseCell x.er := by
 obtain ⟨v, f⟩ := x
 cases f <;> rfl
theorem loseCellA_v (x : Cell Tg) : (loseCellA x).v = x.v := by
 obtain ⟨v, f⟩ := x
 cases f <;> rfl
theorem loseCellA_own (x : Cell Tg) (b : Nat) : (loseCellA x).own.count b ≤ x.own.count b := by
 obtain ⟨v, f⟩ := x
 cases f <;> first | exact Nat.le_refl _ | exact Nat.zero_le _
theorem loseSA_er (s : SA) : (loseSA s).er = loseS s.er := by
 obtain ⟨k, cs⟩ := s
 have : (cs.map loseCellA).map Cell.er = (cs.map Cell.er).map loseCell := by
  simp only [List.map_map]
  exact List.map_congr_left fun x _ => loseCellA_er x
 cases k <;> simp [loseSA, loseS, Sl.er, Kd.er, dead, this] <;> exact fun x _ => loseCellA_er x
theorem loseA_er (S : StA) : erS (loseA S) = lose (erS S) := by
 simp only [erS, loseA, lose, List.map_map]
 exact List.map_congr_left fun s _ => loseSA_er s
def Calm (f : Fl) : Prop := f = .sc ∨ (∃ p q, f = .sp p q) ∨ f = .sh ∨ f = .nl ∨ owns f = true ∨ f = .dd
theorem calm_lose (x : Cell Tg) : Calm (loseCellA x).f := by
 obtain ⟨v, f⟩ := x
 cases f <;> simp [loseCellA, Calm, owns]
section
variable {E : Env} {cx : Cx} {S : StA} {X : List (Cell Tg)} {C : Nat → Nat → Prop} {a : Act} {w w' : World}
theorem loseA_get {i : Nat} {s' : SA} (h : (loseA S)[i]? = some s') : ∃ s, S[i]? = some s ∧ s' = loseSA s := by
 simp only [loseA, List.getElem?_map, Option.map_eq_some_iff] at h
 obtain ⟨s, h1, h2⟩ := h
 exact ⟨s, h1, h2.symm⟩
theorem loseSA_k (s : SA) : (loseSA s).k = s.k ∧ (loseSA s).cs = s.cs.map loseCellA ∨ (loseSA s).k = .dead ∧ (loseSA s).cs = [] ∧ ∃ t src ix, s.k = .ept t src ix := by
 obtain ⟨k, cs⟩ := s
 cases k <;> first | exact .inl ⟨rfl, rfl⟩ | exact .inr ⟨rfl, rfl, _, _, _, rfl⟩
theorem loseSA_box (s : SA) : (loseSA s).boxOwn = s.boxOwn := by
 obtain ⟨k, cs⟩ := s
 cases k <;> rfl
theorem loseSA_own (s : SA) (b : Nat) : (loseSA s).own.count b ≤ s.own.count b := by
 unfold Sl.own
 rw [List.count_append, List.count_append, loseSA_box]
 rcases loseSA_k s with ⟨_, h⟩ | ⟨_, h, _⟩
 ·rw [h]
  have : ((s.cs.map loseCellA).flatMap Cell.own).count b ≤ (s.cs.flatMap Cell.own).count b := by
   induction s.cs with
   | nil => exact Nat.le_refl _
   | cons x xs ih =>
    have := loseCellA_own x b
    simp only [List.map_cons, List.flatMap_cons, List.count_append]
    omega
  omega
 ·rw [h]; simp
theorem lose_count (S : StA) (X : List (Cell Tg)) (b : Nat) : (ownAll (loseA S) (X.map loseCellA)).count b ≤ (ownAll S X).count b := by
 unfold ownAll
 rw [List.count_append, List.count_append]
 have h1 : ((loseA S).flatMap Sl.own).count b ≤ (S.flatMap Sl.own).count b := by
  unfold loseA
  induction S with
  | nil => simp
  | cons s S ih =>
   simp only [List.map_cons, List.flatMap_cons, List.count_append]
   have := loseSA_own s b
   omega
 have h2 : ((X.map loseCellA).flatMap Cell.own).count b ≤ (X.flatMap Cell.own).count b := by
  clear h1
  induction X with
  | nil => exact Nat.le_refl _
  | cons x xs ih =>
   have := loseCellA_own x b
   simp only [List.map_cons, List.flatMap_cons, List.count_append]
   omega
 omega
theorem loseA_box (r : Nat) : boxAddr (loseA S) r = boxAddr S r := by
 unfold boxAddr loseA
 rw [List.getElem?_map]
 cases S[r]? with
 | none => rfl
 | some s =>
  obtain ⟨k, cs⟩ := s
  cases k <;> rfl
theorem COk.lose {x : Cell Tg} (h : COk E w C S X x) (holt : ∀ b j, E.old b j → C b j) {S' : StA} {X' : List (Cell Tg)} : COk E w E.old S' X' (loseCellA x) := by
 have hs : ∀ {g : Bool} {v : A}, Shp' E.sid w C g v → Shp' E.sid w E.old g v := fun hs => hs.world (fun _ _ => rfl) (fun b _ j hj => holt b j hj)
 obtain ⟨v, f⟩ := x
 cases f with
 | ow g => exact ⟨h.1, hs h.2.1, h.2.2⟩
 | nw g => exact ⟨h.1, hs h.2.1, h.2.2⟩
 | mp i => exact ⟨h.1.mono (fun b _ j hj => holt b j hj) (fun _ _ => rfl), h.2⟩
 | cp ck s c ix => trivial
 | ap s c ix => trivial
 | fr => trivial
 | no => trivial
 | os n => trivial
 | _ => exact h
theorem Inv.lose (h : Inv E S X C a w) : Inv E (loseA S) (X.map loseCellA) E.old a w := by
 have hmem : ∀ b, b ∈ ownAll (loseA S) (X.map loseCellA) → b ∈ ownAll S X := by
  intro b hb
  have h1 := lose_count S X b
  have h2 := List.count_pos_iff.2 hb
  exact List.count_pos_iff.1 (by omega)
 refine ⟨by simp [loseA, h.len], h.tsz, h.nodef, ?_, ?_, ?_, ?_, ?_, ?_, ?_, ?_, ?_, ?_, fun _ _ => id, fun b j hj => h.clt b j (h.olt b j hj), fun b j hj => .inr (.inl hj), fun b hb => h.ownlt b (hmem b hb)⟩
 ·intro i s' hi hs'
  obtain ⟨s, hs, rfl⟩ := loseA_get hs'
  have hv := h.slv i s hi hs
  have hv' : SlV E.sid (loseA S) s (a.tmps.getD i undef) := hv.set (fun r => loseA_box r)
  obtain ⟨k, cs⟩ := s
  have hm : (cs.map loseCellA).map (·.v) = cs.map (·.v) := by
   simp only [List.map_map]
   exact List.map_congr_left fun x _ => loseCellA_v x
  have hself : Same (loseA S) (loseA S) := ⟨rfl, fun i s' hs' => ⟨s', hs', rfl, rfl⟩⟩
  cases k with
  | ept t src ix => trivial
  | _ =>
   refine SlV.same hself (s := ⟨_, cs⟩) rfl ?_ hv'
   exact hm
 ·intro i s' hi hs'
  obtain ⟨s, hs, rfl⟩ := loseA_get hs'
  rcases loseSA_k s with ⟨hk, _⟩ | ⟨hk, _⟩
  ·rw [hk]; exact h.high i s hi hs
  ·exact .inl hk
 ·intro i s' hs' hk'
  obtain ⟨s, hs, rfl⟩ := loseA_get hs'
  rcases loseSA_k s with ⟨hk, hc⟩ | ⟨_, hc, _⟩
  ·rw [hk] at hk'
   rw [hc, h.emp i s hs hk']; rfl
  ·exact hc
 ·intro i s' hi hs' hk'
  obtain ⟨s, hs, rfl⟩ := loseA_get hs'
  rcases loseSA_k s with ⟨hk, _⟩ | ⟨hk, _⟩
  ·rw [hk] at hk'; exact h.lock i s hi hs hk'
  ·rw [hk] at hk'; cases hk'
 ·intro l _ _
  have key : ∀ x : Cell Tg, ∀ p q r, (loseCellA x).f ≠ .ap p q r := by
   intro x p q r e
   have := calm_lose x
   rw [e] at this
   simp [Calm, owns] at this
  refine ⟨fun i s' hs' x hx => ?_, fun x hx => ?_⟩
  ·obtain ⟨s, hs, rfl⟩ := loseA_get hs'
   rcases loseSA_k s with ⟨_, hc⟩ | ⟨_, hc, _⟩
   ·rw [hc] at hx
    obtain ⟨y, _, rfl⟩ := List.mem_map.1 hx
    exact key y
   ·rw [hc] at hx; simp at hx
  ·obtain ⟨y, _, rfl⟩ := List.mem_map.1 hx
   exact key y
 ·intro i s' t hs' hk'
  obtain ⟨s, hs, rfl⟩ := loseA_get hs'
  rcases loseSA_k s with ⟨hk, hc⟩ | ⟨hk, _⟩
  ·rw [hk] at hk'
   obtain ⟨b, T, h1, h2, h3, h4⟩ := h.box i s t hs hk'
   refine ⟨b, T, h1, ?_, fun j hj => h3 j (h.olt b j hj), h4⟩
   rw [hc, List.map_map]
   rw [List.map_congr_left (g := fun x => x.v.val E.sid) (fun x _ => by simp [loseCellA_v])]
   exact h2
  ·rw [hk] at hk'; cases hk'
 ·intro i s' t src ix hs' hk'
  obtain ⟨s, hs, rfl⟩ := loseA_get hs'
  rcases loseSA_k s with ⟨hk, hc⟩ | ⟨hk, _⟩
  ·exfalso
   obtain ⟨k, cs⟩ := s
   rw [hk] at hk'
   simp only at hk'; subst hk'
   simp [loseSA] at hk
  ·rw [hk] at hk'; cases hk'
 ·intro i s' hs' x hx
  obtain ⟨s, hs, rfl⟩ := loseA_get hs'
  rcases loseSA_k s with ⟨_, hc⟩ | ⟨_, hc, _⟩
  ·rw [hc] at hx
   obtain ⟨y, hy, rfl⟩ := List.mem_map.1 hx
   exact (h.cells i s hs y hy).lose h.olt
  ·rw [hc] at hx; simp at hx
 ·intro x hx
  obtain ⟨y, hy, rfl⟩ := List.mem_map.1 hx
  exact (h.hand y hy).lose h.olt
 ·exact fun b => Nat.le_trans (lose_count S X b) (h.cnt b)
structure Remade (E : Env) (S S' : StA) : Prop where
 len : S'.length = S.length
 slot : ∀ (i : Nat) (s' : SA), S'[i]? = some s' → ∃ s : SA, S[i]? = some s ∧ s'.k = s.k ∧ s'.cs.map (·.v.val E.sid) = s.cs.map (·.v.val E.sid) ∧ ∀ x ∈ s'.cs, owns x.f = true ∨ x ∈ s.cs
 noept : ∀ (i : Nat) (s : SA), S[i]? = some s → ∀ t src ix, s.k ≠ .ept t src ix
 calm : ∀ (i : Nat) (s : SA), S[i]? = some s → ∀ x ∈ s.cs, Calm x.f
theorem Remade.box {S S' : StA} (h : Remade E S S') (r : Nat) : boxAddr S' r = boxAddr S r := by
 unfold boxAddr
 cases h' : S'[r]? with
 | none =>
  have : S[r]? = none := by rw [List.getElem?_eq_none_iff] at h' ⊢; rw [← h.len]; exact h'
  rw [this]
 | some s' =>
  obtain ⟨s, hs, hk, _⟩ := h.slot r s' h'
  rw [hs]
  obtain ⟨k, cs⟩ := s
  obtain ⟨k', cs'⟩ := s'
  simp only at hk
  subst hk
  cases k' <;> rfl
theorem SlV.vals {sid : Nat → Nat} {S : StA} {s s' : SA} {v : Value} (hk : s'.k = s.k) (hv : s'.cs.map (·.v.val sid) = s.cs.map (·.v.val sid)) (hs : SlV sid S s v) : SlV sid S s' v := by
 obtain ⟨k, cs⟩ := s
 obtain ⟨k', cs'⟩ := s'
 simp only at hk hv
 subst hk
 cases k' with
 | val =>
  obtain ⟨c, h1, h2⟩ := hs
  obtain ⟨c', e1, e2⟩ := map_single hv h1
  exact ⟨c', e1, by rw [h2]; exact e2.symm⟩
 | agg => simp only [SlV] at hs ⊢; rw [hv]; exact hs
 | tup sh => simp only [SlV] at hs ⊢; rw [hv]; exact hs
 | _ => exact hs
theorem Inv.remake (h : Inv E S X E.old a w) {S' : StA} (hm : Remade E S S') (hown : ∀ (i : Nat) (s : SA), S'[i]? = some s → ∀ x ∈ s.cs, owns x.f = true → COk E w' E.old S' [] x)
  (hcnt : ∀ b, (ownAll S' []).count b ≤ 1) (hlt : ∀ b ∈ ownAll S' [], b < w'.heap.size ∧ ∀ j, ¬ E.old b j)
  (hbox : ∀ s ∈ S, ∀ b ∈ s.boxOwn, w'.heap[b]? = w.heap[b]?) (hold : ∀ b j, E.old b j → w'.heap[b]? = w.heap[b]?) (hsz : w.heap.size ≤ w'.heap.size) : Inv E S' [] E.old a w' := by
 refine ⟨by rw [hm.len, h.len], h.tsz, h.nodef, ?_, ?_, ?_, ?_, ?_, ?_, ?_, ?_, ?_, hcnt, h.olt, fun b j hj => Nat.lt_of_lt_of_le (h.clt b j hj) hsz, h.cbase, hlt⟩
 ·intro i s' hi hs'
  obtain ⟨s, hs, hk, hv, _⟩ := hm.slot i s' hs'
  exact ((h.slv i s hi hs).set (fun r => hm.box r)).vals hk hv
 ·intro i s' hi hs'
  obtain ⟨s, hs, hk, _⟩ := hm.slot i s' hs'
  rw [hk]; exact h.high i s hi hs
 ·intro i s' hs' hk'
  obtain ⟨s, hs, hk, hv, _⟩ := hm.slot i s' hs'
  have := h.emp i s hs (by rw [← hk]; exact hk')
  rw [this] at hv
  simpa using hv
 ·intro i s' hi hs' hk'
  obtain ⟨s, hs, hk, _⟩ := hm.slot i s' hs'
  exact h.lock i s hi hs (hk ▸ hk')
 ·intro l hl hk'
  obtain ⟨l0, hl0, hk, _⟩ := hm.slot _ l hl
  refine ⟨fun i s' hs' x hx => ?_, by simp⟩
  obtain ⟨s, hs, _, _, hx'⟩ := hm.slot i s' hs'
  intro p q r e
  rcases hx' x hx with ho | hmem
  ·rw [e] at ho; simp [owns] at ho
  ·have := hm.calm i s hs x hmem
   rw [e] at this; simp [Calm, owns] at this
 ·intro i s' t hs' hk'
  obtain ⟨s, hs, hk, hv, _⟩ := hm.slot i s' hs'
  obtain ⟨b, T, h1, h2, h3, h4⟩ := h.box i s t hs (hk ▸ hk')
  refine ⟨b, T, h1, ?_, h3, h4⟩
  rw [hv, hbox s (List.mem_of_getElem? hs) b (by simp [Sl.boxOwn, hk ▸ hk', h1])]
  exact h2
 ·intro i s' t src ix hs' hk'
  obtain ⟨s, hs, hk, _⟩ := hm.slot i s' hs'
  exact absurd (hk ▸ hk') (hm.noept i s hs t src ix)
 ·intro i s' hs' x hx
  obtain ⟨s, hs, _, _, hx'⟩ := hm.slot i s' hs'
  by_cases ho : owns x.f = true
  ·exact hown i s' hs' x hx ho
  ·have hmem := (hx' x hx).resolve_left ho
   have hc := hm.calm i s hs x hmem
   have hk := h.cells i s hs x hmem
   have hro : ∀ {v : A}, Rd E.sid w E.old v → Rd E.sid w' E.old v := fun hr => hr.mono (fun _ _ => id) (fun b j hj => cell_same (hold b j hj))
   obtain ⟨v, f⟩ := x
   rcases hc with hc | ⟨p, q, hc⟩ | hc | hc | hc | hc
   ·simp only at hc; subst hc; exact hk
   ·simp only at hc; subst hc; exact ⟨hk.1, hro hk.2.1, hk.2.2⟩
   ·simp only at hc; subst hc; exact hro hk
   ·simp only at hc; subst hc; exact hk
   ·exact absurd hc ho
   ·simp only at hc; subst hc; trivial
 ·simp
end
end Go.Vm
end
section
namespace Go.Vm
theorem splitIx_some {α : Type} : ∀ {es : List (List α)} {ix i j : Nat}, splitIx ix es = some (i, j) → ∃ e, es[i]? = some e ∧ j < e.length ∧ ix < es.flatten.length ∧ ∀ v, (es.set i (e.set j v)).flatten = es.flatten.set ix v
 | [], ix, i, j, h => by simp [splitIx] at h
 | e :: es, ix, i, j, h => by
  simp only [splitIx] at h
  split at h
  ·rename_i hlt
   simp only [Option.some.injEq, Prod.mk.injEq] at h
   obtain ⟨rfl, rfl⟩ := h
   refine ⟨e, rfl, hlt, by simp; omega, fun v => ?_⟩
   simp only [List.set_cons_zero, List.flatten_cons]
   rw [List.set_append_left _ _ hlt]
  ·rename_i hge
   rw [Option.map_eq_some_iff] at h
   obtain ⟨p, hp, he⟩ := h
   obtain ⟨i', j'⟩ := p
   simp only [Prod.mk.injEq] at he
   obtain ⟨rfl, rfl⟩ := he
   obtain ⟨e', h1, h2, h3, h4⟩ := splitIx_some hp
   refine ⟨e', by simpa using h1, h2, by rw [List.flatten_cons, List.length_append]; omega, fun v => ?_⟩
   simp only [List.set_cons_succ, List.flatten_cons, h4 v]
   rw [List.set_append_right _ _ (by omega)]
theorem splitIx_len {α β : Type} : ∀ {es : List (List α)} {fs : List (List β)}, es.map List.length = fs.map List.length → ∀ ix, splitIx ix es = splitIx ix fs
 | [], [], _, _ => rfl
 | [], f :: fs, h, _ => by simp at h
 | e :: es, [], h, _ => by simp at h
 | e :: es, f :: fs, h, ix => by
  simp only [List.map_cons, List.cons.injEq] at h
  simp only [splitIx, h.1, splitIx_len h.2]
theorem setFlat_some {α : Type} : ∀ {vs : List α} {es es' : List (List α)} {ix : Nat}, setFlat es ix vs = some es' → es'.flatten = splice es.flatten ix vs ∧ es'.map List.length = es.map List.length ∧ (vs ≠ [] → ix + vs.length ≤ es.flatten.length)
 | [], es, es', ix, h => by
  simp only [setFlat, Option.some.injEq] at h
  subst h
  exact ⟨rfl, rfl, by simp⟩
 | v :: vs, es, es', ix, h => by
  simp only [setFlat] at h
  split at h
  ·rename_i i j hs
   obtain ⟨e, h1, h2, h3, h4⟩ := splitIx_some hs
   rw [h1] at h
   obtain ⟨k1, k2, k3⟩ := setFlat_some h
   rw [h4] at k1 k3
   refine ⟨k1, ?_, fun _ => ?_⟩
   ·rw [k2, List.map_set]
    apply List.ext_getElem?
    intro q
    rw [List.getElem?_set]
    split
    ·rename_i hq; subst hq
     obtain ⟨hl, he⟩ := List.getElem?_eq_some_iff.1 h1
     simp [hl, he]
    ·rfl
   ·simp only [List.length_cons]
    by_cases hvs : vs = []
    ·subst hvs; simp only [List.length_nil]; omega
    ·have := k3 hvs
     rw [List.length_set] at this
     omega
  ·cases h
theorem setFlat_er : ∀ {vs : List A} {es : List (List A)} {ix : Nat} {r : List (List V)}, setFlat (erR es) ix (vs.map VA.er) = some r → ∃ es', setFlat es ix vs = some es' ∧ erR es' = r
 | [], es, ix, r, h => by
  simp only [List.map_nil, setFlat, Option.some.injEq] at h
  exact ⟨es, rfl, h⟩
 | v :: vs, es, ix, r, h => by
  have hlen : (erR es).map List.length = es.map List.length := by
   rw [erR_map, List.map_map]
   exact List.map_congr_left fun e _ => by simp
  simp only [List.map_cons, setFlat, splitIx_len hlen] at h
  simp only [setFlat]
  split at h
  ·rename_i i j hs
   split at h
   ·rename_i e he
    rw [erR_map, List.getElem?_map, Option.map_eq_some_iff] at he
    obtain ⟨e', he', rfl⟩ := he
    simp only [he']
    refine setFlat_er ?_
    rw [← h]
    congr 1
    rw [erR_map, erR_map, List.map_set, List.map_set]
   ·cases h
  ·cases h
theorem splice_take {α : Type} {xs cs : List α} {off n : Nat} (h : off + xs.length ≤ n) (hn : n ≤ cs.length) : (splice cs off xs).take n = splice (cs.take n) off xs := by
 apply List.ext_getElem?
 intro q
 rw [List.getElem?_take, splice_get (by omega), splice_get (by rw [List.length_take]; omega), List.getElem?_take]
 by_cases hq : q < n
 ·simp only [hq, if_true]
 ·simp only [hq, if_false]
  rw [if_neg (by omega)]
def setRowA (S : StA) (s c : Nat) (v : A) : StA :=
 match S[s]? with
 | some sl => match sl.cs[c]? with
  | some x => S.set s ⟨sl.k, sl.cs.set c ⟨v, x.f⟩⟩
  | none => S
 | none => S
theorem setRowA_er (S : StA) (s c : Nat) (v : A) : erS (setRowA S s c v) = setRow (erS S) s c v.er := by
 unfold setRowA setRow
 rw [erS_get]
 cases S[s]? with
 | none => rfl
 | some sl =>
  simp only [Option.map_some, er_cells, List.getElem?_map]
  cases sl.cs[c]? with
  | none => rfl
  | some x =>
   simp only [Option.map_some]
   rw [erS_set]
   congr 1
   simp [Sl.er, List.map_set, Cell.er]
section
variable {E : Env} {cx : Cx} {S : StA} {X : List (Cell Tg)} {C : Nat → Nat → Prop} {a : Act} {w w' : World}
theorem poke (h : Inv E S X E.old a w) (hne : ∀ (i : Nat) (s : SA), S[i]? = some s → ∀ t src ix, s.k ≠ .ept t src ix) (hcalm : ∀ (i : Nat) (s : SA), S[i]? = some s → ∀ x ∈ s.cs, Calm x.f)
  {s c : Nat} {y : Cell Tg} (hy : cellAt S s c = some y) (hyf : y.f = .ow false ∨ ∃ i, y.f = .mp i) {b0 cap k : Nat} {es es' : List (List A)} (hyv : y.v = .row ⟨some ⟨b0, 0, none⟩, cap, k⟩ es) {ix : Nat} {vs : List A} (hset : setFlat es ix vs = some es') (hvs : vs ≠ [])
  (hel : ∀ v ∈ vs, Shp E.sid w E.old v ∧ ∀ b ∈ v.blks, E.base ≤ b) {extra : List Nat} (hle : ∀ b, (es'.flatten.flatMap VA.blks).count b ≤ (es.flatten.flatMap VA.blks).count b + extra.count b)
  (hcnt : ∀ b, (ownAll S []).count b + extra.count b ≤ 1) (hlt : ∀ b ∈ extra, b < w.heap.size ∧ ∀ j, ¬ E.old b j) :
  ∃ cur T, w.heap[b0]? = some (.cells cur T (0, 0)) ∧ ix + vs.length ≤ cur.size ∧
   Inv E (setRowA S s c (.row ⟨some ⟨b0, 0, none⟩, cap, k⟩ es')) [] E.old a (w.setRow b0 (splice cur.toList ix (vs.map (VA.val E.sid))).toArray) ∧ (E.base ≤ b0 ∨ E.chg b0) := by
 obtain ⟨sl, hs, hc⟩ := cellAt_some hy
 have hsS := (List.getElem?_eq_some_iff.1 hs).1
 have hcs := (List.getElem?_eq_some_iff.1 hc).1
 have hym : y ∈ cellsAll S X := mem_cellsAll hs (List.mem_of_getElem? hc)
 have hyo : owns y.f = true := by rcases hyf with hf | ⟨i, hf⟩ <;> rw [hf] <;> rfl
 have hyk := h.ok y hym
 have hshp : Shp E.sid w E.old y.v := by
  obtain ⟨v, f⟩ := y
  rcases hyf with hf | ⟨i, hf⟩
  ·simp only at hf; subst hf
   have := hyk.2.1
   simpa [Shp'] using this
  ·simp only at hf; subst hf
   exact hyk.1
 have hybase := hyk.own_base hyo
 rw [hyv] at hshp hybase
 have hb0m : b0 ∈ (VA.row ⟨some ⟨b0, 0, none⟩, cap, k⟩ es : A).blks := by simp [VA.blks]
 obtain ⟨k1, k2, k3⟩ := setFlat_some hset
 have k3 := k3 hvs
 have hlen : es'.length = es.length := by
  have := congrArg List.length k2
  simpa using this
 have hblks : ∀ fs : List (List A), (VA.row ⟨some ⟨b0, 0, none⟩, cap, k⟩ fs : A).blks = b0 :: fs.flatten.flatMap VA.blks := by
  intro fs; simp only [VA.blks, blkR_map]; rfl
 cases hshp with
 | row _ _ _ _ cur T hheap hcap hmax hsize hk hk0 hnil htake hfree hr =>
  have hfl : es.flatten.length = es.length * k := flatten_length hk
  have hfit : ix + vs.length ≤ cur.size := by
   rw [hsize]
   refine Nat.le_trans k3 ?_
   rw [hfl]; exact Nat.mul_le_mul_right _ hcap
  refine ⟨cur, T, hheap, hfit, ?_, hybase b0 hb0m⟩
  have hfitl : ix + (vs.map (VA.val E.sid)).length ≤ cur.toList.length := by simpa using hfit
  have hh' := setRow_heap w b0 cur (splice cur.toList ix (vs.map (VA.val E.sid))).toArray T (0, 0) hheap
  have hother := fun b (hb : b ≠ b0) => setRow_other w b0 b (splice cur.toList ix (vs.map (VA.val E.sid))).toArray hb
  have hsize' : (splice cur.toList ix (vs.map (VA.val E.sid))).toArray.size = cap * k := by simp [splice_length, hsize]
  have htake' : (splice cur.toList ix (vs.map (VA.val E.sid))).toArray.toList.take (es'.length * k) = es'.flatten.map (VA.val E.sid) := by
   have hle2 : es.length * k ≤ cur.toList.length := by
    have : cur.toList.length = cur.size := Array.length_toList
    rw [this, hsize]; exact Nat.mul_le_mul_right _ hcap
   rw [hlen]
   show (splice cur.toList ix (vs.map (VA.val E.sid))).take (es.length * k) = _
   rw [splice_take (by rw [List.length_map, ← hfl]; exact k3) hle2, htake, k1, splice_map]
  generalize (splice cur.toList ix (vs.map (VA.val E.sid))).toArray = cur' at hh' hother hsize' htake'
  have hSeq : setRowA S s c (.row ⟨some ⟨b0, 0, none⟩, cap, k⟩ es') = S.set s ⟨sl.k, sl.cs.set c ⟨.row ⟨some ⟨b0, 0, none⟩, cap, k⟩ es', y.f⟩⟩ := by
   simp [setRowA, hs, hc]
  rw [hSeq]
  have hown' : ∀ x, (ownAll (S.set s ⟨sl.k, sl.cs.set c ⟨.row ⟨some ⟨b0, 0, none⟩, cap, k⟩ es', y.f⟩⟩) []).count x ≤ (ownAll S []).count x + extra.count x := by
   intro x
   have h1 := count_set_flatMap Sl.own x S s sl ⟨sl.k, sl.cs.set c ⟨.row ⟨some ⟨b0, 0, none⟩, cap, k⟩ es', y.f⟩⟩ hs
   have h2 := count_set_flatMap Cell.own x sl.cs c y ⟨.row ⟨some ⟨b0, 0, none⟩, cap, k⟩ es', y.f⟩ hc
   have h3 : (Sl.own ⟨sl.k, sl.cs.set c ⟨.row ⟨some ⟨b0, 0, none⟩, cap, k⟩ es', y.f⟩⟩).count x + (Cell.own y).count x = sl.own.count x + (Cell.own ⟨.row ⟨some ⟨b0, 0, none⟩, cap, k⟩ es', y.f⟩).count x := by
    unfold Sl.own
    rw [List.count_append, List.count_append]
    have : Sl.boxOwn ⟨sl.k, sl.cs.set c ⟨.row ⟨some ⟨b0, 0, none⟩, cap, k⟩ es', y.f⟩⟩ = sl.boxOwn := rfl
    rw [this]
    simp only
    omega
   have h4 : (Cell.own y).count x = (b0 :: es.flatten.flatMap VA.blks).count x := by
    have : Cell.own y = y.v.blks := own_blks hyo
    rw [this, hyv, hblks]
   have h5 : (Cell.own ⟨.row ⟨some ⟨b0, 0, none⟩, cap, k⟩ es', y.f⟩).count x = (b0 :: es'.flatten.flatMap VA.blks).count x := by
    have : Cell.own ⟨.row ⟨some ⟨b0, 0, none⟩, cap, k⟩ es', y.f⟩ = (VA.row ⟨some ⟨b0, 0, none⟩, cap, k⟩ es' : A).blks := own_blks (x := ⟨_, y.f⟩) hyo
    rw [this, hblks]
   have h6 := hle x
   simp only [List.count_cons] at h4 h5
   simp only [ownAll, List.flatMap_nil, List.append_nil] at h1 ⊢
   omega
  have hcnt' : ∀ x, (ownAll (S.set s ⟨sl.k, sl.cs.set c ⟨.row ⟨some ⟨b0, 0, none⟩, cap, k⟩ es', y.f⟩⟩) []).count x ≤ 1 := fun x => Nat.le_trans (hown' x) (hcnt x)
  have hnewat : (S.set s ⟨sl.k, sl.cs.set c ⟨.row ⟨some ⟨b0, 0, none⟩, cap, k⟩ es', y.f⟩⟩)[s]? = some ⟨sl.k, sl.cs.set c ⟨.row ⟨some ⟨b0, 0, none⟩, cap, k⟩ es', y.f⟩⟩ := List.getElem?_set_self hsS
  have hnewm : (⟨.row ⟨some ⟨b0, 0, none⟩, cap, k⟩ es', y.f⟩ : Cell Tg) ∈ cellsAll (S.set s ⟨sl.k, sl.cs.set c ⟨.row ⟨some ⟨b0, 0, none⟩, cap, k⟩ es', y.f⟩⟩) [] :=
   mem_cellsAll hnewat (List.mem_of_getElem? (List.getElem?_set_self hcs))
  have hnod : ((cellsAll (S.set s ⟨sl.k, sl.cs.set c ⟨.row ⟨some ⟨b0, 0, none⟩, cap, k⟩ es', y.f⟩⟩) []).flatMap Cell.own).Nodup :=
   nodup_of_count fun x => by have := hcnt' x; rw [count_ownAll] at this; omega
  have hnewnd : (VA.row ⟨some ⟨b0, 0, none⟩, cap, k⟩ es' : A).blks.Nodup := by
   have := nodup_each hnod _ hnewm
   rwa [own_blks (x := ⟨.row ⟨some ⟨b0, 0, none⟩, cap, k⟩ es', y.f⟩) hyo] at this
  rw [hblks, List.nodup_cons] at hnewnd
  have hb0not : ∀ u ∈ es'.flatten, b0 ∉ u.blks := fun u hu hb => hnewnd.1 (List.mem_flatMap.2 ⟨u, hu, hb⟩)
  have hmem' : ∀ u ∈ es'.flatten, u ∈ es.flatten ∨ u ∈ vs := by
   intro u hu
   rw [k1] at hu
   exact splice_mem _ _ _ hu
  have helw : ∀ u ∈ es'.flatten, Shp E.sid (w.setRow b0 cur') E.old u := by
   intro u hu
   have hw : ∀ b ∈ u.blks, (w.setRow b0 cur').heap[b]? = w.heap[b]? := fun b hb => hother b (fun e => hb0not u hu (e ▸ hb))
   rcases hmem' u hu with hu' | hu'
   ·exact (hr u hu').mono (fun _ _ _ => id) hw
   ·exact (hel u hu').1.mono (fun _ _ _ => id) hw
  have hkk : ∀ e ∈ es', e.length = k := by
   intro e he
   have : e.length ∈ es'.map List.length := List.mem_map_of_mem he
   rw [k2] at this
   obtain ⟨e2, he2, heq⟩ := List.mem_map.1 this
   rw [← heq]; exact hk e2 he2
  have hshp' : Shp E.sid (w.setRow b0 cur') E.old (.row ⟨some ⟨b0, 0, none⟩, cap, k⟩ es') :=
   .row b0 cap k es' cur' T hh' (by rw [hlen]; exact hcap) hmax hsize' hkk hk0 (fun he => hnil (List.eq_nil_of_length_eq_zero (by rw [← hlen, he]; rfl))) htake' (fun j hj => hfree j (by rw [← hlen]; exact hj)) helw
  have hbase' : ∀ b ∈ (VA.row ⟨some ⟨b0, 0, none⟩, cap, k⟩ es' : A).blks, b ∈ (VA.row ⟨some ⟨b0, 0, none⟩, cap, k⟩ es : A).blks ∨ E.base ≤ b := by
   intro b hb
   rw [hblks] at hb
   rcases List.mem_cons.1 hb with rfl | hb
   ·exact .inl hb0m
   ·obtain ⟨u, hu, hbu⟩ := List.mem_flatMap.1 hb
    rcases hmem' u hu with hu' | hu'
    ·exact .inl (blks_mem hu' hbu)
    ·exact .inr ((hel u hu').2 b hbu)
  have hb0in : b0 ∈ ownAll S X := by
   rw [← List.count_pos_iff, count_ownAll]
   have := List.count_pos_iff.2 (List.mem_flatMap.2 ⟨y, hym, own_of hyo (by rw [hyv]; exact hb0m)⟩)
   omega
  refine h.remake ⟨by simp, ?_, hne, hcalm⟩ ?_ hcnt' ?_ ?_ ?_ (by rw [setRow_size]; exact Nat.le_refl _)
  ·intro i s' hs'
   rw [List.getElem?_set] at hs'
   split at hs'
   ·rename_i e; subst e
    simp only [Option.some.injEq] at hs'
    subst hs'
    refine ⟨sl, hs, rfl, ?_, fun x hx => ?_⟩
    ·simp only [List.map_set]
     apply List.ext_getElem?
     intro q
     rw [List.getElem?_set]
     split
     ·rename_i hq; subst hq
      simp only [List.length_map, hcs, if_true, List.getElem?_map, hc, Option.map_some]
      rw [hyv]; simp [VA.val, hlen]
     ·rfl
    ·rcases List.mem_or_eq_of_mem_set hx with hx | rfl
     ·exact .inr hx
     ·exact .inl hyo
   ·exact ⟨s', hs', rfl, rfl, fun x hx => .inr hx⟩
  ·intro i s' hs' x hx hox
   have hxm : x ∈ cellsAll (S.set s ⟨sl.k, sl.cs.set c ⟨.row ⟨some ⟨b0, 0, none⟩, cap, k⟩ es', y.f⟩⟩) [] := mem_cellsAll hs' hx
   by_cases hb : b0 ∈ x.v.blks
   ·obtain rfl := nodup_same hnod x hxm _ hnewm b0 (own_of hox hb) (own_of (x := ⟨.row ⟨some ⟨b0, 0, none⟩, cap, k⟩ es', y.f⟩) hyo (by rw [hblks]; exact List.mem_cons_self ..))
    rcases hyf with hf | ⟨i, hf⟩
    ·rw [hf]
     refine ⟨rfl, by simpa [Shp'] using hshp', fun b hb1 => ?_⟩
     rcases hbase' b hb1 with hb2 | hb2
     ·obtain ⟨v, f⟩ := y
      simp only at hf hyv; subst hf; subst hyv
      exact hyk.2.2 b hb2
     ·exact hb2
    ·rw [hf]
     obtain ⟨v, f⟩ := y
     simp only at hf hyv; subst hf; subst hyv
     obtain ⟨_, ⟨t1, es1, e1, e2⟩, e3⟩ := hyk
     have e1 : (VA.row ⟨some ⟨b0, 0, none⟩, cap, k⟩ es : A) = .row t1 es1 := e1
     simp only [VA.row.injEq] at e1
     obtain ⟨rfl, rfl⟩ := e1
     refine ⟨hshp', ⟨_, _, rfl, by rw [hlen]; exact e2⟩, fun b hb1 => ?_⟩
     rcases hbase' b hb1 with hb2 | hb2
     ·exact e3 b hb2
     ·exact .inl hb2
   ·have hxS : x ∈ cellsAll S X := by
     rw [List.getElem?_set] at hs'
     split at hs'
     ·rename_i e; subst e
      simp only [Option.some.injEq] at hs'
      subst hs'
      rcases List.mem_or_eq_of_mem_set hx with hx | rfl
      ·exact mem_cellsAll hs hx
      ·exact absurd (by rw [hblks]; exact List.mem_cons_self ..) hb
     ·exact mem_cellsAll hs' hx
    have hk := h.ok x hxS
    have hw : ∀ b ∈ x.v.blks, (w.setRow b0 cur').heap[b]? = w.heap[b]? := fun b hb' => hother b (fun e => hb (e ▸ hb'))
    obtain ⟨v, f⟩ := x
    cases f with
    | ow g => exact ⟨hk.1, hk.2.1.world hw (fun _ _ _ => id), hk.2.2⟩
    | nw g => exact ⟨hk.1, hk.2.1.world hw (fun _ _ _ => id), hk.2.2⟩
    | mp i => exact ⟨hk.1.mono (fun _ _ _ => id) hw, hk.2⟩
    | _ => simp [owns] at hox
  ·intro b hb
   rw [setRow_size]
   have h1 := List.count_pos_iff.2 hb
   have h2 := hown' b
   by_cases hbe : b ∈ extra
   ·exact hlt b hbe
   ·have := List.count_eq_zero.2 hbe
    have h3 : b ∈ ownAll S [] := List.count_pos_iff.1 (by omega)
    refine h.ownlt b ?_
    simp only [ownAll, List.flatMap_nil, List.append_nil] at h3
    exact List.mem_append.2 (.inl h3)
  ·intro s' hs' b hb
   refine hother b (fun e => ?_)
   subst e
   obtain ⟨i, hi⟩ := List.mem_iff_getElem?.1 hs'
   exact h.boxApart hi hb hym (own_of hyo (by rw [hyv]; exact hb0m))
  ·intro b j hj
   refine hother b (fun e => ?_)
   subst e
   exact (h.ownlt b hb0in).2 j hj
end
end Go.Vm
end
section
namespace Go.Vm
section
variable {E : Env} {cx : Cx} {S : StA} {X : List (Cell Tg)} {C : Nat → Nat → Prop} {a : Act} {w w' : World}
theorem rowAt_lose {s c : Nat} {es : List (List V)} {f : Fl} (h : rowAt (lose (erS S)) s c = some (es, f)) :
  ∃ y, cellAt S s c = some y ∧ cellAt (loseA S) s c = some y ∧ (y.f = .ow false ∨ ∃ i, y.f = .mp i) ∧ y.f = f ∧ y.v.er = .row () es := by
 rw [← loseA_er] at h
 unfold rowAt at h
 rw [erS_get] at h
 cases hs : (loseA S)[s]? with
 | none => rw [hs] at h; cases h
 | some sl =>
  rw [hs] at h
  simp only [Option.map_some, er_cells, List.getElem?_map] at h
  obtain ⟨s0, hs0, rfl⟩ := loseA_get hs
  cases hc : (loseSA s0).cs[c]? with
  | none => rw [hc] at h; cases h
  | some y =>
   rw [hc] at h
   simp only [Option.map_some] at h
   have hy : (y.f = .ow false ∨ ∃ i, y.f = .mp i) ∧ y.f = f ∧ y.v.er = .row () es := by
    obtain ⟨v, fy⟩ := y
    simp only [Cell.er] at h ⊢
    split at h
    ·rename_i u es1 heq
     simp only [Option.some.injEq, Cell.mk.injEq] at heq
     simp only [Option.some.injEq, Prod.mk.injEq] at h
     obtain ⟨h1, h2⟩ := heq
     obtain ⟨rfl, rfl⟩ := h
     exact ⟨.inl h2, h2, h1⟩
    ·rename_i u es1 i heq
     simp only [Option.some.injEq, Cell.mk.injEq] at heq
     simp only [Option.some.injEq, Prod.mk.injEq] at h
     obtain ⟨h1, h2⟩ := heq
     obtain ⟨rfl, rfl⟩ := h
     exact ⟨.inr ⟨i, h2⟩, h2, h1⟩
    ·cases h
   refine ⟨y, ?_, cellAt_of hs hc, hy.1, hy.2⟩
   rcases loseSA_k s0 with ⟨_, hcs⟩ | ⟨_, hcs, _⟩
   ·rw [hcs, List.getElem?_map, Option.map_eq_some_iff] at hc
    obtain ⟨y1, hy1, he⟩ := hc
    have : y1 = y := by
     obtain ⟨v1, f1⟩ := y1
     subst he
     rcases hy.1 with hf | ⟨i, hf⟩ <;> cases f1 <;> simp [loseCellA] at hf ⊢
    rw [← this]
    exact cellAt_of hs0 hy1
   ·rw [hcs] at hc; simp at hc
theorem lose_calm : (∀ (i : Nat) (s : SA), (loseA S)[i]? = some s → ∀ t src ix, s.k ≠ .ept t src ix) ∧ ∀ (i : Nat) (s : SA), (loseA S)[i]? = some s → ∀ x ∈ s.cs, Calm x.f := by
 refine ⟨fun i s hs t src ix e => ?_, fun i s hs x hx => ?_⟩
 ·obtain ⟨s0, hs0, rfl⟩ := loseA_get hs
  obtain ⟨k, cs⟩ := s0
  cases k <;> simp [loseSA] at e
 ·obtain ⟨s0, hs0, rfl⟩ := loseA_get hs
  rcases loseSA_k s0 with ⟨_, hc⟩ | ⟨_, hc, _⟩
  ·rw [hc] at hx
   obtain ⟨y, _, rfl⟩ := List.mem_map.1 hx
   exact calm_lose y
  ·rw [hc] at hx; simp at hx
theorem rstore_fin (h : Inv E S X C a w) {s c ix : Nat} {es es' : List (List V)} {f : Fl} (hrow : rowAt (lose (erS S)) s c = some (es, f)) {vs : List A} (hset : setFlat es ix (vs.map VA.er) = some es') (hvs : vs ≠ [])
  {te : Tg} {cs0 : List (Cell Tg)} (hep : EptOk E w C S te (some (s, c)) ix cs0) {b o : Nat} (hte : te.a = some ⟨b, o, none⟩)
  (hcond : ∀ y t esA esA', cellAt S s c = some y → y.v = .row t esA → setFlat esA ix vs = some esA' → ∃ extra : List Nat, (∀ b, (esA'.flatten.flatMap VA.blks).count b ≤ (esA.flatten.flatMap VA.blks).count b + extra.count b) ∧
   (∀ b, (ownAll (loseA S) []).count b + extra.count b ≤ 1) ∧ ∀ b ∈ extra, b < w.heap.size ∧ ∀ j, ¬ E.old b j)
  (hel : ∀ v ∈ vs, Shp E.sid w E.old v ∧ ∀ b ∈ v.blks, E.base ≤ b)
  {op : Oper} {t : TypeId} {i : TypeInfo} {oa ox : Operand} (ho : op.op = .store t oa ox) (hi : E.P.info? t = some i) (hva : a.eval oa = .pointer (some ⟨b, o, none⟩)) (hvx : (a.eval ox).cells = (vs.map (VA.val E.sid)).toArray) (hn : vs.length = i.size) :
  ∃ w' S1 C1, (execOp a.eval op).run E.P w = .ok .skip w' ∧ erS S1 = setRow (lose (erS S)) s c (.row () es') ∧ Inv E S1 [] C1 a w' ∧ Frame E w w' := by
 obtain ⟨y, hy, hy', hyf, _, hyv⟩ := rowAt_lose hrow
 obtain ⟨b', o', h1, h2, _, h4⟩ := hep
 rw [hte] at h1
 simp only [Option.some.injEq, Addr.mk.injEq, and_true] at h1
 obtain ⟨rfl, rfl⟩ := h1
 have hyff : (∃ g, y.f = .ow g) ∨ ∃ i, y.f = .mp i := hyf.imp (fun h => ⟨false, h⟩) id
 obtain ⟨ty, esA, e1, e2, e3, _⟩ := h4 y hy hyff
 have hes : erR esA = es := by
  rw [e1] at hyv
  simp only [VA.er, VA.row.injEq, true_and] at hyv
  exact hyv
 rw [← hes] at hset
 obtain ⟨esA', hsetA, rfl⟩ := setFlat_er hset
 obtain ⟨extra, q1, q2, q3⟩ := hcond y ty esA esA' hy e1 hsetA
 obtain ⟨sl, hs, hc⟩ := cellAt_some hy
 have hyk := h.ok y (mem_cellsAll hs (List.mem_of_getElem? hc))
 have hshp : Shp E.sid w C y.v := by
  obtain ⟨v, f⟩ := y
  rcases hyf with hf | ⟨i, hf⟩
  ·simp only at hf; subst hf
   have := hyk.2.1
   simpa [Shp'] using this
  ·simp only at hf; subst hf
   exact hyk.1
 rw [e1] at hshp
 cases hshp with
 | nil => simp at e2
 | row b0 cap k _ cur0 T0 hb0 =>
  simp only [Option.some.injEq, Addr.mk.injEq, and_true] at e2
  obtain ⟨rfl, e2⟩ := e2
  have hoix : o = ix := by omega
  subst hoix
  obtain ⟨p1, p2⟩ := lose_calm (S := S)
  obtain ⟨cur, T, r1, r2, r3, r4⟩ := poke h.lose p1 p2 hy' hyf e1 hsetA hvs hel q1 q2 q3
  have hrun := run_storeAt (P := E.P) (w := w) hi (v := a.eval ox) hvx (by simpa using hn) (by
   intro u hu
   obtain ⟨z, _, rfl⟩ := List.mem_map.1 hu
   exact oneCell_val _) r1 (by simpa using r2)
  refine ⟨_, _, _, ?_, ?_, r3, setRow_frame w b0 _ r4⟩
  ·unfold execOp
   rw [ho]
   simp only [hva]
   rw [Sem.run_bind, hrun]
   rfl
  ·rw [setRowA_er, loseA_er]; rfl
theorem runFM_some {α : Type} {p : FM α} {st : St} {k : α → St → Option St} {r : St} (h : runFM p st k = some r) : ∃ x st1, p.run st = some (x, st1) ∧ k x st1 = some r := by
 unfold runFM at h
 cases hp : p.run st with
 | none => rw [hp] at h; cases h
 | some y =>
  rw [hp] at h
  exact ⟨y.1, y.2, rfl, h⟩
theorem rstore_lift (hf : Fits E cx) (h : Inv E S [] C a w) {op : Oper} {t : TypeId} {i : TypeInfo} {oa ox : Operand} {x y : Opd} (ho : op.op = .store t oa ox) (hi : E.P.info? t = some i) (hx : cOpd cx oa = some x) (hy : cOpd cx ox = some y)
  {st1 : St} (hr : storeS i.size x y (erS S) = some st1) :
  ∃ w' S1 C1, (execOp a.eval op).run E.P w = .ok .skip w' ∧ erS S1 = st1 ∧ Inv E S1 [] C1 a w' ∧ Frame E w w' := by
 unfold storeS at hr
 obtain ⟨sl, st2, h1, h2⟩ := runFM_some hr
 clear hr
 obtain ⟨rfl, s0, rfl, hop⟩ := opd_lift hf h hx h1
 split at h2
 ·rename_i tu s c ix hk
  have hk' : ∃ te, s0.k = .ept te (some (s, c)) ix := by
   rw [er_kind] at hk
   cases hk' : s0.k <;> rw [hk'] at hk <;> simp [Kd.er] at hk ⊢
   obtain ⟨rfl, rfl⟩ := hk
   exact ⟨rfl, rfl⟩
  obtain ⟨te, hk'⟩ := hk'
  have hslot : ∃ j : Nat, S[j]? = some s0 ∧ ∃ b o, te.a = some ⟨b, o, none⟩ ∧ a.eval oa = .pointer (some ⟨b, o, none⟩) := by
   cases hop with
   | slot j s0 hj hs hv =>
    unfold SlV at hv; rw [hk'] at hv
    exact ⟨j, hs, hv⟩
   | const agg vs s0 hk he hok hv h1' => cases agg <;> rw [hk'] at hk <;> simp at hk
   | fn g hv => simp at hk'
  obtain ⟨j, hj, b, o, hte, hva⟩ := hslot
  obtain ⟨cs, st3, h3, h4⟩ := runFM_some h2
  clear h2
  split at h4
  ·rename_i hh
   obtain ⟨hn0, hn, how⟩ := hh
   split at h4
   ·rename_i es f hrow
    split at h4
    ·rename_i es' hset
     simp only [Option.some.injEq] at h4
     subst h4
     unfold takeAp at h3
     obtain ⟨sl2, st4, h5, h6⟩ := FM.bind_some h3
     clear h3
     obtain ⟨rfl, s2, rfl, hop2⟩ := opd_lift hf h hy h5
     split at h6
     ·rename_i v s' c' ix' hk2 hcs2
      obtain ⟨sl3, st5, h7, h8⟩ := FM.bind_some h6
      clear h6
      obtain ⟨h9, rfl⟩ := getS_run h7
      obtain ⟨s3, hs3, rfl⟩ := erS_some h9
      split at h8
      ·rename_i hfl
       split at h8
       ·rename_i heq
        obtain ⟨rfl, rfl, rfl⟩ := heq
        obtain ⟨rfl, rfl⟩ := ret_run h8
        simp only [flAt, er_cells, List.getElem?_map, Option.map_map, Option.map_eq_some_iff] at hfl
        obtain ⟨y0, hy0, hy0f⟩ := hfl
        have hy0f : y0.f = .ow false := hy0f
        have hy0at := cellAt_of hs3 hy0
        obtain ⟨z, hz, hzer⟩ : ∃ z : Cell Tg, s2.cs = [z] ∧ z.er = ⟨v, .ap s' c' ix'⟩ := by
         rw [er_cells] at hcs2
         cases hs : s2.cs with
         | nil => rw [hs] at hcs2; simp at hcs2
         | cons q r => cases r with
          | nil => rw [hs] at hcs2; simp at hcs2; exact ⟨q, rfl, hcs2⟩
          | cons q' r => rw [hs] at hcs2; simp at hcs2
        have hkv : s2.k = .val := by
         rw [er_kind] at hk2
         cases hk' : s2.k <;> rw [hk'] at hk2 <;> simp [Kd.er] at hk2 ⊢
        obtain ⟨vz, fz⟩ := z
        simp only [Cell.er, Cell.mk.injEq] at hzer
        obtain ⟨hver, rfl⟩ := hzer
        have hzz : COk E w C S [] ⟨vz, .ap s' c' ix'⟩ ∧ a.eval ox = vz.val E.sid := by
         cases hop2 with
         | slot q s2 hq hs hv =>
          refine ⟨h.cells q s2 hs _ (by simp [hz]), ?_⟩
          unfold SlV at hv; rw [hkv] at hv
          obtain ⟨z', hz', hv⟩ := hv
          rw [hz] at hz'; simp at hz'; subst hz'; exact hv
         | const agg vs s2 hk he hok hv h1' =>
          have := (hok _ (by rw [hz]; exact List.mem_singleton.2 rfl)).2.2
          simp [Taken] at this
         | fn g hv => simp at hz
        obtain ⟨⟨hsc, hrowat, hap⟩, hvx⟩ := hzz
        obtain ⟨hfst, hal⟩ := hap y0 hy0at ⟨false, hy0f⟩
        have hy0m : y0 ∈ cellsAll S [] := mem_cellsAll hs3 (List.mem_of_getElem? hy0)
        have hnold : ∀ b ∈ vz.blks, ∀ j, ¬ E.old b j := by
         intro b hb j hj
         rcases hal with hal | ⟨t1, es1, u, e1, e2, e3, _⟩
         ·exact (hal b hb).2 j (h.olt b j hj)
         ·have hin : b ∈ ownAll S [] := by
           rw [← List.count_pos_iff, count_ownAll]
           have := List.count_pos_iff.2 (List.mem_flatMap.2 ⟨y0, hy0m, own_of (by rw [hy0f]; rfl) (by rw [e1]; exact blks_mem (List.mem_of_getElem? e2) (e3 ▸ hb))⟩)
           omega
          exact (h.ownlt b hin).2 j hj
        have hlen1 : ([vz] : List A).length = i.size := by simpa using hn
        have hset' : setFlat es ix' ([vz].map VA.er) = some es' := by
         simp only [List.map_cons, List.map_nil]
         rw [hver]; exact hset
        refine rstore_fin (vs := [vz]) h hrow hset' (by simp) (h.ept j s0 te _ _ hj hk') hte (fun yy ty esA esA' hyy hyv hsA => ?_) (fun v' hv' => ?_) ho hi hva (by rw [hvx, val_cells]; rfl) hlen1
        ·obtain rfl := Option.some.inj (hyy.symm.trans hy0at)
         obtain ⟨k1, _, k3⟩ := setFlat_some hsA
         rcases hal with hal | ⟨t1, es1, u, e1, e2, e3, _⟩
         ·refine ⟨vz.blks, fun b => ?_, fun b => ?_, fun b hb => ⟨hfst.1.lt b hb, hnold b hb⟩⟩
          ·rw [k1]
           have := count_splice VA.blks b [vz] esA.flatten ix'
           simpa using this
          ·by_cases hb : b ∈ vz.blks
           ·have h0 : (ownAll (loseA S) []).count b = 0 := by
             have h1 := lose_count S [] b
             have h2 := List.count_eq_zero.2 (hal b hb).1
             simp only [List.map_nil] at h1
             omega
            rw [h0]
            have h9 : vz.blks.count b ≤ 1 := List.nodup_iff_count.1 hfst.2.1 b
            omega
           ·rw [List.count_eq_zero.2 hb]
            exact h.lose.cnt b
         ·rw [hyv] at e1
          simp only [VA.row.injEq] at e1
          obtain ⟨rfl, rfl⟩ := e1
          refine ⟨[], fun b => ?_, fun b => by simpa using h.lose.cnt b, by simp⟩
          rw [k1]
          have := count_set_flatMap VA.blks b esA.flatten ix' u vz e2
          rw [e3] at this
          simp only [splice, List.count_nil]
          omega
        ·simp only [List.mem_singleton] at hv'
         subst hv'
         exact ⟨hfst.1.mono (fun b hb j hj => hnold b hb j hj) (fun _ _ => rfl), hfst.2.2⟩
       ·exact (fail_run h8).elim
      ·exact (fail_run h8).elim
     ·obtain ⟨yy, st5, h7, h8⟩ := FM.bind_some h6
      clear h6
      obtain ⟨rfl, rfl⟩ := ret_run h8
      obtain ⟨S1, C1, zs, rfl, e2, e3, e4, e5, e6, e7⟩ := take_lift hf h hy h7
      have e4 : Inv E S1 zs C1 a w := by simpa using e4
      rw [← e2] at hn how hset
      obtain ⟨s01, hs01, hk01, hv01⟩ := e5.to hj
      rw [hk'] at hk01
      have hep := e4.ept j s01 te _ _ hs01 hk01
      have hset' : setFlat es ix ((zs.map (·.v)).map VA.er) = some es' := by
       rw [← hset]
       congr 1
       simp [vals, Cell.er]
      have hcok : ∀ z ∈ zs, COk E w C1 S1 zs z := fun z hz => e4.hand z hz
      obtain ⟨p1, p2⟩ := owned_cells hcok how
      have hl := e4.lose
      have hlc : ∀ z ∈ zs, loseCellA z = z := by
       intro z hz
       have := e3 z hz
       have how' := List.all_eq_true.1 how z.er (List.mem_map_of_mem hz)
       obtain ⟨v, f⟩ := z
       cases f <;> simp_all [Taken, loseCellA, ownedCell, Cell.er]
      have hzl : zs.map loseCellA = zs := by
       rw [List.map_congr_left hlc]; simp
      rw [hzl] at hl
      refine rstore_fin (vs := zs.map (·.v)) e4 hrow hset' (by
       intro e
       rw [List.map_eq_nil_iff] at e
       subst e
       exact hn0 (by simpa using hn.symm)) hep hte (fun yy ty esA esA' hyy hyv hsA => ?_) (fun v' hv' => ?_) ho hi hva (by rw [taken_cells e7]; simp [List.map_map, Function.comp_def]) (by simpa using hn)
      ·obtain ⟨k1, _, _⟩ := setFlat_some hsA
       refine ⟨zs.flatMap Cell.own, fun b => ?_, fun b => ?_, fun b hb => ?_⟩
       ·rw [k1]
        have := count_splice VA.blks b (zs.map (·.v)) esA.flatten ix
        have := p2 b
        omega
       ·have := hl.cnt b
        simp only [ownAll, List.count_append, List.flatMap_nil, List.append_nil] at this ⊢
        omega
       ·exact hl.ownlt b (List.mem_append.2 (.inr hb))
      ·obtain ⟨z, hz, rfl⟩ := List.mem_map.1 hv'
       rcases p1 z hz with ⟨q1, q2⟩ | hzf
       ·exact ⟨q1 _, by rw [q2]; simp⟩
       ·have := hl.hand z hz
        obtain ⟨v, f⟩ := z
        simp only at hzf; subst hzf
        have h6 : Shp' E.sid w E.old false v := this.2.1
        exact ⟨by simpa [Shp'] using h6, this.2.2⟩
    ·cases h4
   ·cases h4
  ·cases h4
 ·cases h2
end
end Go.Vm
end
