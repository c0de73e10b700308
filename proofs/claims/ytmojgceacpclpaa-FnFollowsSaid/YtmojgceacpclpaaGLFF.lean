/- What the functions answer. -/
import Derived.Test.YtmojgceacpclpaaGLTab
import Derived.Test.YtmojgceacpclpaaGLFA
import Derived.Test.YtmojgceacpclpaaGLFB
import Derived.Test.YtmojgceacpclpaaGLFD
import Derived.Test.YtmojgceacpclpaaGLFE
set_option maxHeartbeats 4000000
set_option maxRecDepth 10000
set_option linter.unusedVariables false
set_option linter.unusedSimpArgs false
namespace Go.Vm
def endOf (es : List Bool) (s : Int) : Bool := if inR s 0 ((es.length : Int) - 1) = true then es.getD s.toNat false else false
theorem endOf_at {es p t : List Bool} {b : Bool} {s : Int} (h : es = p ++ b :: t) (hs : At s p.length) : endOf es s = b := by
 unfold At at hs
 unfold endOf inR
 rw [if_pos (by simp [h, hs]; omega), hs, h]; simp
theorem endOf_ex {es : List Bool} {s : Int} (h : inR s 0 ((es.length : Int) - 1) = true) : ∃ p b t, es = p ++ b :: t ∧ At s p.length := by
 unfold inR at h
 simp at h
 have hlt : s.toNat < es.length := by omega
 exact ⟨es.take s.toNat, es[s.toNat], es.drop (s.toNat + 1), by rw [← List.drop_eq_getElem_cons hlt, List.take_append_drop], by unfold At; rw [List.length_take]; omega⟩
theorem ok335 (st : Int) (es : List Bool) (l : List Move) (s : Int) (hl : es.length ≤ 1099511627776) {f0 f1 : Fl} (h0 : inFl f0 = true) (h1 : inFl f1 = true) : fix Tb md 335 [sMach st (row fB es) (row fMove l) f0 f1, I s] = some ⟨[B (endOf es s)], [], none⟩ := by
 obtain ⟨v, hv⟩ := nm (endOf es s)
 rw [← hv]
 generalize hr : (⟨_, [], none⟩ : Ret) = r
 obtain ⟨m, hm⟩ := nm ((es.length : Int) - 1)
 obtain ⟨u, hu⟩ := nm (inR s 0 m)
 obtain ⟨ea, hea⟩ := nm (row fMove l)
 obtain ⟨eb, heb⟩ := nm (row fB es)
 rw [← hea, ← heb]
 by_cases q : u = true
 ·obtain ⟨p, b, t, e1, e2⟩ := endOf_ex (es := es) (s := s) (by rw [← hm, ← hu]; exact q)
  have hb := endOf_at e1 e2
  obtain ⟨ix, hix⟩ := nm (p.length * 1)
  refine fix_fn2 (fn := ir335) tb_335 rfl rfl (by decide) rfl ?_; intro Q hQ; simp only [shutArgs, shutS, List.map_cons, List.map_nil, ir335, shut_in h0, shut_in h1, List.head?_nil, reduceCtorEq, if_false, sExt, sHello, sAnswer, sEdit, sDeal, sBox, sDialed, sKnown, sMach, sMove]
  intro add sub mul arith eq ne lt le gt ge neg conv mn mx not beq len at' ln bd cut app allS isNil mks set o hP F ho
  have hs : sub .i64 (len eb) 1 = m := by rw [F.sub, show len eb = (es.length : Int) from F.len_at heb, hm, wrap64 (by omega) (by omega)]
  have c1 : o 232 [I s, I 0, I m] = some ⟨[B u], [], none⟩ := by rw [ho, hu]; exact ok232 ..
  have c2 : at' 1 eb s = some (ix, [.bool b]) := by rw [hix]; exact F.get e2 heb e1 (fun _ => rfl) (by decide)
  cbv
  rw [hs]; cbv
  rw [c1, q]; cbv
  rw [c2]; cbv
  rw [hQ]; cbv
  rw [← hr, hv, hb]
 ·have q' : u = false := by simpa using q
  refine fix_fn2 (fn := ir335) tb_335 rfl rfl (by decide) rfl ?_; intro Q hQ; simp only [shutArgs, shutS, List.map_cons, List.map_nil, ir335, shut_in h0, shut_in h1, List.head?_nil, reduceCtorEq, if_false, sExt, sHello, sAnswer, sEdit, sDeal, sBox, sDialed, sKnown, sMach, sMove]
  intro add sub mul arith eq ne lt le gt ge neg conv mn mx not beq len at' ln bd cut app allS isNil mks set o hP F ho
  have hs : sub .i64 (len eb) 1 = m := by rw [F.sub, show len eb = (es.length : Int) from F.len_at heb, hm, wrap64 (by omega) (by omega)]
  have c1 : o 232 [I s, I 0, I m] = some ⟨[B u], [], none⟩ := by rw [ho, hu]; exact ok232 ..
  cbv
  rw [hs]; cbv
  rw [c1, q']; cbv
  rw [hQ]; cbv
  rw [← hr, hv, endOf, if_neg (by rw [← hm, ← hu]; exact q)]
def mv (l : List Move) (s : Int) (d : Bool) (n t : Int) : Prop := ∃ m ∈ l, m.src = s ∧ m.send = d ∧ m.msg = n ∧ m.dst = t
def okM (l : List Move) : Prop := l.Pairwise fun x o => ¬ (x.src = o.src ∧ (x.send ≠ o.send ∨ x.msg = o.msg))
theorem okM.kind {l : List Move} (h : okM l) : ∀ x ∈ l, ∀ o ∈ l, x.src = o.src → x.send = o.send ∧ (x.msg = o.msg → x = o) := by
 unfold okM at h
 induction l with
 | nil => intro x hx; simp at hx
 | cons a l ih =>
  rw [List.pairwise_cons] at h
  intro x hx o ho e
  rcases List.mem_cons.1 hx with rfl | hx1 <;> rcases List.mem_cons.1 ho with rfl | ho1
  ·exact ⟨rfl, fun _ => rfl⟩
  ·have := h.1 o ho1
   refine ⟨?_, fun q => absurd ⟨e, .inr q⟩ this⟩
   by_cases c : x.send = o.send
   ·exact c
   ·exact absurd ⟨e, .inl c⟩ this
  ·have := h.1 x hx1
   refine ⟨?_, fun q => absurd ⟨e.symm, .inr q.symm⟩ this⟩
   by_cases c : o.send = x.send
   ·exact c.symm
   ·exact absurd ⟨e.symm, .inl c⟩ this
  ·exact ih h.2 x hx1 o ho1 e
theorem okM.det {l : List Move} (h : okM l) {s n t t' : Int} {d : Bool} (a : mv l s d n t) (b : mv l s d n t') : t = t' := by
 obtain ⟨x, hx, x1, x2, x3, x4⟩ := a
 obtain ⟨o, ho, o1, o2, o3, o4⟩ := b
 have := (h.kind x hx o ho (by rw [x1, o1])).2 (by rw [x3, o3])
 rw [← x4, ← o4, this]
def has (l : List Move) (s : Int) (d : Bool) (n : Int) : Prop := ∃ t, mv l s d n t
inductive RX (same : Bool) (a b : List Move) : Int → Int → Prop
 | zero : RX same a b 0 0
 | step {x y x' y' n : Int} {d : Bool} : RX same a b x y → mv a x d n x' → mv b y (if same then d else !d) n y' → RX same a b x' y'
structure FAt (n o : List Move) (en eo : Int → Prop) (x y : Int) : Prop where
 rc : ∀ m, has o y false m → has n x false m
 sd : ∀ m, has n x true m → has o y true m
 some_s : (∃ m, has o y true m) → ∃ m, has n x true m
 some_r : (∃ m, has n x false m) → ∃ m, has o y false m
 en : eo y → en x
structure Fine (a b : List Move) (ea eb : Int → Prop) (x y : Int) : Prop where
 ab : ∀ m, has a x true m → has b y false m
 ba : ∀ m, has b y true m → has a x false m
 go : (∃ d m, has a x d m ∧ has b y (!d) m) ∨ (ea x ∧ eb y)
theorem follow_safe {n o m : List Move} {en eo em : Int → Prop} (hF : ∀ x y, RX true n o x y → FAt n o en eo x y) (hS : ∀ y z, RX false o m y z → Fine o m eo em y z) : ∀ x z, RX false n m x z → Fine n m en em x z := by
 have inv : ∀ x z, RX false n m x z → ∃ y, RX true n o x y ∧ RX false o m y z := by
  intro x z h
  induction h with
  | zero => exact ⟨0, .zero, .zero⟩
  | step hr h1 h2 ih =>
   rename_i x z x' z' k d
   obtain ⟨y, i1, i2⟩ := ih
   have f := hF _ _ i1
   have s := hS _ _ i2
   cases d with
   | true =>
    obtain ⟨y', h3⟩ := f.sd k ⟨_, h1⟩
    exact ⟨y', .step i1 h1 h3, .step i2 h3 h2⟩
   | false =>
    obtain ⟨y', h3⟩ := s.ba k ⟨_, h2⟩
    exact ⟨y', .step i1 h1 h3, .step i2 h3 h2⟩
 intro x z h
 obtain ⟨y, i1, i2⟩ := inv x z h
 have f := hF _ _ i1
 have s := hS _ _ i2
 refine ⟨fun k hk => s.ab k (f.sd k hk), fun k hk => f.rc k (s.ba k hk), ?_⟩
 rcases s.go with ⟨d, k, h1, h2⟩ | ⟨h1, h2⟩
 ·cases d with
  | true =>
   obtain ⟨k', hk'⟩ := f.some_s ⟨k, h1⟩
   exact .inl ⟨true, k', hk', s.ab k' (f.sd k' hk')⟩
  | false => exact .inl ⟨false, k, f.rc k h1, h2⟩
 ·exact .inr ⟨f.en h1, h2⟩
theorem follow_self {o : List Move} {eo : Int → Prop} (h : okM o) : ∀ x y, RX true o o x y → FAt o o eo eo x y := by
 have eq : ∀ x y, RX true o o x y → x = y := by
  intro x y h'
  induction h' with
  | zero => rfl
  | step hr h1 h2 ih =>
   subst ih
   exact h.det h1 h2
 intro x y hr
 have := eq x y hr
 subst this
 exact ⟨fun _ h => h, fun _ h => h, fun h => h, fun h => h, fun h => h⟩
theorem ixOf_ex {α : Type} {p : α → Bool} : ∀ {l : List α} {i : Int}, 0 ≤ i → 0 ≤ ixOf p l i → ∃ pre x suf, l = pre ++ x :: suf ∧ ixOf p l i = i + (pre.length : Int) ∧ p x = true
 | [], i, _, h => by simp [ixOf] at h
 | x :: l, i, h0, h => by
  unfold ixOf at h ⊢
  by_cases hx : p x = true
  ·exact ⟨[], x, l, rfl, by rw [if_pos hx]; simp, hx⟩
  ·rw [if_neg hx] at h ⊢
   obtain ⟨pre, y, suf, h1, h2, h3⟩ := ixOf_ex (by omega) h
   exact ⟨x :: pre, y, suf, by rw [h1]; rfl, by rw [h2]; simp; omega, h3⟩
theorem isMv_iff {s : Int} {d : Bool} {n : Int} {x : Move} : isMv s d n x = true ↔ x.src = s ∧ x.send = d ∧ x.msg = n := by unfold isMv; simp [and_assoc]
theorem mvOf_ex {l : List Move} {s n : Int} {d : Bool} (h : 0 ≤ mvOf l s d n) : ∃ pre x suf, l = pre ++ x :: suf ∧ At (mvOf l s d n) pre.length ∧ x.src = s ∧ x.send = d ∧ x.msg = n := by
 obtain ⟨pre, x, suf, h1, h2, h3⟩ := ixOf_ex (Int.le_refl 0) h
 exact ⟨pre, x, suf, h1, by unfold At mvOf; rw [h2]; omega, isMv_iff.1 h3⟩
theorem mvOf_has {l : List Move} {s n : Int} {d : Bool} : 0 ≤ mvOf l s d n ↔ has l s d n := by
 constructor
 ·intro h
  obtain ⟨pre, x, suf, h1, _, h3⟩ := mvOf_ex h
  exact ⟨x.dst, x, by rw [h1]; simp, h3.1, h3.2.1, h3.2.2, rfl⟩
 ·rintro ⟨t, x, hx, h1, h2, h3, _⟩
  have := ixOf_ge (isMv s d n) l 0 (Int.le_refl 0)
  rw [show l.any (isMv s d n) = true from List.any_eq_true.2 ⟨x, hx, isMv_iff.2 ⟨h1, h2, h3⟩⟩, decide_eq_true_eq] at this
  exact this
def dst1 (l : List Move) (i : Int) : Int := ((l[i.toNat]?).map Move.dst).getD 0
theorem dst1_at {l pre suf : List Move} {x : Move} {i : Int} (h : l = pre ++ x :: suf) (hi : At i pre.length) : dst1 l i = x.dst := by
 unfold At at hi
 unfold dst1
 rw [h, hi]; simp
theorem dst1_mv {l : List Move} {s n : Int} {d : Bool} (h : 0 ≤ mvOf l s d n) : mv l s d n (dst1 l (mvOf l s d n)) := by
 obtain ⟨pre, x, suf, h1, h2, h3⟩ := mvOf_ex h
 rw [dst1_at h1 h2]
 exact ⟨x, by rw [h1]; simp, h3.1, h3.2.1, h3.2.2, rfl⟩
def oneV (la lb : List Move) (x y : Int) (da db : Bool) (m : Int) : List (List Int) :=
 if (decide (0 ≤ mvOf la x da m) && decide (0 ≤ mvOf lb y db m)) = true then [[dst1 la (mvOf la x da m), dst1 lb (mvOf lb y db m)]] else []
def stepV (la lb : List Move) (x y : Int) (da db : Bool) (ms : List Int) : List (List Int) := ms.flatMap (oneV la lb x y da db)
def lstV (la lb : List Move) (x y : Int) (d2 b : Bool) : List Int := match b with | true => sortI (mvs la x true) | false => sortI (mvs lb y d2)
def nxV (f : Bool → Bool) (la lb : List Move) (x y : Int) : List (List Int) := [true, false].flatMap fun b => stepV la lb x y b (f b) (lstV la lb x y (f false) b)
theorem stepV_snoc {la lb : List Move} {x y : Int} {da db : Bool} {ms : List Int} {m : Int} : stepV la lb x y da db (ms ++ [m]) = stepV la lb x y da db ms ++ oneV la lb x y da db m := by unfold stepV; simp
theorem oneV_len {la lb : List Move} {x y : Int} {da db : Bool} {m : Int} : (oneV la lb x y da db m).length ≤ 1 := by unfold oneV; split <;> simp
theorem stepV_len {la lb : List Move} {x y : Int} {da db : Bool} : ∀ {ms : List Int}, (stepV la lb x y da db ms).length ≤ ms.length
 | [] => by simp [stepV]
 | m :: ms => by
  have h1 := oneV_len (la := la) (lb := lb) (x := x) (y := y) (da := da) (db := db) (m := m)
  have h2 := stepV_len (la := la) (lb := lb) (x := x) (y := y) (da := da) (db := db) (ms := ms)
  unfold stepV at h2 ⊢
  simp only [List.flatMap_cons, List.length_append, List.length_cons]; omega
theorem sortI_len {l : List Int} : (sortI l).length = l.length := by unfold sortI; rw [List.length_mergeSort]
theorem mvs_len {l : List Move} {s : Int} {d : Bool} : (mvs l s d).length ≤ l.length := by unfold mvs; exact sel_len
theorem lstV_len {la lb : List Move} {x y : Int} {d2 b : Bool} {n : Nat} (h1 : la.length ≤ n) (h2 : lb.length ≤ n) : (lstV la lb x y d2 b).length ≤ n := by
 cases b
 ·exact Nat.le_trans (by unfold lstV; rw [sortI_len]; exact mvs_len) h2
 ·exact Nat.le_trans (by unfold lstV; rw [sortI_len]; exact mvs_len) h1
theorem nxV_len {f : Bool → Bool} {la lb : List Move} {x y : Int} {n : Nat} (h1 : la.length ≤ n) (h2 : lb.length ≤ n) : (nxV f la lb x y).length ≤ 2 * n := by
 unfold nxV
 simp only [List.flatMap_cons, List.flatMap_nil, List.append_nil, List.length_append]
 have a := stepV_len (la := la) (lb := lb) (x := x) (y := y) (da := true) (db := f true) (ms := lstV la lb x y (f false) true)
 have b := stepV_len (la := la) (lb := lb) (x := x) (y := y) (da := false) (db := f false) (ms := lstV la lb x y (f false) false)
 have c := lstV_len (x := x) (y := y) (d2 := f false) (b := true) h1 h2
 have d := lstV_len (x := x) (y := y) (d2 := f false) (b := false) h1 h2
 omega
theorem sortI_mem {l : List Int} {n : Int} : n ∈ sortI l ↔ n ∈ l := by unfold sortI; exact List.mem_mergeSort
theorem mvs_mem {l : List Move} {s n : Int} {d : Bool} : n ∈ mvs l s d ↔ has l s d n := by
 unfold mvs sel
 rw [List.mem_map]
 constructor
 ·rintro ⟨x, hx, rfl⟩
  rw [List.mem_filter] at hx
  obtain ⟨h1, h2⟩ := hx
  unfold isFr at h2
  rw [Bool.and_eq_true, decide_eq_true_eq, decide_eq_true_eq] at h2
  exact ⟨x.dst, x, h1, h2.1, h2.2, rfl, rfl⟩
 ·rintro ⟨t, x, hx, h1, h2, h3, _⟩
  exact ⟨x, List.mem_filter.2 ⟨hx, by unfold isFr; simp [h1, h2]⟩, h3⟩
theorem oneV_mem {la lb : List Move} {x y m : Int} {da db : Bool} {p : List Int} (ha : okM la) (hb : okM lb) : p ∈ oneV la lb x y da db m ↔ ∃ s t, p = [s, t] ∧ mv la x da m s ∧ mv lb y db m t := by
 unfold oneV
 split
 ·rename_i h
  rw [Bool.and_eq_true, decide_eq_true_eq, decide_eq_true_eq] at h
  have h1 := dst1_mv h.1
  have h2 := dst1_mv h.2
  constructor
  ·intro hp
   simp only [List.mem_singleton] at hp
   exact ⟨_, _, hp, h1, h2⟩
  ·rintro ⟨s, t, rfl, q1, q2⟩
   rw [ha.det q1 h1, hb.det q2 h2]; simp
 ·rename_i h
  constructor
  ·intro hp; simp at hp
  ·rintro ⟨s, t, rfl, q1, q2⟩
   exact absurd (by rw [Bool.and_eq_true, decide_eq_true_eq, decide_eq_true_eq]; exact ⟨mvOf_has.2 ⟨_, q1⟩, mvOf_has.2 ⟨_, q2⟩⟩) h
theorem nxV_mem {f : Bool → Bool} {la lb : List Move} {x y : Int} {p : List Int} (ha : okM la) (hb : okM lb) : p ∈ nxV f la lb x y ↔ ∃ d m s t, p = [s, t] ∧ mv la x d m s ∧ mv lb y (f d) m t := by
 unfold nxV
 rw [List.mem_flatMap]
 constructor
 ·rintro ⟨d, _, h⟩
  unfold stepV at h
  obtain ⟨m, _, h⟩ := List.mem_flatMap.1 h
  obtain ⟨s, t, h⟩ := (oneV_mem ha hb).1 h
  exact ⟨d, m, s, t, h⟩
 ·rintro ⟨d, m, s, t, h1, h2, h3⟩
  refine ⟨d, by cases d <;> simp, ?_⟩
  unfold stepV
  refine List.mem_flatMap.2 ⟨m, ?_, (oneV_mem ha hb).2 ⟨s, t, h1, h2, h3⟩⟩
  cases d
  ·exact sortI_mem.2 (mvs_mem.2 ⟨_, h3⟩)
  ·exact sortI_mem.2 (mvs_mem.2 ⟨_, h2⟩)
theorem mvOk_iff {st : Int} : ∀ {suf pre : List Move}, mvOk st pre suf = true ↔ (∀ x ∈ suf, inM st x = true ∧ ∀ y ∈ pre, clash x y = false) ∧ suf.Pairwise (fun x y => clash y x = false)
 | [], pre => by simp [mvOk]
 | x :: suf, pre => by
  unfold mvOk
  simp only [Bool.and_eq_true, Bool.not_eq_true', mvOk_iff (suf := suf) (pre := pre ++ [x]), List.pairwise_cons, List.any_eq_false, Bool.not_eq_true]
  constructor
  ·rintro ⟨⟨a, b⟩, c, d⟩
   refine ⟨fun z hz => ?_, fun y hy => (c y hy).2 x (by simp), d⟩
   rcases List.mem_cons.1 hz with rfl | hz
   ·exact ⟨a, b⟩
   ·exact ⟨(c z hz).1, fun y hy => (c z hz).2 y (by simp [hy])⟩
  ·rintro ⟨a, b, c⟩
   refine ⟨⟨(a x (by simp)).1, (a x (by simp)).2⟩, fun z hz => ⟨(a z (by simp [hz])).1, fun y hy => ?_⟩, c⟩
   rcases List.mem_append.1 hy with h | h
   ·exact (a z (by simp [hz])).2 y h
   ·simp only [List.mem_singleton] at h
    rw [h]; exact b z hz
structure Mc (es : List Bool) (l : List Move) : Prop where
 ok : okM l
 le : es.length ≤ 6
 ll : l.length ≤ 12
 dst : ∀ x ∈ l, 0 ≤ x.dst ∧ x.dst < 6
theorem mch_mc {st : Int} {es : List Bool} {l : List Move} (h : mchO st es l = true) : Mc es l := by
 unfold mchO at h
 simp only [Bool.and_eq_true, decide_eq_true_eq, Bool.not_eq_true', decide_eq_false_iff_not] at h
 obtain ⟨⟨⟨h1, h2⟩, h3⟩, h4⟩ := h
 unfold inR at h1
 simp only [Bool.and_eq_true, decide_eq_true_eq] at h1
 obtain ⟨h5, h6⟩ := mvOk_iff.1 h4
 refine ⟨?_, by omega, by omega, fun x hx => ?_⟩
 ·unfold okM
  refine h6.imp fun {x o} h => ?_
  rintro ⟨e, e2⟩
  unfold clash at h
  simp [e] at h
  rcases e2 with e2 | e2
  ·exact e2 h.1
  ·exact h.2 e2
 ·have := (h5 x hx).1
  unfold inM inR at this
  simp only [Bool.and_eq_true, decide_eq_true_eq] at this
  omega
theorem noTw_nd : ∀ {l : List Int}, l.Nodup → noTw l
 | [], _ => trivial
 | x :: l, h => by
  rw [List.nodup_cons] at h
  refine ⟨fun y t e q => ?_, noTw_nd h.2⟩
  subst e; subst q
  exact h.1 (by simp)
theorem okM.nd {l : List Move} (h : okM l) {s : Int} {d : Bool} : (mvs l s d).Nodup := by
 unfold okM at h
 unfold mvs sel
 rw [List.nodup_iff_pairwise_ne, List.pairwise_map, List.pairwise_filter]
 refine h.imp fun {a b} hab ha hb e => ?_
 unfold isFr at ha hb
 simp only [Bool.and_eq_true, decide_eq_true_eq] at ha hb
 exact hab ⟨by rw [ha.1, hb.1], .inr e⟩
theorem okM.tw {l : List Move} (h : okM l) (s : Int) (d : Bool) : noTw (sortI (mvs l s d)) := by
 refine noTw_nd ?_
 unfold sortI
 exact (List.mergeSort_perm _ _).nodup_iff.2 h.nd
theorem Mc.k334 {st : Int} {es : List Bool} {l : List Move} (h : Mc es l) (s : Int) (d : Bool) {f0 f1 : Fl} (h0 : inFl f0 = true) (h1 : inFl f1 = true) : fix Tb md 334 [sMach st (row fB es) (row fMove l) f0 f1, I s, B d] = some ⟨[R (row fI (sortI (mvs l s d))) .no], [], none⟩ := ok334 st es l s d (by have := h.ll; omega) (h.ok.tw s d) h0 h1
def mvS (l : List Move) (s : Int) (d : Bool) : List Int := (mvs l s d).foldl l4V []
theorem l4Go_in (n : Int) : ∀ (suf pre : List Int) (x : Int), (x = n ∨ x ∈ pre ∨ x ∈ suf) → x ∈ l4Go n pre suf
 | [], pre, x, h => by
  unfold l4Go
  simp at h ⊢
  rcases h with h | h
  ·exact .inr h
  ·exact .inl h
 | y :: suf, pre, x, h => by
  unfold l4Go
  split
  ·refine l4Go_in n suf _ x ?_
   simp at h ⊢
   rcases h with h | h | h | h
   ·exact .inl h
   ·exact .inr (.inl (.inl h))
   ·exact .inr (.inl (.inr h))
   ·exact .inr (.inr h)
  ·split
   ·rename_i e
    simp at h ⊢
    rcases h with h | h | h | h
    ·exact .inr (.inl (by rw [h, e]))
    ·exact .inl h
    ·exact .inr (.inl h)
    ·exact .inr (.inr h)
   ·simp at h ⊢
    rcases h with h | h | h | h
    ·exact .inr (.inl h)
    ·exact .inl h
    ·exact .inr (.inr (.inl h))
    ·exact .inr (.inr (.inr h))
theorem l4V_mem {l : List Int} {n x : Int} : x ∈ l4V l n ↔ x = n ∨ x ∈ l := by
 constructor
 ·intro h
  rcases l4Go_mem n l [] x h with h | h | h
  ·exact .inl h
  ·simp at h
  ·exact .inr h
 ·intro h
  exact l4Go_in n l [] x (h.elim .inl fun h => .inr (.inr h))
theorem foldl_l4_mem {x : Int} : ∀ {l a : List Int}, x ∈ l.foldl l4V a ↔ x ∈ a ∨ x ∈ l
 | [], a => by simp
 | n :: l, a => by
  rw [List.foldl_cons, foldl_l4_mem, l4V_mem]
  simp only [List.mem_cons]
  constructor
  ·rintro ((h | h) | h)
   ·exact .inr (.inl h)
   ·exact .inl h
   ·exact .inr (.inr h)
  ·rintro (h | h | h)
   ·exact .inl (.inr h)
   ·exact .inl (.inl h)
   ·exact .inr h
theorem foldl_l4_len : ∀ {l a : List Int}, (l.foldl l4V a).length ≤ a.length + l.length
 | [], a => by simp
 | n :: l, a => by
  rw [List.foldl_cons]
  have := foldl_l4_len (l := l) (a := l4V a n)
  have := l4V_len a n
  simp only [List.length_cons]; omega
theorem mvS_mem {l : List Move} {s n : Int} {d : Bool} : n ∈ mvS l s d ↔ has l s d n := by
 unfold mvS
 rw [foldl_l4_mem, mvs_mem]; simp
theorem mvS_len {l : List Move} {s : Int} {d : Bool} : (mvS l s d).length ≤ l.length := by
 unfold mvS
 have := foldl_l4_len (l := mvs l s d) (a := [])
 have := mvs_len (l := l) (s := s) (d := d)
 simp at *; omega
theorem mvS_t {l : List Move} {s : Int} {d : Bool} {x : Move} (h : isFr s d x = true) : mvS (l ++ [x]) s d = l4V (mvS l s d) x.msg := by
 unfold mvS mvs
 rw [sel_t h, List.foldl_append]; rfl
theorem mvS_f {l : List Move} {s : Int} {d : Bool} {x : Move} (h : isFr s d x = false) : mvS (l ++ [x]) s d = mvS l s d := by
 unfold mvS mvs
 rw [sel_f h]
theorem ok367 (st : Int) (es : List Bool) (l : List Move) (s : Int) (d : Bool) (hl : l.length ≤ 1048576) {f0 f1 : Fl} (h0 : inFl f0 = true) (h1 : inFl f1 = true) : fix Tb md 367 [sMach st (row fB es) (row fMove l) f0 f1, I s, B d] = some ⟨[R (row fI (mvS l s d)) (.ow false)], [], none⟩ := by
 obtain ⟨T, hT⟩ := nm (mvS l s d)
 rw [← hT]
 generalize hr : (⟨_, [], none⟩ : Ret) = r
 obtain ⟨ea, hea⟩ := nm (row fMove l)
 obtain ⟨eb, heb⟩ := nm (row fB es)
 rw [← hea, ← heb]
 refine fix_fn2 (fn := ir367) tb_367 rfl rfl (by decide) rfl ?_; intro Q hQ; simp only [shutArgs, shutS, List.map_cons, List.map_nil, ir367, shut_in h0, shut_in h1, List.head?_nil, reduceCtorEq, if_false, sExt, sHello, sAnswer, sEdit, sDeal, sBox, sDialed, sKnown, sMach, sMove]
 intro add sub mul arith eq ne lt le gt ge neg conv mn mx not beq len at' ln bd cut app allS isNil mks set o hP F ho
 have la := F.len_at hea
 cbv
 refine loop_ind2 hP (σ := List Move × List Move × List (List V) × Int) (fun s' => [(0, sMach st eb ea .sh .sh), (1, I s), (2, B d), (3, ⟨.ptr 47 0, []⟩), (6, R [] .nl), (7, R s'.2.2.1 (.ow false)), (8, I s'.2.2.2), (47, ⟨.box (), [⟨.int .i64 st, .sc⟩, ⟨.row () eb, .sh⟩, ⟨.row () ea, .sh⟩]⟩)])
  (fun s' => At s'.2.2.2 s'.2.1.length ∧ l = s'.2.1 ++ s'.1 ∧ s'.2.2.1 = row fI (mvS s'.2.1 s d)) (fun s' => s'.1.length) (l, [], [], 0) rfl ⟨rfl, rfl, rfl⟩ ?_
 intro c9 Q1 hc9 hQ1
 rintro ⟨suf, pre, eo, i⟩ ⟨hi, hl', hb⟩ ih
 simp only at hi hl' hb ih
 cbv
 cases suf with
 | nil =>
  rw [F.lt_f hi la (by simp [hl'])]; cbv
  rw [hQ1]; cbv
  rw [hQ]; cbv
  rw [hb, show pre = l by rw [hl', List.append_nil], ← hT]; exact congrArg some hr
 | cons x suf =>
  obtain ⟨x1, x2, x3, x4⟩ := x
  obtain ⟨ix, hix⟩ := nm (pre.length * 4)
  have hpre : pre.length ≤ 1048576 := by rw [hl'] at hl; simp at hl; omega
  have hi' : At (add .i64 i 1) (pre ++ [(⟨x1, x2, x3, x4⟩ : Move)]).length := at_len (F.inc hi (by omega)) (by simp)
  have hl2 : l = (pre ++ [⟨x1, x2, x3, x4⟩]) ++ suf := by rw [hl']; simp
  have r1 : at' 4 ea i = some (ix, [.int .i64 x1, .bool x2, .int .i64 x3, .int .i64 x4]) := by rw [hix]; exact F.get hi hea hl' (fun _ => rfl) (by decide)
  have g1 : eq x1 s = decide (x1 = s) := F.eq ..
  have g2 : beq x2 d = decide (x2 = d) := F.beq ..
  obtain ⟨v1, hv1⟩ := nm (decide (x1 = s))
  obtain ⟨v2, hv2⟩ := nm (decide (x2 = d))
  rw [← hv1] at g1
  rw [← hv2] at g2
  have hfr : isFr s d ⟨x1, x2, x3, x4⟩ = (v1 && v2) := by rw [hv1, hv2]; rfl
  have hml := mvS_len (l := pre) (s := s) (d := d)
  obtain ⟨eo', heo'⟩ := nm (row fI (l4V (mvS pre s d) x3))
  have c1 : o 345 [R eo (.sp 0 0), I x3] = some ⟨[R eo' (.ow false)], [], none⟩ := by rw [ho, hb, heo']; exact ok345 _ x3 (by omega) rfl
  rw [F.lt_t hi la (by simp [hl'])]; cbv
  rw [r1]; cbv
  rw [g1]
  refine both (fun d1 => ?_) (fun d1 => ?_) <;> rw [d1] <;> cbv
  ·rw [r1]; cbv
   rw [g2]
   refine both (fun d2 => ?_) (fun d2 => ?_) <;> rw [d2] <;> cbv
   ·rw [r1]; cbv
    rw [c1]; cbv
    exact ih (suf, pre ++ [⟨x1, x2, x3, x4⟩], eo', add .i64 i 1) ⟨hi', hl2, by rw [mvS_t (by rw [hfr, d1, d2]; rfl)]; exact heo'⟩ (by simp)
   ·exact ih (suf, pre ++ [⟨x1, x2, x3, x4⟩], eo, add .i64 i 1) ⟨hi', hl2, by rw [mvS_f (by rw [hfr, d1, d2]; rfl)]; exact hb⟩ (by simp)
  ·exact ih (suf, pre ++ [⟨x1, x2, x3, x4⟩], eo, add .i64 i 1) ⟨hi', hl2, by rw [mvS_f (by rw [hfr, d1]; rfl)]; exact hb⟩ (by simp)
theorem ok380 (st : Int) (es : List Bool) (l : List Move) (he : es.length ≤ 1073741824) (hl : l.length ≤ 1073741824) {f0 f1 : Fl} (h0 : inFl f0 = true) (h1 : inFl f1 = true) : ∃ r, fix Tb md 380 [sMach st (row fB es) (row fMove l) f0 f1] = some r ∧ ∃ g, r = ⟨[sMach st (row fB es) (row fMove (l.map dualM)) (.ow false) g], [], none⟩ ∧ ((g = .nl ∧ l = []) ∨ g = .ow false) := by
 obtain ⟨et, het⟩ := nm (row fMove (l.map dualM))
 rw [← het]
 obtain ⟨ea, hea⟩ := nm (row fMove l)
 obtain ⟨eb, heb⟩ := nm (row fB es)
 rw [← hea, ← heb]
 refine fix_fnE (fn := ir380) tb_380 rfl rfl (by decide) rfl ?_; intro Q W hW hQ; simp only [shutArgs, shutS, List.map_cons, List.map_nil, ir380, shut_in h0, shut_in h1, List.head?_nil, reduceCtorEq, if_false, sMach] at hQ ⊢
 have hW0 : l = [] → W (some ⟨[sMach st eb et (.ow false) .nl], [], none⟩) := fun q => hW _ ⟨_, rfl, .inl ⟨rfl, q⟩⟩
 have hW1 : W (some ⟨[sMach st eb et (.ow false) (.ow false)], [], none⟩) := hW _ ⟨_, rfl, .inr rfl⟩
 clear hW
 intro add sub mul arith eq ne lt le gt ge neg conv mn mx not beq len at' ln bd cut app allS isNil mks set o hP F ho
 have s0 : ∀ x1 x2 x3 x4, allS [[.int .i64 x1, .bool x2, .int .i64 x3, .int .i64 x4]] = true := fun _ _ _ _ => by rw [F.allS]; rfl
 have s9 : ∀ x1 x2 x3 x4, isNil [[.int .i64 x1, .bool x2, .int .i64 x3, .int .i64 x4]] = false := fun _ _ _ _ => by rw [F.isNil]; rfl
 cbv
 rw [show allS eb = true from F.scal heb (fun _ => rfl)]; cbv
 rw [F.app_nil heb (fun _ => rfl) (by omega)]; cbv
 have la := F.len_at hea
 refine loop_ind2 hP (σ := List Move × List Move × List (List V) × Int × Option Move) (fun s => match s.2.2.2.2 with
  | none => [(0, sMach st eb ea .sh .sh), (1, ⟨.ptr 37 0, []⟩), (2, ⟨.ptr 38 0, []⟩), (3, ⟨.ptr 39 0, []⟩), (4, I s.2.2.2.1), (37, ⟨.box (), [⟨.int .i64 st, .sc⟩, ⟨.row () eb, .sh⟩, ⟨.row () ea, .sh⟩]⟩), (38, ⟨.box (), [⟨.int .i64 0, .sc⟩, ⟨.row () [], .nl⟩, ⟨.row () [], .nl⟩]⟩), (39, ⟨.box (), [⟨.int .i64 st, .sc⟩, ⟨.row () eb, .ow false⟩, ⟨.row () s.2.2.1, .nl⟩]⟩)]
  | some x => [(0, sMach st eb ea .sh .sh), (1, ⟨.ptr 37 0, []⟩), (2, ⟨.ptr 38 0, []⟩), (3, ⟨.ptr 39 0, []⟩), (4, I s.2.2.2.1), (5, ⟨.ptr 41 0, []⟩), (37, ⟨.box (), [⟨.int .i64 st, .sc⟩, ⟨.row () eb, .sh⟩, ⟨.row () ea, .sh⟩]⟩), (38, ⟨.box (), [⟨.int .i64 0, .sc⟩, ⟨.row () [], .nl⟩, ⟨.row () [], .nl⟩]⟩), (39, ⟨.box (), [⟨.int .i64 st, .sc⟩, ⟨.row () eb, .ow false⟩, ⟨.row () s.2.2.1, .ow false⟩]⟩), (41, ⟨.box (), [⟨.int .i64 x.src, .sc⟩, ⟨.bool x.send, .sc⟩, ⟨.int .i64 x.msg, .sc⟩, ⟨.int .i64 x.dst, .sc⟩]⟩)])
  (fun s => At s.2.2.2.1 s.2.1.length ∧ l = s.2.1 ++ s.1 ∧ s.2.2.1 = row fMove (s.2.1.map dualM) ∧ (s.2.2.2.2 = none → s.2.1 = [])) (fun s => s.1.length) (l, [], [], 0, none) rfl ⟨rfl, rfl, rfl, fun _ => rfl⟩ ?_
 intro c9 Q1 hc9 hQ1
 rintro ⟨suf, pre, eo, i, j⟩ ⟨hi, hl', heo, hj⟩ ih
 simp only at hi hl' heo hj ih
 cases suf with
 | nil =>
  have gl : lt i (len ea) = false := F.lt_f hi la (by simp [hl'])
  have hfin : eo = et := by rw [heo, het, hl', List.append_nil]
  rcases j with _ | ⟨j1, j2, j3, j4⟩
  ·cbv
   rw [gl]; cbv
   rw [hQ1]; cbv
   rw [hQ]; cbv
   rw [hfin]; exact hW0 (by rw [hl', hj rfl]; rfl)
  ·cbv
   rw [gl]; cbv
   rw [hQ1]; cbv
   rw [hQ]; cbv
   rw [hfin]; exact hW1
 | cons x suf =>
  obtain ⟨x1, x2, x3, x4⟩ := x
  have gl : lt i (len ea) = true := F.lt_t hi la (by simp [hl'])
  have hpre : pre.length ≤ 1073741824 := by rw [hl'] at hl; simp at hl; omega
  have hi' : At (add .i64 i 1) (pre ++ [(⟨x1, x2, x3, x4⟩ : Move)]).length := at_len (F.inc hi (by omega)) (by simp)
  have hl2 : l = (pre ++ [⟨x1, x2, x3, x4⟩]) ++ suf := by rw [hl']; simp
  obtain ⟨ix, hix⟩ := nm (pre.length * 4)
  have r1 : at' 4 ea i = some (ix, [.int .i64 x1, .bool x2, .int .i64 x3, .int .i64 x4]) := by rw [hix]; exact F.get hi hea hl' (fun _ => rfl) (by decide)
  obtain ⟨eo', heo'⟩ := nm (row fMove (pre.map dualM ++ [dualM ⟨x1, x2, x3, x4⟩]))
  obtain ⟨y2, hy2⟩ := nm (!x2)
  have gn : not x2 = y2 := by rw [F.not x2, hy2]
  have s1 : app 4 eo [[.int .i64 x1, .bool y2, .int .i64 x3, .int .i64 x4]] = some eo' := by rw [heo', hy2]; exact F.push heo (fun _ => rfl) rfl (by simp; omega)
  have ih' := ih (suf, pre ++ [⟨x1, x2, x3, x4⟩], eo', add .i64 i 1, some ⟨x1, y2, x3, x4⟩) ⟨hi', hl2, by rw [heo']; simp, fun e => by cases e⟩ (by simp)
  clear ih
  rcases j with _ | ⟨j1, j2, j3, j4⟩
  all_goals
   cbv
   rw [gl]; cbv
   rw [r1]; cbv
   rw [gn]; cbv
   rw [s0]; cbv
   rw [s1]; cbv
   try (rw [s9]; cbv)
   exact ih'
end Go.Vm
