/- What the functions answer. -/
import Derived.Test.YtmojgceacpclpaaGLTab
import Derived.Test.YtmojgceacpclpaaGLFA
import Derived.Test.YtmojgceacpclpaaGLFD
import Derived.Test.YtmojgceacpclpaaGLFF
import Derived.Test.YtmojgceacpclpaaGLFK
set_option maxHeartbeats 4000000
set_option maxRecDepth 10000
set_option linter.unusedVariables false
set_option linter.unusedSimpArgs false
namespace Go.Vm
theorem ok369 (a b : List Int) (ha : a.length ≤ 1073741824) (hb0 : b.length ≤ 1073741824) {f0 f1 : Fl} (h0 : inFl f0 = true) (h1 : inFl f1 = true) : fix Tb md 369 [R (row fI a) f0, R (row fI b) f1] = some ⟨[B (a.all (hasI b))], [], none⟩ := by
 obtain ⟨T, hT⟩ := nm (a.all (hasI b))
 rw [← hT]
 have k := fun n => ok285 b n (by omega) (f0 := .sp 0 0) rfl
 generalize hr : (⟨_, [], none⟩ : Ret) = r
 obtain ⟨ea, hea⟩ := nm (row fI a)
 obtain ⟨eb, heb⟩ := nm (row fI b)
 rw [← heb] at k
 rw [← hea, ← heb]
 have fin : ∀ v, T = v → some (⟨[B v], [], none⟩ : Ret) = some r := fun v e => by rw [← e, hr]
 refine fix_fn2 (fn := ir369) tb_369 rfl rfl (by decide) rfl ?_; intro Q hQ; simp only [shutArgs, shutS, List.map_cons, List.map_nil, ir369, shut_in h0, shut_in h1, List.head?_nil, reduceCtorEq, if_false, sExt, sHello, sAnswer, sEdit, sDeal, sBox, sDialed, sKnown]
 intro add sub mul arith eq ne lt le gt ge neg conv mn mx not beq len at' ln bd cut app allS isNil mks set o hP F ho
 rw [← ho] at k
 have la := F.len_at hea
 cbv
 refine loop_ind2 hP (σ := List Int × List Int × Int) (fun s => [(0, R ea .sh), (1, R eb .sh), (4, B false), (5, I s.2.2)]) (fun s => At s.2.2 s.2.1.length ∧ a = s.2.1 ++ s.1 ∧ s.1.all (hasI b) = T) (fun s => s.1.length) (a, [], 0) rfl ⟨rfl, rfl, hT.symm⟩ ?_
 intro c9 Q1 hc9 hQ1
 rintro ⟨suf, pre, i⟩ ⟨hi, hl', hb⟩ ih
 simp only at hi hl' hb ih
 cbv
 cases suf with
 | nil =>
  rw [F.lt_f hi la (by simp [hl'])]; cbv
  rw [hQ1]; cbv
  rw [hQ]; cbv
  exact fin _ (by rw [← hb]; rfl)
 | cons q suf =>
  obtain ⟨ix, hix⟩ := nm (pre.length * 1)
  have kq := k q
  obtain ⟨v, hv⟩ := nm (hasI b q)
  rw [← hv] at kq
  rw [List.all_cons, ← hv] at hb
  have hpre : pre.length ≤ 1073741824 := by rw [hl'] at ha; simp at ha; omega
  rw [F.lt_t hi la (by simp [hl'])]; cbv
  rw [show at' 1 ea i = some (ix, [.int .i64 q]) by rw [hix]; exact F.get hi hea hl' (fun _ => rfl) (by decide)]; cbv
  rw [kq]; cbv
  refine both (fun d => ?_) (fun d => ?_) <;> rw [d] <;> cbv
  ·rw [hQ1]; cbv
   rw [hQ]; cbv
   rw [F.not_t d] at hb
   exact fin _ (by rw [← hb]; rfl)
  ·rw [F.not_f d] at hb
   exact ih (suf, pre ++ [q], add .i64 i 1) ⟨at_len (F.inc hi (by omega)) (by simp), by simp [hl'], by simpa using hb⟩ (by simp)
theorem ok370 (st : Int) (es : List Bool) (l : List Move) (s : Int) (hl : es.length ≤ 1099511627776) {f0 f1 : Fl} (h0 : inFl f0 = true) (h1 : inFl f1 = true) : fix Tb md 370 [sMach st (row fB es) (row fMove l) f0 f1, I s] = some ⟨[B (endOf es s)], [], none⟩ := by
 obtain ⟨v, hv⟩ := nm (endOf es s)
 rw [← hv]
 generalize hr : (⟨_, [], none⟩ : Ret) = r
 obtain ⟨m, hm⟩ := nm ((es.length : Int) - 1)
 obtain ⟨u, hu⟩ := nm (inR s 0 m)
 obtain ⟨ea, hea⟩ := nm (row fMove l)
 obtain ⟨eb, heb⟩ := nm (row fB es)
 rw [← hea, ← heb]
 by_cases q : u = true
 ·obtain ⟨p, b, t, e1, e2⟩ := endOf_ex (es := es) (s := s) (by rw [← hm, ← hu]; exact q)
  have hb := endOf_at e1 e2
  obtain ⟨ix, hix⟩ := nm (p.length * 1)
  refine fix_fn2 (fn := ir370) tb_370 rfl rfl (by decide) rfl ?_; intro Q hQ; simp only [shutArgs, shutS, List.map_cons, List.map_nil, ir370, shut_in h0, shut_in h1, List.head?_nil, reduceCtorEq, if_false, sExt, sHello, sAnswer, sEdit, sDeal, sBox, sDialed, sKnown, sMach, sMove]
  intro add sub mul arith eq ne lt le gt ge neg conv mn mx not beq len at' ln bd cut app allS isNil mks set o hP F ho
  have hs : sub .i64 (len eb) 1 = m := by rw [F.sub, show len eb = (es.length : Int) from F.len_at heb, hm, wrap64 (by omega) (by omega)]
  have c1 : o 230 [I s, I 0, I m] = some ⟨[B u], [], none⟩ := by rw [ho, hu]; exact ok230 ..
  have c2 : at' 1 eb s = some (ix, [.bool b]) := by rw [hix]; exact F.get e2 heb e1 (fun _ => rfl) (by decide)
  cbv
  rw [hs]; cbv
  rw [c1, q]; cbv
  rw [c2]; cbv
  rw [hQ]; cbv
  rw [← hr, hv, hb]
 ·have q' : u = false := by simpa using q
  refine fix_fn2 (fn := ir370) tb_370 rfl rfl (by decide) rfl ?_; intro Q hQ; simp only [shutArgs, shutS, List.map_cons, List.map_nil, ir370, shut_in h0, shut_in h1, List.head?_nil, reduceCtorEq, if_false, sExt, sHello, sAnswer, sEdit, sDeal, sBox, sDialed, sKnown, sMach, sMove]
  intro add sub mul arith eq ne lt le gt ge neg conv mn mx not beq len at' ln bd cut app allS isNil mks set o hP F ho
  have hs : sub .i64 (len eb) 1 = m := by rw [F.sub, show len eb = (es.length : Int) from F.len_at heb, hm, wrap64 (by omega) (by omega)]
  have c1 : o 230 [I s, I 0, I m] = some ⟨[B u], [], none⟩ := by rw [ho, hu]; exact ok230 ..
  cbv
  rw [hs]; cbv
  rw [c1, q']; cbv
  rw [hQ]; cbv
  rw [← hr, hv, endOf, if_neg (by rw [← hm, ← hu]; exact q)]
theorem hasI_in {l : List Int} {n : Int} : hasI l n = true ↔ n ∈ l := by
 unfold hasI
 rw [List.any_eq_true]
 constructor
 ·rintro ⟨x, h1, h2⟩
  rw [decide_eq_true_eq] at h2
  rw [← h2]; exact h1
 ·intro h
  exact ⟨n, h, by simp⟩
theorem lack_all {a b : List Int} : lack a b = !a.all (hasI b) := by
 unfold lack
 rw [Bool.eq_iff_iff, decide_eq_true_eq]
 constructor
 ·intro h
  obtain ⟨x, hx⟩ := List.exists_mem_of_length_pos h
  rw [sel_idI, List.mem_filter] at hx
  obtain ⟨h1, h2⟩ := hx
  unfold notIn at h2
  rw [Bool.not_eq_true'] at h2 ⊢
  rw [List.all_eq_false]
  exact ⟨x, h1, by rw [h2]; decide⟩
 ·intro h
  rw [Bool.not_eq_true', List.all_eq_false] at h
  obtain ⟨x, h1, h2⟩ := h
  refine List.length_pos_of_mem (a := x) ?_
  rw [sel_idI, List.mem_filter]
  exact ⟨h1, by unfold notIn; simpa using h2⟩
theorem all_mem {a a' b b' : List Int} (ha : ∀ n, n ∈ a ↔ n ∈ a') (hb : ∀ n, n ∈ b ↔ n ∈ b') : a.all (hasI b) = a'.all (hasI b') := by
 rw [Bool.eq_iff_iff, List.all_eq_true, List.all_eq_true]
 constructor
 ·intro h n hn; exact hasI_in.2 ((hb n).1 (hasI_in.1 (h n ((ha n).2 hn))))
 ·intro h n hn; exact hasI_in.2 ((hb n).2 (hasI_in.1 (h n ((ha n).1 hn))))
theorem pos_mem {a a' : List Int} (ha : ∀ n, n ∈ a ↔ n ∈ a') : decide (0 < a.length) = decide (0 < a'.length) := by
 rw [Bool.eq_iff_iff, decide_eq_true_eq, decide_eq_true_eq]
 constructor
 ·intro h; obtain ⟨x, hx⟩ := List.exists_mem_of_length_pos h; exact List.length_pos_of_mem ((ha x).1 hx)
 ·intro h; obtain ⟨x, hx⟩ := List.exists_mem_of_length_pos h; exact List.length_pos_of_mem ((ha x).2 hx)
theorem zero_pos {n : Nat} : decide (n = 0) = !decide (0 < n) := by cases n <;> simp
theorem mvS_sort {l : List Move} {s : Int} {d : Bool} (n : Int) : n ∈ mvS l s d ↔ n ∈ sortI (mvs l s d) := by rw [mvS_mem, sortI_mem, mvs_mem]
theorem fAt_S {ea eb : List Bool} {la lb : List Move} {x y : Int} : fAtV ea eb la lb x y =
  (!(!(mvS lb y false).all (hasI (mvS la x false)) || !(mvS la x true).all (hasI (mvS lb y true)) || !(decide (0 < (mvS lb y true).length) == decide (0 < (mvS la x true).length)) || (decide ((mvS lb y false).length = 0) && decide (0 < (mvS la x false).length))) && (!endOf eb y || endOf ea x)) := by
 unfold fAtV
 rw [lack_all, lack_all, ← all_mem mvS_sort mvS_sort, ← all_mem mvS_sort mvS_sort, zero_pos, zero_pos, ← pos_mem (mvS_sort (l := lb) (s := y) (d := true)), ← pos_mem (mvS_sort (l := la) (s := x) (d := true)), ← pos_mem (mvS_sort (l := lb) (s := y) (d := false)), ← pos_mem (mvS_sort (l := la) (s := x) (d := false))]
 cases (mvS lb y false).all (hasI (mvS la x false)) <;> cases (mvS la x true).all (hasI (mvS lb y true)) <;> cases (decide (0 < (mvS lb y true).length) == decide (0 < (mvS la x true).length)) <;> cases (decide (0 < (mvS lb y false).length)) <;> cases (decide (0 < (mvS la x false).length)) <;> cases endOf eb y <;> cases endOf ea x <;> rfl
theorem ok328 (sa sb : Int) (ea eb : List Bool) (la lb : List Move) (x y : Int) (ha : Mc ea la) (hb : Mc eb lb) {f0 f1 f2 f3 : Fl} (h0 : inFl f0 = true) (h1 : inFl f1 = true) (h2 : inFl f2 = true) (h3 : inFl f3 = true) :
  fix Tb md 328 [sMach sa (row fB ea) (row fMove la) f0 f1, sMach sb (row fB eb) (row fMove lb) f2 f3, I x, I y] = some ⟨[B (fAtV ea eb la lb x y)], [], none⟩ := by
 obtain ⟨T, hT⟩ := nm (fAtV ea eb la lb x y)
 rw [← hT]
 have kx := fun d => ok367 sa ea la x d (by have := ha.ll; omega) (f0 := .sp 0 1) (f1 := .sp 0 2) rfl rfl
 have ky := fun d => ok367 sb eb lb y d (by have := hb.ll; omega) (f0 := .sp 0 1) (f1 := .sp 0 2) rfl rfl
 have kex := ok370 sa ea la x (by have := ha.le; omega) (f0 := .sp 0 1) (f1 := .sp 0 2) rfl rfl
 have key := ok370 sb eb lb y (by have := hb.le; omega) (f0 := .sp 0 1) (f1 := .sp 0 2) rfl rfl
 have nx : ∀ d, (mvS la x d).length ≤ 12 := fun d => Nat.le_trans mvS_len ha.ll
 have ny : ∀ d, (mvS lb y d).length ≤ 12 := fun d => Nat.le_trans mvS_len hb.ll
 have w1 := ok369 (mvS lb y false) (mvS la x false) (by have := ny false; omega) (by have := nx false; omega) (f0 := .sp 0 0) (f1 := .sp 1 0) rfl rfl
 have w2 := ok369 (mvS la x true) (mvS lb y true) (by have := nx true; omega) (by have := ny true; omega) (f0 := .sp 0 0) (f1 := .sp 1 0) rfl rfl
 have kxt := kx true
 have kxf := kx false
 have kyt := ky true
 have kyf := ky false
 clear kx ky nx ny
 generalize hr : (⟨_, [], none⟩ : Ret) = r
 obtain ⟨e1, he1⟩ := nm (row fMove la)
 obtain ⟨e2, he2⟩ := nm (row fB ea)
 obtain ⟨e3, he3⟩ := nm (row fMove lb)
 obtain ⟨e4, he4⟩ := nm (row fB eb)
 obtain ⟨ns, hns⟩ := nm (row fI (mvS la x true))
 obtain ⟨nr, hnr⟩ := nm (row fI (mvS la x false))
 obtain ⟨os, hos⟩ := nm (row fI (mvS lb y true))
 obtain ⟨or', hor'⟩ := nm (row fI (mvS lb y false))
 rw [← he1, ← he2] at kxt kxf kex
 rw [← he3, ← he4] at kyt kyf key
 rw [← hns] at kxt
 rw [← hnr] at kxf
 rw [← hos] at kyt
 rw [← hor'] at kyf
 rw [← hnr, ← hor'] at w1
 rw [← hns, ← hos] at w2
 rw [← he1, ← he2, ← he3, ← he4]
 obtain ⟨b1, hb1⟩ := nm ((mvS lb y false).all (hasI (mvS la x false)))
 obtain ⟨b2, hb2⟩ := nm ((mvS la x true).all (hasI (mvS lb y true)))
 obtain ⟨b3, hb3⟩ := nm (decide (0 < (mvS lb y true).length))
 obtain ⟨b4, hb4⟩ := nm (decide (0 < (mvS la x true).length))
 obtain ⟨b5, hb5⟩ := nm (decide ((mvS lb y false).length = 0))
 obtain ⟨b6, hb6⟩ := nm (decide (0 < (mvS la x false).length))
 obtain ⟨b7, hb7⟩ := nm (endOf ea x)
 obtain ⟨b8, hb8⟩ := nm (endOf eb y)
 obtain ⟨b9, hb9⟩ := nm (b3 == b4)
 rw [fAt_S] at hT
 rw [← hb1, ← hb2, ← hb3, ← hb4, ← hb5, ← hb6, ← hb7, ← hb8, ← hb9] at hT
 rw [← hb1] at w1
 rw [← hb2] at w2
 rw [← hb7] at kex
 rw [← hb8] at key
 have fin : ∀ v, T = v → some (⟨[B v], [], none⟩ : Ret) = some r := fun v e => by rw [← e, hr]
 refine fix_fn2 (fn := ir328) tb_328 rfl rfl (by decide) rfl ?_; intro Q hQ; simp only [shutArgs, shutS, List.map_cons, List.map_nil, ir328, shut_in h0, shut_in h1, shut_in h2, shut_in h3, List.head?_nil, reduceCtorEq, if_false, sExt, sHello, sAnswer, sEdit, sDeal, sBox, sDialed, sKnown, sMach, sMove]
 intro add sub mul arith eq ne lt le gt ge neg conv mn mx not beq len at' ln bd cut app allS isNil mks set o hP F ho
 rw [← ho] at kxt kxf kyt kyf kex key w1 w2
 have g3 : gt (len os) 0 = b3 := by rw [F.gt, show len os = _ from F.len_at hos, hb3]; simp
 have g4 : gt (len ns) 0 = b4 := by rw [F.gt, show len ns = _ from F.len_at hns, hb4]; simp
 have g5 : eq (len or') 0 = b5 := by rw [F.eq, show len or' = _ from F.len_at hor', hb5]; simp
 have g6 : gt (len nr) 0 = b6 := by rw [F.gt, show len nr = _ from F.len_at hnr, hb6]; simp
 have g9 : beq b3 b4 = b9 := by rw [F.beq, hb9]
 have gn : ∀ b, not b = !b := F.not
 clear hb1 hb2 hb3 hb4 hb5 hb6 hb7 hb8 hb9
 cbv
 rw [kxt]; cbv
 rw [kyt]; cbv
 rw [kxf]; cbv
 rw [kyf]; cbv
 rw [w1]; cbv
 rw [gn]
 cases b1
 ·cbv
  rw [hQ]; cbv
  exact fin _ (by rw [hT]; rfl)
 cbv
 rw [w2]; cbv
 rw [gn]
 cases b2
 ·cbv
  rw [hQ]; cbv
  exact fin _ (by rw [hT]; rfl)
 cbv
 rw [g3, g4, g9, gn]
 cases b9
 ·cbv
  rw [hQ]; cbv
  exact fin _ (by rw [hT]; rfl)
 cbv
 rw [g5]
 cases b5
 ·cbv
  rw [key]; cbv
  rw [gn]
  cases b8
  ·cbv
   rw [hQ]; cbv
   exact fin _ (by rw [hT]; rfl)
  ·cbv
   rw [kex]; cbv
   rw [hQ]; cbv
   exact fin _ (by rw [hT]; cases b7 <;> rfl)
 cbv
 rw [g6]
 cases b6
 ·cbv
  rw [key]; cbv
  rw [gn]
  cases b8
  ·cbv
   rw [hQ]; cbv
   exact fin _ (by rw [hT]; rfl)
  ·cbv
   rw [kex]; cbv
   rw [hQ]; cbv
   exact fin _ (by rw [hT]; cases b7 <;> rfl)
 ·cbv
  rw [hQ]; cbv
  exact fin _ (by rw [hT]; rfl)
theorem ok228 (a b : List Int) (hl : a.length ≤ 1099511627776) {f0 f1 : Fl} (h0 : inFl f0 = true) (h1 : inFl f1 = true) : fix Tb md 228 [R (row fI a) f0, R (row fI b) f1] = some ⟨[B (decide (a = b))], [], none⟩ := by
 refine fix_fn (fn := ir228) tb_228 rfl rfl (by decide) rfl ?_; simp only [shutArgs, shutS, List.map_cons, List.map_nil, ir228, shut_in h0, shut_in h1, List.head?_nil, reduceCtorEq, if_false, sExt, sHello, sAnswer, sEdit, sDeal, sBox, sDialed, sKnown]
 generalize hr : (⟨_, [], none⟩ : Ret) = r
 obtain ⟨ea, hea⟩ := nm (row fI a)
 obtain ⟨eb, heb⟩ := nm (row fI b)
 rw [← hea, ← heb]
 intro add sub mul arith eq ne lt le gt ge neg conv mn mx not beq len at' ln bd cut app allS isNil mks set o hP F ho
 have la := F.len_at hea
 have lb := F.len_at heb
 cbv
 by_cases hab : a.length = b.length
 ·rw [F.ne_f (by unfold At at la lb; omega)]; cbv
  refine loop_ind hP (σ := List Int × List Int × List Int × Int) (fun s => [(0, R ea .sh), (1, R eb .sh), (4, B false), (5, I s.2.2.2)]) (fun s => At s.2.2.2 s.1.length ∧ a = s.1 ++ s.2.1 ∧ b = s.1 ++ s.2.2.1) (fun s => s.2.1.length) ([], a, b, 0) rfl ⟨rfl, rfl, rfl⟩ ?_
  rintro ⟨pre, sa, sb, i⟩ ⟨hi, ha, hb⟩ ih
  simp only at hi ha hb ih
  cbv
  have hlen : sa.length = sb.length := by simp [ha, hb] at hab; exact hab
  match sa, sb, hlen, ha, hb with
  | [], [], _, ha, hb =>
   rw [F.lt_f hi la (by simp [ha])]; cbv
   rw [← hr]; simp [ha, hb]
  | x :: sa, y :: sb, _, ha, hb =>
   rw [F.lt_t hi la (by simp [ha])]; cbv
   obtain ⟨ix, hix⟩ := nm (pre.length * 1)
   rw [show at' 1 ea i = some (ix, [.int .i64 x]) by rw [hix]; exact F.get hi hea ha (fun _ => rfl) (by decide)]; cbv
   rw [show at' 1 eb i = some (ix, [.int .i64 y]) by rw [hix]; exact F.get hi heb hb (fun _ => rfl) (by decide)]; cbv
   by_cases hxy : x = y
   ·rw [F.ne_f hxy]; cbv
    refine ih (pre ++ [x], sa, sb, add .i64 i 1) ⟨at_len (F.inc hi (by simp [ha] at hl; omega)) (by simp), by simp [ha], by simp [hb, hxy]⟩ (by simp)
   ·rw [F.ne_t hxy]; cbv
    rw [← hr]; simp [ha, hb, hxy]
 ·rw [F.ne_t (by unfold At at la lb; omega)]; cbv
  rw [← hr]
  simp
  intro e; exact hab (by rw [e])
theorem ok368 (L : List (List Int)) (p : List Int) (hL : L.length ≤ 1073741824) (hp : ∀ q ∈ L, q.length ≤ 1073741824) {f0 f1 : Fl} (h0 : inFl f0 = true) (h1 : inFl f1 = true) : fix Tb md 368 [R (row fR L) f0, R (row fI p) f1] = some ⟨[B (L.any fun q => decide (q = p))], [], none⟩ := by
 obtain ⟨T, hT⟩ := nm (L.any fun q => decide (q = p))
 rw [← hT]
 have k := fun q (hq : q ∈ L) => ok228 q p (by have := hp q hq; omega) (f0 := .sp 0 0) (f1 := .sp 1 0) rfl rfl
 generalize hr : (⟨_, [], none⟩ : Ret) = r
 obtain ⟨ea, hea⟩ := nm (row fR L)
 obtain ⟨eb, heb⟩ := nm (row fI p)
 rw [← heb] at k
 rw [← hea, ← heb]
 have fin : ∀ v, T = v → some (⟨[B v], [], none⟩ : Ret) = some r := fun v e => by rw [← e, hr]
 refine fix_fn2 (fn := ir368) tb_368 rfl rfl (by decide) rfl ?_; intro Q hQ; simp only [shutArgs, shutS, List.map_cons, List.map_nil, ir368, shut_in h0, shut_in h1, List.head?_nil, reduceCtorEq, if_false, sExt, sHello, sAnswer, sEdit, sDeal, sBox, sDialed, sKnown]
 intro add sub mul arith eq ne lt le gt ge neg conv mn mx not beq len at' ln bd cut app allS isNil mks set o hP F ho
 rw [← ho] at k
 have la := F.len_at hea
 cbv
 refine loop_ind2 hP (σ := List (List Int) × List (List Int) × Int) (fun s => [(0, R ea .sh), (1, R eb .sh), (4, B false), (5, I s.2.2)]) (fun s => At s.2.2 s.2.1.length ∧ L = s.2.1 ++ s.1 ∧ s.1.any (fun q => decide (q = p)) = T) (fun s => s.1.length) (L, [], 0) rfl ⟨rfl, rfl, hT.symm⟩ ?_
 intro c9 Q1 hc9 hQ1
 rintro ⟨suf, pre, i⟩ ⟨hi, hl', hb⟩ ih
 simp only at hi hl' hb ih
 cbv
 cases suf with
 | nil =>
  rw [F.lt_f hi la (by simp [hl'])]; cbv
  rw [hQ1]; cbv
  rw [hQ]; cbv
  exact fin _ (by rw [← hb]; rfl)
 | cons q suf =>
  obtain ⟨ix, hix⟩ := nm (pre.length * 1)
  obtain ⟨eq', heq'⟩ := nm (row fI q)
  have kq := k q (by rw [hl']; simp)
  obtain ⟨v, hv⟩ := nm (decide (q = p))
  rw [← heq', ← hv] at kq
  rw [List.any_cons, ← hv] at hb
  have hpre : pre.length ≤ 1073741824 := by rw [hl'] at hL; simp at hL; omega
  rw [F.lt_t hi la (by simp [hl'])]; cbv
  rw [show at' 1 ea i = some (ix, [.row () eq']) by rw [hix, heq']; exact F.get hi hea hl' (fun _ => rfl) (by decide)]; cbv
  rw [kq]; cbv
  refine both (fun d => ?_) (fun d => ?_) <;> rw [d] at hb <;> rw [d] <;> cbv
  ·rw [hQ1]; cbv
   rw [hQ]; cbv
   exact fin _ (by rw [← hb]; rfl)
  ·exact ih (suf, pre ++ [q], add .i64 i 1) ⟨at_len (F.inc hi (by omega)) (by simp), by simp [hl'], by simpa using hb⟩ (by simp)
end Go.Vm
