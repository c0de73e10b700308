/- What the functions answer. -/
import Derived.Test.YtmojgceacpclpaaGLTab
import Derived.Test.YtmojgceacpclpaaGLFA
import Derived.Test.YtmojgceacpclpaaGLFD
import Derived.Test.YtmojgceacpclpaaGLFE
import Derived.Test.YtmojgceacpclpaaGLFF
import Derived.Test.YtmojgceacpclpaaGLFI
import Derived.Test.YtmojgceacpclpaaGLFJ
set_option maxHeartbeats 4000000
set_option maxRecDepth 10000
set_option linter.unusedVariables false
set_option linter.unusedSimpArgs false
namespace Go.Vm
abbrev vMach (st : Int) (e m : List (List V)) : V := .ptr () [.int .i64 st, .row () e, .row () m]
theorem ok332 (sa sb : Int) (ea eb : List Bool) (la lb : List Move) (x y : Int) (ha : Mc ea la) (hb : Mc eb lb) : fix Tb md 332 [I x, I y, ⟨.val, [⟨vMach sa (row fB ea) (row fMove la), .sh⟩]⟩, ⟨.val, [⟨vMach sb (row fB eb) (row fMove lb), .sh⟩]⟩] = some ⟨[R (row fR (nxV id la lb x y)) (.ow false)], [], none⟩ := by
 have k := ok333 sa sb ea eb la lb x y ha hb (f0 := .sp 0 1) (f1 := .sp 0 2) (f2 := .sp 1 1) (f3 := .sp 1 2) rfl rfl rfl rfl
 obtain ⟨T, hT⟩ := nm (row fR (nxV id la lb x y))
 rw [← hT] at k ⊢
 generalize hr : (⟨_, [], none⟩ : Ret) = r
 obtain ⟨e1, he1⟩ := nm (row fMove la)
 obtain ⟨e2, he2⟩ := nm (row fB ea)
 obtain ⟨e3, he3⟩ := nm (row fMove lb)
 obtain ⟨e4, he4⟩ := nm (row fB eb)
 rw [← he1, ← he2, ← he3, ← he4] at k ⊢
 refine fix_fn2 (fn := ir332) tb_332 rfl rfl (by decide) rfl ?_; intro Q hQ; simp only [shutArgs, shutS, List.map_cons, List.map_nil, ir332, List.head?_nil, reduceCtorEq, if_false, sExt, sHello, sAnswer, sEdit, sDeal, sBox, sDialed, sKnown]
 intro add sub mul arith eq ne lt le gt ge neg conv mn mx not beq len at' ln bd cut app allS isNil mks set o hP F ho
 rw [← ho] at k
 cbv
 rw [k]; cbv
 rw [hQ]; cbv
 exact congrArg some hr
theorem nx_pr {f : Bool → Bool} {ea eb : List Bool} {la lb : List Move} (ha : Mc ea la) (hb : Mc eb lb) (x y : Int) : ∀ p ∈ nxV f la lb x y, isPr p := fun p hp => by
 obtain ⟨d, m, s, t, rfl, ⟨z, hz, _, _, _, z1⟩, ⟨w, hw, _, _, _, w1⟩⟩ := (nxV_mem ha.ok hb.ok).1 hp
 have h1 := ha.dst z hz
 have h2 := hb.dst w hw
 exact ⟨s, t, rfl, by omega, by omega, by omega, by omega⟩
theorem ok219 (sa sb : Int) (ea eb : List Bool) (la lb : List Move) (ma : mchO sa ea la = true) (mb : mchO sb eb lb = true) {f0 f1 f2 f3 : Fl} (h0 : inFl f0 = true) (h1 : inFl f1 = true) (h2 : inFl f2 = true) (h3 : inFl f3 = true) :
  ∃ r, fix Tb md 219 [sMach sa (row fB ea) (row fMove la) f0 f1, sMach sb (row fB eb) (row fMove lb) f2 f3] = some r ∧ ∃ L f, r = ⟨[R (row fR L) f], [], none⟩ ∧ (f = .ow false ∨ f = .os false) ∧ Rch (nxV id la lb) L := by
 have ha := mch_mc ma
 have hb := mch_mc mb
 have ka := ok214 sa ea la (by have := ha.le; omega) (by have := ha.ll; omega) (f0 := .sp 0 1) (f1 := .sp 0 2) rfl rfl
 have kb := ok214 sb eb lb (by have := hb.le; omega) (by have := hb.ll; omega) (f0 := .sp 0 1) (f1 := .sp 0 2) rfl rfl
 rw [ma] at ka
 rw [mb] at kb
 obtain ⟨_, k, L, f, rfl, hf, hL⟩ := ok331 332 rfl (vMach sa (row fB ea) (row fMove la)) (vMach sb (row fB eb) (row fMove lb)) (nxV id la lb) (fun x y => ok332 sa sb ea eb la lb x y ha hb) (nx_pr ha hb) (fun x y => Nat.le_trans (nxV_len ha.ll hb.ll) (by decide))
 obtain ⟨e1, he1⟩ := nm (row fMove la)
 obtain ⟨e2, he2⟩ := nm (row fB ea)
 obtain ⟨e3, he3⟩ := nm (row fMove lb)
 obtain ⟨e4, he4⟩ := nm (row fB eb)
 rw [← he1, ← he2, ← he3, ← he4] at k ⊢
 rw [← he1, ← he2] at ka
 rw [← he3, ← he4] at kb
 obtain ⟨el, hel⟩ := nm (row fR L)
 rw [← hel] at k
 refine fix_fnE (fn := ir219) tb_219 rfl rfl (by decide) rfl ?_; intro Q W hW hQ; simp only [shutArgs, shutS, List.map_cons, List.map_nil, ir219, shut_in h0, shut_in h1, shut_in h2, shut_in h3, List.head?_nil, reduceCtorEq, if_false, sMach] at hQ ⊢
 have hW' : ∀ f, (f = .ow false ∨ f = .os false) → W (some ⟨[R el f], [], none⟩) := fun f hf => hW _ ⟨L, f, by rw [hel], hf, hL⟩
 clear hW
 intro add sub mul arith eq ne lt le gt ge neg conv mn mx not beq len at' ln bd cut app allS isNil mks set o hP F ho
 rw [← ho] at ka kb k
 have g1 : not true = false := by rw [F.not]; rfl
 rcases hf with rfl | rfl
 all_goals
  cbv
  rw [ka]; cbv
  rw [g1]; cbv
  rw [kb]; cbv
  rw [g1]; cbv
  rw [k]; cbv
  rw [hQ]; cbv
  first
  | exact hW' _ (.inl rfl)
  | exact hW' _ (.inr rfl)
theorem hasI_ix (l : List Int) (n : Int) : decide (0 ≤ ixOf (fun y => decide (y = n)) l 0) = hasI l n := ixOf_ge _ l 0 (by decide)
theorem ok354 (l : List Int) (n : Int) (hl : l.length ≤ 1099511627776) {f0 : Fl} (h0 : inFl f0 = true) : fix Tb md 354 [R (row fI l) f0, I n] = some ⟨[I (ixOf (fun y => decide (y = n)) l 0)], [], none⟩ := by
 obtain ⟨T, hT⟩ := nm (ixOf (fun y => decide (y = n)) l 0)
 rw [← hT]
 generalize hr : (⟨_, [], none⟩ : Ret) = r
 obtain ⟨ea, hea⟩ := nm (row fI l)
 rw [← hea]
 refine fix_fn2 (fn := ir354) tb_354 rfl rfl (by decide) rfl ?_; intro Q hQ; simp only [shutArgs, shutS, List.map_cons, List.map_nil, ir354, shut_in h0, List.head?_nil, reduceCtorEq, if_false, sExt, sHello, sAnswer, sEdit, sDeal, sBox, sDialed, sKnown]
 intro add sub mul arith eq ne lt le gt ge neg conv mn mx not beq len at' ln bd cut app allS isNil mks set o hP F ho
 have la := F.len_at hea
 cbv
 refine loop_ind2 hP (σ := List Int × List Int × Int × Option Int) (fun s => match s.2.2.2 with | none => [(0, R ea .sh), (1, I n), (4, I 0), (7, I (len ea)), (8, I s.2.2.1)] | some j => [(0, R ea .sh), (1, I n), (4, I 0), (5, I j), (7, I (len ea)), (8, I s.2.2.1)]) (fun s => At s.2.2.1 s.2.1.length ∧ l = s.2.1 ++ s.1 ∧ ixOf (fun y => decide (y = n)) s.1 s.2.2.1 = T) (fun s => s.1.length) (l, [], 0, none) rfl ⟨rfl, rfl, hT.symm⟩ ?_
 intro c1 Q1 hc1 hQ1
 rintro ⟨suf, pre, i, j⟩ ⟨hi, hl', hb⟩ ih
 simp only at hi hl' hb ih
 have hpre : pre.length ≤ 1099511627776 := by rw [hl'] at hl; simp at hl; omega
 rcases j with _ | _
 all_goals
  cbv
  cases suf with
  | nil =>
   rw [F.lt_f hi la (by simp [hl'])]; cbv
   rw [hQ1]; cbv
   rw [hQ]; cbv
   rw [← hr, ← hb]; rfl
  | cons x suf =>
   obtain ⟨v, hv⟩ := nm (decide (x = n))
   have hb' : T = if v = true then i else ixOf (fun y => decide (y = n)) suf (i + 1) := by rw [← hb, hv]; rfl
   have hinc : add .i64 i 1 = i + 1 := by unfold At at hi; rw [F.add, hi, wrap64 (by omega) (by omega)]
   obtain ⟨ix, hix⟩ := nm (pre.length * 1)
   rw [F.lt_t hi la (by simp [hl'])]; cbv
   rw [show at' 1 ea i = some (ix, [.int .i64 x]) by rw [hix]; exact F.get hi hea hl' (fun _ => rfl) (by decide)]; cbv
   rw [show eq n x = v by rw [F.eq, hv]; exact decide_eq_decide.2 eq_comm]; cbv
   refine both (fun d => ?_) (fun d => ?_) <;> rw [d] <;> cbv
   ·rw [hQ1]; cbv
    rw [hQ]; cbv
    rw [← hr, hb', if_pos d]
   ·refine ih (suf, pre ++ [x], add .i64 i 1, some i) ⟨at_len (F.inc hi (by omega)) (by simp), by simp [hl'], ?_⟩ (by simp)
    rw [hb', if_neg (by rw [d]; decide), hinc]
theorem ok302 (l : List Int) (n : Int) (hl : l.length ≤ 1099511627776) {f0 : Fl} (h0 : inFl f0 = true) : fix Tb md 302 [R (row fI l) f0, I n] = some ⟨[B (hasI l n)], [], none⟩ := by
 rw [← hasI_ix]
 obtain ⟨v, hv⟩ := nm (ixOf (fun y => decide (y = n)) l 0)
 rw [← hv]
 generalize hr : (⟨_, [], none⟩ : Ret) = r
 obtain ⟨ea, hea⟩ := nm (row fI l)
 rw [← hea]
 refine fix_fn2 (fn := ir302) tb_302 rfl rfl (by decide) rfl ?_; intro Q hQ; simp only [shutArgs, shutS, List.map_cons, List.map_nil, ir302, shut_in h0, List.head?_nil, reduceCtorEq, if_false, sExt, sHello, sAnswer, sEdit, sDeal, sBox, sDialed, sKnown]
 intro add sub mul arith eq ne lt le gt ge neg conv mn mx not beq len at' ln bd cut app allS isNil mks set o hP F ho
 have c1 : o 354 [R ea (.sp 0 0), I n] = some ⟨[I v], [], none⟩ := by rw [ho, hv, hea]; exact ok354 _ _ hl rfl
 cbv
 rw [c1]; cbv
 rw [hQ]; cbv
 rw [← hr, F.ge]
theorem ok287 (l b : List Int) (hl : l.length ≤ 1073741824) (hb' : b.length ≤ 1073741824) {f0 f1 : Fl} (h0 : inFl f0 = true) (h1 : inFl f1 = true) : fix Tb md 287 [R (row fI l) f0, R (row fI b) f1] = some ⟨[R (row fI (sel (notIn b) idI l)) (.ow false)], [], none⟩ := by
 obtain ⟨et, het⟩ := nm (row fI (sel (notIn b) idI l))
 rw [← het]
 generalize hr : (⟨_, [], none⟩ : Ret) = r
 obtain ⟨ea, hea⟩ := nm (row fI l)
 obtain ⟨eb, heb⟩ := nm (row fI b)
 rw [← hea, ← heb]
 refine fix_fn2 (fn := ir287) tb_287 rfl rfl (by decide) rfl ?_; intro Q hQ; simp only [shutArgs, shutS, List.map_cons, List.map_nil, ir287, shut_in h0, shut_in h1, List.head?_nil, reduceCtorEq, if_false, sExt, sHello, sAnswer, sEdit, sDeal, sBox, sDialed, sKnown]
 intro add sub mul arith eq ne lt le gt ge neg conv mn mx not beq len at' ln bd cut app allS isNil mks set o hP F ho
 have la := F.len_at hea
 cbv
 refine loop_ind2 hP (σ := List Int × List Int × List (List V) × Int × Option (Int)) (fun s => match s.2.2.2.2 with | none => [(0, R ea .sh), (1, R eb .sh), (4, R [] .nl), (5, R s.2.2.1 (.ow false)), (9, R ea .sh), (10, I (len ea)), (11, I s.2.2.2.1)] | some j => [(0, R ea .sh), (1, R eb .sh), (4, R [] .nl), (5, R s.2.2.1 (.ow false)), (7, I j), (9, R ea .sh), (10, I (len ea)), (11, I s.2.2.2.1)]) (fun s => At s.2.2.2.1 s.2.1.length ∧ l = s.2.1 ++ s.1 ∧ s.2.2.1 = row fI (sel (notIn b) idI s.2.1)) (fun s => s.1.length) (l, [], [], 0, none) rfl ⟨rfl, rfl, rfl⟩ ?_
 intro c1 Q1 hc1 hQ1
 rintro ⟨suf, pre, eo, i, j⟩ ⟨hi, hl', hb⟩ ih
 simp only at hi hl' hb ih
 rcases j with _ | _
 all_goals
  cbv
  cases suf with
  | nil =>
   rw [F.lt_f hi la (by simp [hl'])]; cbv
   rw [hQ1]; cbv
   rw [hQ]; cbv
   rw [← hr, het, hb, hl', List.append_nil]
  | cons x suf =>
   obtain ⟨ix, hix⟩ := nm (pre.length * 1)
   have hpre : pre.length ≤ 1073741824 := by rw [hl'] at hl; simp at hl; omega
   have hs : (sel (notIn b) idI pre).length ≤ pre.length := sel_len
   have hi' : At (add .i64 i 1) (pre ++ [x]).length := at_len (F.inc hi (by omega)) (by simp)
   have hl2 : l = (pre ++ [x]) ++ suf := by rw [hl']; simp
   have hmem : x ∈ l := by rw [hl']; simp
   have p0 : at' 1 ea i = some (ix, [.int .i64 x]) := by rw [hix]; exact F.get hi hea hl' (fun _ => rfl) (by decide)
   obtain ⟨v, hv⟩ := nm (hasI b x)
   have hP : notIn b x = !v := by rw [hv]; rfl
   have c2 : o 302 [R eb (.sp 0 0), I x] = some ⟨[B v], [], none⟩ := by rw [ho, hv, heb]; exact ok302 _ _ (by omega) rfl
   rw [F.lt_t hi la (by simp [hl'])]; cbv
   rw [p0]; cbv
   rw [c2]; cbv
   refine both (fun d => ?_) (fun d => ?_) <;> rw [d] <;> cbv
   ·rw [show allS [[.int .i64 x]] = true by rw [F.allS]; rfl]; cbv
    obtain ⟨eo', heo'⟩ := nm (row fI (sel (notIn b) idI pre ++ [idI x]))
    rw [show app 1 eo [[.int .i64 x]] = some eo' by rw [heo']; exact F.push hb (fun _ => rfl) rfl (by omega)]; cbv
    refine ih (suf, pre ++ [x], eo', add .i64 i 1, some x) ⟨hi', hl2, by simp only; rw [heo', sel_t (by rw [hP, F.not_t d]; rfl)]⟩ (by simp)
   ·refine ih (suf, pre ++ [x], eo, add .i64 i 1, some x) ⟨hi', hl2, by simp only; rw [hb, sel_f (by rw [hP, F.not_f d]; rfl)]⟩ (by simp)
def lack (a b : List Int) : Bool := decide (0 < (sel (notIn b) idI a).length)
def fAtV (ea eb : List Bool) (la lb : List Move) (x y : Int) : Bool :=
 !(lack (sortI (mvs lb y false)) (sortI (mvs la x false)) || lack (sortI (mvs la x true)) (sortI (mvs lb y true))) &&
 (!(!(decide (0 < (sortI (mvs lb y true)).length) == decide (0 < (sortI (mvs la x true)).length)) || (decide ((sortI (mvs lb y false)).length = 0) && decide (0 < (sortI (mvs la x false)).length))) &&
 (endOf ea x || !endOf eb y))
theorem ok220 (sa sb : Int) (ea eb : List Bool) (la lb : List Move) (x y : Int) (ha : Mc ea la) (hb : Mc eb lb) {f0 f1 f2 f3 : Fl} (h0 : inFl f0 = true) (h1 : inFl f1 = true) (h2 : inFl f2 = true) (h3 : inFl f3 = true) :
  fix Tb md 220 [sMach sa (row fB ea) (row fMove la) f0 f1, sMach sb (row fB eb) (row fMove lb) f2 f3, I x, I y] = some ⟨[B (fAtV ea eb la lb x y)], [], none⟩ := by
 obtain ⟨T, hT⟩ := nm (fAtV ea eb la lb x y)
 rw [← hT]
 have kx := fun d => ha.k334 (st := sa) x d (f0 := .sp 0 1) (f1 := .sp 0 2) rfl rfl
 have ky := fun d => hb.k334 (st := sb) y d (f0 := .sp 0 1) (f1 := .sp 0 2) rfl rfl
 have kex := ok335 sa ea la x (by have := ha.le; omega) (f0 := .sp 0 1) (f1 := .sp 0 2) rfl rfl
 have key := ok335 sb eb lb y (by have := hb.le; omega) (f0 := .sp 0 1) (f1 := .sp 0 2) rfl rfl
 have nx : ∀ d, (sortI (mvs la x d)).length ≤ 12 := fun d => by rw [sortI_len]; exact Nat.le_trans mvs_len ha.ll
 have ny : ∀ d, (sortI (mvs lb y d)).length ≤ 12 := fun d => by rw [sortI_len]; exact Nat.le_trans mvs_len hb.ll
 have w1 := ok287 (sortI (mvs lb y false)) (sortI (mvs la x false)) (by have := ny false; omega) (by have := nx false; omega) (f0 := .sp 0 0) (f1 := .sp 1 0) rfl rfl
 have w2 := ok287 (sortI (mvs la x true)) (sortI (mvs lb y true)) (by have := nx true; omega) (by have := ny true; omega) (f0 := .sp 0 0) (f1 := .sp 1 0) rfl rfl
 have kxt := kx true
 have kxf := kx false
 have kyt := ky true
 have kyf := ky false
 clear kx ky nx ny
 generalize hr : (⟨_, [], none⟩ : Ret) = r
 obtain ⟨e1, he1⟩ := nm (row fMove la)
 obtain ⟨e2, he2⟩ := nm (row fB ea)
 obtain ⟨e3, he3⟩ := nm (row fMove lb)
 obtain ⟨e4, he4⟩ := nm (row fB eb)
 obtain ⟨ns, hns⟩ := nm (row fI (sortI (mvs la x true)))
 obtain ⟨nr, hnr⟩ := nm (row fI (sortI (mvs la x false)))
 obtain ⟨os, hos⟩ := nm (row fI (sortI (mvs lb y true)))
 obtain ⟨or', hor'⟩ := nm (row fI (sortI (mvs lb y false)))
 obtain ⟨l1, hl1⟩ := nm (row fI (sel (notIn (sortI (mvs la x false))) idI (sortI (mvs lb y false))))
 obtain ⟨l2, hl2⟩ := nm (row fI (sel (notIn (sortI (mvs lb y true))) idI (sortI (mvs la x true))))
 rw [← he1, ← he2] at kxt kxf kex
 rw [← he3, ← he4] at kyt kyf key
 rw [← hns] at kxt
 rw [← hnr] at kxf
 rw [← hos] at kyt
 rw [← hor'] at kyf
 rw [← hl1, ← hnr, ← hor'] at w1
 rw [← hl2, ← hns, ← hos] at w2
 rw [← he1, ← he2, ← he3, ← he4]
 obtain ⟨b1, hb1⟩ := nm (lack (sortI (mvs lb y false)) (sortI (mvs la x false)))
 obtain ⟨b2, hb2⟩ := nm (lack (sortI (mvs la x true)) (sortI (mvs lb y true)))
 obtain ⟨b3, hb3⟩ := nm (decide (0 < (sortI (mvs lb y true)).length))
 obtain ⟨b4, hb4⟩ := nm (decide (0 < (sortI (mvs la x true)).length))
 obtain ⟨b5, hb5⟩ := nm (decide ((sortI (mvs lb y false)).length = 0))
 obtain ⟨b6, hb6⟩ := nm (decide (0 < (sortI (mvs la x false)).length))
 obtain ⟨b7, hb7⟩ := nm (endOf ea x)
 obtain ⟨b8, hb8⟩ := nm (endOf eb y)
 obtain ⟨b9, hb9⟩ := nm (b3 == b4)
 unfold fAtV at hT
 rw [← hb1, ← hb2, ← hb3, ← hb4, ← hb5, ← hb6, ← hb7, ← hb8, ← hb9] at hT
 rw [← hb7] at kex
 rw [← hb8] at key
 have fin : ∀ v, T = v → some (⟨[B v], [], none⟩ : Ret) = some r := fun v e => by rw [← e, hr]
 refine fix_fn2 (fn := ir220) tb_220 rfl rfl (by decide) rfl ?_; intro Q hQ; simp only [shutArgs, shutS, List.map_cons, List.map_nil, ir220, shut_in h0, shut_in h1, shut_in h2, shut_in h3, List.head?_nil, reduceCtorEq, if_false, sExt, sHello, sAnswer, sEdit, sDeal, sBox, sDialed, sKnown, sMach, sMove]
 intro add sub mul arith eq ne lt le gt ge neg conv mn mx not beq len at' ln bd cut app allS isNil mks set o hP F ho
 rw [← ho] at kxt kxf kyt kyf kex key w1 w2
 have g1 : gt (len l1) 0 = b1 := by rw [F.gt, show len l1 = _ from F.len_at hl1, hb1]; unfold lack; simp
 have g2 : gt (len l2) 0 = b2 := by rw [F.gt, show len l2 = _ from F.len_at hl2, hb2]; unfold lack; simp
 have g3 : gt (len os) 0 = b3 := by rw [F.gt, show len os = _ from F.len_at hos, hb3]; simp
 have g4 : gt (len ns) 0 = b4 := by rw [F.gt, show len ns = _ from F.len_at hns, hb4]; simp
 have g5 : eq (len or') 0 = b5 := by rw [F.eq, show len or' = _ from F.len_at hor', hb5]; simp
 have g6 : gt (len nr) 0 = b6 := by rw [F.gt, show len nr = _ from F.len_at hnr, hb6]; simp
 have g9 : beq b3 b4 = b9 := by rw [F.beq, hb9]
 have gn : ∀ b, not b = !b := F.not
 clear hb1 hb2 hb3 hb4 hb5 hb6 hb7 hb8 hb9
 cbv
 rw [kxt]; cbv
 rw [kxf]; cbv
 rw [kyt]; cbv
 rw [kyf]; cbv
 rw [w1]; cbv
 rw [g1]
 refine both (fun d => ?_) (fun d => ?_) <;> rw [d] at hT ⊢ <;> cbv
 ·rw [hQ]; cbv
  exact fin _ (by rw [hT]; rfl)
 rw [w2]; cbv
 rw [g2]
 refine both (fun d => ?_) (fun d => ?_) <;> rw [d] at hT ⊢ <;> cbv
 ·rw [hQ]; cbv
  exact fin _ (by rw [hT]; rfl)
 rw [g3, g4, g9, gn]
 cases b9
 ·cbv
  rw [hQ]; cbv
  exact fin _ (by rw [hT]; rfl)
 cbv
 rw [g5]
 cases b5
 ·cbv
  rw [kex]; cbv
  cases b7
  ·cbv
   rw [key]; cbv
   rw [hQ, gn]; cbv
   exact fin _ (by rw [hT]; cases b8 <;> rfl)
  ·cbv
   rw [hQ]; cbv
   exact fin _ (by rw [hT]; rfl)
 cbv
 rw [g6]
 cases b6
 ·cbv
  rw [kex]; cbv
  cases b7
  ·cbv
   rw [key]; cbv
   rw [hQ, gn]; cbv
   exact fin _ (by rw [hT]; cases b8 <;> rfl)
  ·cbv
   rw [hQ]; cbv
   exact fin _ (by rw [hT]; rfl)
 ·cbv
  rw [hQ]; cbv
  exact fin _ (by rw [hT]; rfl)
open Classical in
noncomputable def folV (sa : Int) (ea : List Bool) (la : List Move) (sb : Int) (eb : List Bool) (lb : List Move) : Bool := mchO sa ea la && mchO sb eb lb && decide (∀ x y, Reach (nxV id la lb) [x, y] → fAtV ea eb la lb x y = true)
def flE (b : Bool) : Fl := match b with | true => .no | false => .fr
theorem flO_ex {f : Fl} (h : f = .ow false ∨ f = .os false) : ∃ b, f = flO b := by exact h.elim (fun e => ⟨false, e⟩) (fun e => ⟨true, e⟩)
def onP {α : Type} (f : Int → Int → α) (p : List Int) : α := f (p.getD 0 0) (p.getD 1 0)
open Classical in
theorem all_reach {N : Int → Int → List (List Int)} {L : List (List Int)} (h : Rch N L) (f : Int → Int → Bool) : L.all (onP f) = decide (∀ x y, Reach N [x, y] → f x y = true) := by
 rw [Bool.eq_iff_iff, List.all_eq_true, decide_eq_true_eq]
 constructor
 ·intro a x y hr
  exact a [x, y] (h.iff.2 hr)
 ·intro a p hp
  obtain ⟨x, y, rfl, _⟩ := h.pr p hp
  exact a x y (h.iff.1 hp)
theorem ok213 (sa sb : Int) (ea eb : List Bool) (la lb : List Move) (hea : ea.length ≤ 1073741824) (hla : la.length ≤ 1073741824) (heb : eb.length ≤ 1073741824) (hlb : lb.length ≤ 1073741824) {f0 f1 f2 f3 : Fl} (h0 : inFl f0 = true) (h1 : inFl f1 = true) (h2 : inFl f2 = true) (h3 : inFl f3 = true) :
  fix Tb md 213 [sMach sa (row fB ea) (row fMove la) f0 f1, sMach sb (row fB eb) (row fMove lb) f2 f3] = some ⟨[B (folV sa ea la sb eb lb)], [], none⟩ := by
 obtain ⟨T, hT⟩ := nm (folV sa ea la sb eb lb)
 rw [← hT]
 have ka := ok214 sa ea la hea hla (f0 := .sp 0 1) (f1 := .sp 0 2) rfl rfl
 have kb := ok214 sb eb lb heb hlb (f0 := .sp 0 1) (f1 := .sp 0 2) rfl rfl
 obtain ⟨ma, hma⟩ := nm (mchO sa ea la)
 obtain ⟨mb, hmb⟩ := nm (mchO sb eb lb)
 have hPP : ma = true → mb = true → ∃ L b, fix Tb md 219 [sMach sa (row fB ea) (row fMove la) (.sp 0 1) (.sp 0 2), sMach sb (row fB eb) (row fMove lb) (.sp 1 1) (.sp 1 2)] = some ⟨[R (row fR L) (flO b)], [], none⟩ ∧ Rch (nxV id la lb) L ∧ L.all (onP (fAtV ea eb la lb)) = T ∧
   ∀ x y, fix Tb md 220 [sMach sa (row fB ea) (row fMove la) (.sp 0 1) (.sp 0 2), sMach sb (row fB eb) (row fMove lb) (.sp 1 1) (.sp 1 2), I x, I y] = some ⟨[B (fAtV ea eb la lb x y)], [], none⟩ := fun qa qb => by
  rw [hma] at qa
  rw [hmb] at qb
  obtain ⟨_, k, L, f, rfl, hf, hL⟩ := ok219 sa sb ea eb la lb qa qb (f0 := .sp 0 1) (f1 := .sp 0 2) (f2 := .sp 1 1) (f3 := .sp 1 2) rfl rfl rfl rfl
  obtain ⟨b, rfl⟩ := flO_ex hf
  exact ⟨L, b, k, hL, by rw [all_reach hL, hT, folV, qa, qb]; rfl, fun x y => ok220 sa sb ea eb la lb x y (mch_mc qa) (mch_mc qb) rfl rfl rfl rfl⟩
 have hT1 : (ma && mb) = false → T = false := fun q => by rw [hT, folV, ← hma, ← hmb, q]; rfl
 rw [← hma] at ka
 rw [← hmb] at kb
 generalize hr : (⟨_, [], none⟩ : Ret) = r
 obtain ⟨e1, he1⟩ := nm (row fMove la)
 obtain ⟨e2, he2⟩ := nm (row fB ea)
 obtain ⟨e3, he3⟩ := nm (row fMove lb)
 obtain ⟨e4, he4⟩ := nm (row fB eb)
 rw [← he1, ← he2] at ka hPP
 rw [← he3, ← he4] at kb hPP
 rw [← he1, ← he2, ← he3, ← he4]
 have fin : ∀ v, T = v → some (⟨[B v], [], none⟩ : Ret) = some r := fun v e => by rw [← e, hr]
 clear hma hmb hT he1 he2 he3 he4
 refine fix_fn2 (fn := ir213) tb_213 rfl rfl (by decide) rfl ?_; intro Q hQ; simp only [shutArgs, shutS, List.map_cons, List.map_nil, ir213, shut_in h0, shut_in h1, shut_in h2, shut_in h3, List.head?_nil, reduceCtorEq, if_false, sExt, sHello, sAnswer, sEdit, sDeal, sBox, sDialed, sKnown, sMach, sMove]
 intro add sub mul arith eq ne lt le gt ge neg conv mn mx not beq len at' ln bd cut app allS isNil mks set o hP F ho
 rw [← ho] at ka kb hPP
 have gn : ∀ b, not b = !b := F.not
 cbv
 rw [ka]; cbv
 rw [gn]
 cases ma
 ·cbv
  rw [hQ]; cbv
  exact fin _ (hT1 rfl)
 cbv
 rw [kb]; cbv
 rw [gn]
 cases mb
 ·cbv
  rw [hQ]; cbv
  exact fin _ (hT1 rfl)
 cbv
 obtain ⟨L, bf, k1, hL, hTL, k2⟩ := hPP rfl rfl
 clear hPP hT1 ka kb
 obtain ⟨el, hel⟩ := nm (row fR L)
 rw [← hel] at k1
 have ll := F.len_at hel
 have pl := hL.len
 have p2 : ∀ a b, at' 1 [[.int .i64 a], [.int .i64 b]] 0 = some (0, [.int .i64 a]) := fun a b => by rw [F.at']; rfl
 have p3 : ∀ a b, at' 1 [[.int .i64 a], [.int .i64 b]] 1 = some (1, [.int .i64 b]) := fun a b => by rw [F.at']; rfl
 cases bf
 ·rw [k1]; cbv
  refine loop_ind2 hP (σ := List (List Int) × List (List Int) × Int × Option (List (List V))) (fun s => match s.2.2.2 with
   | none => [(0, sMach sa e2 e1 .sh .sh), (1, sMach sb e4 e3 .sh .sh), (2, ⟨.ptr 36 0, []⟩), (3, ⟨.ptr 37 0, []⟩), (4, B false), (17, R el (.ow false)), (18, I (len el)), (19, I s.2.2.1), (36, ⟨.box (), [⟨.int .i64 sa, .sc⟩, ⟨.row () e2, .sh⟩, ⟨.row () e1, .sh⟩]⟩), (37, ⟨.box (), [⟨.int .i64 sb, .sc⟩, ⟨.row () e4, .sh⟩, ⟨.row () e3, .sh⟩]⟩)]
   | some q => [(0, sMach sa e2 e1 .sh .sh), (1, sMach sb e4 e3 .sh .sh), (2, ⟨.ptr 36 0, []⟩), (3, ⟨.ptr 37 0, []⟩), (4, B false), (6, R q .fr), (17, R el (.ow false)), (18, I (len el)), (19, I s.2.2.1), (36, ⟨.box (), [⟨.int .i64 sa, .sc⟩, ⟨.row () e2, .sh⟩, ⟨.row () e1, .sh⟩]⟩), (37, ⟨.box (), [⟨.int .i64 sb, .sc⟩, ⟨.row () e4, .sh⟩, ⟨.row () e3, .sh⟩]⟩)])
   (fun s => At s.2.2.1 s.2.1.length ∧ L = s.2.1 ++ s.1 ∧ s.1.all (onP (fAtV ea eb la lb)) = T) (fun s => s.1.length) (L, [], 0, none) rfl ⟨rfl, rfl, hTL⟩ ?_
  intro c9 Q1 hc9 hQ1
  rintro ⟨suf, pre, i, j⟩ ⟨hi, hl', hb⟩ ih
  simp only at hi hl' hb ih
  cases suf with
  | nil =>
   have gl : lt i (len el) = false := F.lt_f hi ll (by simp [hl'])
   have hT2 : T = true := by rw [← hb]; rfl
   clear ih
   rcases j with _ | q
   all_goals
    cbv
    rw [gl]; cbv
    rw [hQ1]; cbv
    rw [hQ]; cbv
    exact fin _ hT2
  | cons p suf =>
   have gl : lt i (len el) = true := F.lt_t hi ll (by simp [hl'])
   obtain ⟨x, y, hxy, _⟩ := hL.pr p (by rw [hl']; simp)
   obtain ⟨ix, hix⟩ := nm (pre.length * 1)
   have r1 : at' 1 el i = some (ix, [.row () [[.int .i64 x], [.int .i64 y]]]) := by rw [hix, F.get hi hel hl' (fun _ => rfl) (by decide), hxy]; rfl
   obtain ⟨v, hv⟩ := nm (fAtV ea eb la lb x y)
   have c2 := k2 x y
   rw [← hv] at c2
   have hb2 : (v && suf.all (onP (fAtV ea eb la lb))) = T := by rw [← hb, List.all_cons, hxy, hv]; rfl
   have hi' : At (add .i64 i 1) (pre ++ [p]).length := at_len (F.inc hi (by rw [hl'] at pl; simp at pl; omega)) (by simp)
   have ihT : ∀ j, v = true → _ := fun j q => ih (suf, pre ++ [p], add .i64 i 1, j) ⟨hi', by rw [hl']; simp, by rw [q] at hb2; exact hb2⟩ (by simp)
   have hF : v = false → T = false := fun q => by rw [q] at hb2; exact hb2.symm
   clear ih
   rcases j with _ | q
   all_goals
    cbv
    rw [gl]; cbv
    rw [r1]; cbv
    rw [p2]; cbv
    rw [p3]; cbv
    rw [c2]; cbv
    refine both (fun d => ?_) (fun d => ?_) <;> rw [d] <;> cbv
    ·rw [hQ1]; cbv
     rw [hQ]; cbv
     exact fin _ (hF (F.not_t d))
    ·exact ihT (some _) (F.not_f d)
 ·rw [k1]; cbv
  refine loop_ind2 hP (σ := List (List Int) × List (List Int) × Int × Option (List (List V))) (fun s => match s.2.2.2 with
   | none => [(0, sMach sa e2 e1 .sh .sh), (1, sMach sb e4 e3 .sh .sh), (2, ⟨.ptr 36 0, []⟩), (3, ⟨.ptr 37 0, []⟩), (4, B false), (17, R el (.os false)), (18, I (len el)), (19, I s.2.2.1), (36, ⟨.box (), [⟨.int .i64 sa, .sc⟩, ⟨.row () e2, .sh⟩, ⟨.row () e1, .sh⟩]⟩), (37, ⟨.box (), [⟨.int .i64 sb, .sc⟩, ⟨.row () e4, .sh⟩, ⟨.row () e3, .sh⟩]⟩)]
   | some q => [(0, sMach sa e2 e1 .sh .sh), (1, sMach sb e4 e3 .sh .sh), (2, ⟨.ptr 36 0, []⟩), (3, ⟨.ptr 37 0, []⟩), (4, B false), (6, R q .no), (17, R el (.os false)), (18, I (len el)), (19, I s.2.2.1), (36, ⟨.box (), [⟨.int .i64 sa, .sc⟩, ⟨.row () e2, .sh⟩, ⟨.row () e1, .sh⟩]⟩), (37, ⟨.box (), [⟨.int .i64 sb, .sc⟩, ⟨.row () e4, .sh⟩, ⟨.row () e3, .sh⟩]⟩)])
   (fun s => At s.2.2.1 s.2.1.length ∧ L = s.2.1 ++ s.1 ∧ s.1.all (onP (fAtV ea eb la lb)) = T) (fun s => s.1.length) (L, [], 0, none) rfl ⟨rfl, rfl, hTL⟩ ?_
  intro c9 Q1 hc9 hQ1
  rintro ⟨suf, pre, i, j⟩ ⟨hi, hl', hb⟩ ih
  simp only at hi hl' hb ih
  cases suf with
  | nil =>
   have gl : lt i (len el) = false := F.lt_f hi ll (by simp [hl'])
   have hT2 : T = true := by rw [← hb]; rfl
   clear ih
   rcases j with _ | q
   all_goals
    cbv
    rw [gl]; cbv
    rw [hQ1]; cbv
    rw [hQ]; cbv
    exact fin _ hT2
  | cons p suf =>
   have gl : lt i (len el) = true := F.lt_t hi ll (by simp [hl'])
   obtain ⟨x, y, hxy, _⟩ := hL.pr p (by rw [hl']; simp)
   obtain ⟨ix, hix⟩ := nm (pre.length * 1)
   have r1 : at' 1 el i = some (ix, [.row () [[.int .i64 x], [.int .i64 y]]]) := by rw [hix, F.get hi hel hl' (fun _ => rfl) (by decide), hxy]; rfl
   obtain ⟨v, hv⟩ := nm (fAtV ea eb la lb x y)
   have c2 := k2 x y
   rw [← hv] at c2
   have hb2 : (v && suf.all (onP (fAtV ea eb la lb))) = T := by rw [← hb, List.all_cons, hxy, hv]; rfl
   have hi' : At (add .i64 i 1) (pre ++ [p]).length := at_len (F.inc hi (by rw [hl'] at pl; simp at pl; omega)) (by simp)
   have ihT : ∀ j, v = true → _ := fun j q => ih (suf, pre ++ [p], add .i64 i 1, j) ⟨hi', by rw [hl']; simp, by rw [q] at hb2; exact hb2⟩ (by simp)
   have hF : v = false → T = false := fun q => by rw [q] at hb2; exact hb2.symm
   clear ih
   rcases j with _ | q
   all_goals
    cbv
    rw [gl]; cbv
    rw [r1]; cbv
    rw [p2]; cbv
    rw [p3]; cbv
    rw [c2]; cbv
    refine both (fun d => ?_) (fun d => ?_) <;> rw [d] <;> cbv
    ·rw [hQ1]; cbv
     rw [hQ]; cbv
     exact fin _ (hF (F.not_t d))
    ·exact ihT (some _) (F.not_f d)
end Go.Vm
