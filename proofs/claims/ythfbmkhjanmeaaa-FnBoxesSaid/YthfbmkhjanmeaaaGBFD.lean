/- What the functions answer. -/
import Derived.Test.YthfbmkhjanmeaaaGBTab
import Derived.Test.YthfbmkhjanmeaaaGBFA
import Derived.Test.YthfbmkhjanmeaaaGBFB
import Derived.Test.YthfbmkhjanmeaaaGBFC
set_option maxHeartbeats 4000000
set_option maxRecDepth 10000
set_option linter.unusedVariables false
set_option linter.unusedSimpArgs false
namespace Go.Vm
theorem dr3249 {B : List Int} {i : Int} (w : CW B i) (h : Int) : ∃ r, fix Tb md 3249 [sCur (row fU B) (.sp 0 0) i h] = some r ∧ ∃ l i' h', r = ⟨[R (row fI l) (.ow false)], [], some (vCur (row fU B) i' h')⟩ ∧ CW B i' ∧ VL 4 l := by
 obtain ⟨n2, i2, h2, k2, w2, r2, r2'⟩ := below_dr w h 5 (by decide) (by decide)
 have kb := fun {i : Int} (w : CW B i) (h : Int) => int_dr w h [1, 2, 3, 10, 40, 200] (by simp) (by simp) (f := .sp 1 0) rfl
 simp only [show row fI [1, 2, 3, 10, 40, 200] = [[.int .i64 1], [.int .i64 2], [.int .i64 3], [.int .i64 10], [.int .i64 40], [.int .i64 200]] from rfl] at kb
 have kp := fun (l : List Int) (n : Int) (hl : l.length ≤ 1073741824) => ok345 l n hl (f0 := .sp 0 0) rfl
 obtain ⟨eb, heb⟩ := nm (row fU B)
 rw [← heb] at k2 kb ⊢
 refine fix_bxE (fn := ir3249) tb_3249 rfl rfl rfl (by decide) ?_; intro Q W hW hQ; simp only [List.map_nil, ir3249]
 have hW' : ∀ el i' h' l, el = row fI l → CW B i' → VL 4 l → W (some ⟨[R el (.ow false)], [], some (vCur eb i' h')⟩) := fun el i' h' l e a b => hW _ ⟨l, i', h', by rw [e], a, b⟩
 clear hW
 intro add sub mul arith eq ne lt le gt ge neg conv mn mx not beq len at' ln bd cut app allS isNil mks set o hP F ho
 rw [← ho] at k2 kb kp
 have hgt : ∀ (z : Int) (n : Nat), z = (n : Int) → gt z 0 = decide (0 < n) := fun z n e => by rw [F.gt, e]; simp
 have hdec : ∀ (z : Int) (n : Nat), z = ((n + 1 : Nat) : Int) → n ≤ 1000 → sub .i64 z 1 = (n : Int) := fun z n e hn => by rw [F.sub, e, wrap64 (by omega) (by omega)]; omega
 cbv
 rw [k2]; cbv
 refine loop_ind2 hP (σ := Nat × List Int × Int × List (List V) × Int × Int) (fun s => [(0, ⟨.ptr 37 0, []⟩), (2, R [] .nl), (3, R s.2.2.2.1 (.ow false)), (4, I s.2.2.1), (37, ⟨.box (), [⟨.row () eb, .sp 0 0⟩, ⟨.int .i64 s.2.2.2.2.1, .sc⟩, ⟨.int .i64 s.2.2.2.2.2, .sc⟩]⟩)]) (fun s => CW B s.2.2.2.2.1 ∧ s.2.2.1 = (s.1 : Int) ∧ s.2.2.2.1 = row fI s.2.1 ∧ s.1 ≤ 4 ∧ VL (4 - s.1) s.2.1) (fun s => s.1) (n2.toNat, [], n2, [], i2, h2) rfl ⟨w2, by simp only; omega, rfl, by simp only; omega, by simp, by simp⟩ ?_
 intro c9 Q1 hc9 hQ1
 rintro ⟨n, l, nn, el, i, h⟩ ⟨hw, hnn, hel, hn, hl⟩ ih
 simp only at hw hnn hel hn hl ih
 cbv
 cases n with
 | zero =>
  rw [hgt nn 0 hnn]; cbv
  rw [hQ1]; cbv
  rw [hQ]; cbv
  exact hW' el i h l hel hw hl
 | succ n =>
  rw [hgt nn (n + 1) hnn]; cbv
  obtain ⟨x, i', h', k, w', rx⟩ := kb hw h
  simp only [List.mem_cons, List.not_mem_nil, or_false] at rx
  obtain ⟨el', hel'⟩ := nm (row fI (l4V l x))
  have kq : o 345 [R el (.sp 0 0), I x] = some ⟨[R el' (.ow false)], [], none⟩ := by rw [hel, hel']; exact kp l x (by have := hl.1; omega)
  rw [k]; cbv
  rw [kq]; cbv
  rw [hdec nn n hnn (by omega)]
  exact ih (n, l4V l x, (n : Int), el', i', h') ⟨w', rfl, hel', by omega, by have := l4V_VL hl (n := x) (by omega) (by omega); exact this.mono (by omega)⟩ (by simp)
theorem dr3360 {B : List Int} {i : Int} (w : CW B i) (h : Int) : ∃ r, fix Tb md 3360 [sCur (row fU B) (.sp 0 0) i h] = some r ∧ ∃ b f g i' h', r = ⟨[sBox b.limit (row fI b.drops) (row fI b.strips) b.lists f g], [], some (vCur (row fU B) i' h')⟩ ∧ CW B i' ∧ BL b ∧ NO f b.drops ∧ NO g b.strips := by
 obtain ⟨n, i1, h1, k1, w1, r1, r1'⟩ := below_dr w h 7 (by decide) (by decide)
 obtain ⟨m, i2, h2, k2, w2, r2, r2'⟩ := below_dr w1 h1 6 (by decide) (by decide)
 obtain ⟨_, k3, l, i3, h3, rfl, w3, hl⟩ := dr3249 w1 h1
 obtain ⟨eb, heb⟩ := nm (row fU B)
 obtain ⟨el, hel⟩ := nm (row fI l)
 rw [← heb] at k1 k2 k3 ⊢
 rw [← hel] at k3
 refine fix_bxE (fn := ir3360) tb_3360 rfl rfl rfl (by decide) ?_; intro Q W hW hQ; simp only [List.map_nil, ir3360]
 have hW' : ∀ a d s v f g i' h' ld ls, d = row fI ld → s = row fI ls → CW B i' → BL ⟨a, ld, ls, v⟩ → NO f ld → NO g ls → W (some ⟨[sBox a d s v f g], [], some (vCur eb i' h')⟩) := fun a d s v f g i' h' ld ls e1 e2 c1 c2 c3 c4 => hW _ ⟨⟨a, ld, ls, v⟩, f, g, i', h', by rw [e1, e2], c1, c2, c3, c4⟩
 clear hW
 intro add sub mul arith eq ne lt le gt ge neg conv mn mx not beq len at' ln bd cut app allS isNil mks set o hP F ho
 rw [← ho] at k1 k2 k3
 have a1 : add .i64 1 m = 1 + m := by rw [F.add, wrap64 (by omega) (by omega)]
 cbv
 rw [k1]; cbv
 refine both (fun d => ?_) (fun d => ?_) <;> rw [d] <;> cbv
 ·rw [k2]; cbv
  rw [hQ]; cbv
  exact hW' _ [] [] false _ _ i2 h2 [] [] rfl rfl w2 (by rw [a1]; exact ⟨by simp only; omega, by simp [VL], by simp [VL]⟩) (.inl ⟨rfl, rfl⟩) (.inl ⟨rfl, rfl⟩)
 refine both (fun d => ?_) (fun d => ?_) <;> rw [d] <;> cbv
 ·rw [k3]; cbv
  rw [hQ]; cbv
  exact hW' 0 el [] false _ _ i3 h3 l [] hel rfl w3 ⟨by simp, hl.mono (by decide), by simp [VL]⟩ (.inr rfl) (.inl ⟨rfl, rfl⟩)
 refine both (fun d => ?_) (fun d => ?_) <;> rw [d] <;> cbv
 ·rw [k3]; cbv
  rw [hQ]; cbv
  exact hW' 0 [] el false _ _ i3 h3 [] l rfl hel w3 ⟨by simp, by simp [VL], hl.mono (by decide)⟩ (.inl ⟨rfl, rfl⟩) (.inr rfl)
 refine both (fun d => ?_) (fun d => ?_) <;> rw [d] <;> cbv
 ·rw [hQ]; cbv
  exact hW' 0 [] [] true _ _ i1 h1 [] [] rfl rfl w1 ⟨by simp, by simp [VL], by simp [VL]⟩ (.inl ⟨rfl, rfl⟩) (.inl ⟨rfl, rfl⟩)
 ·rw [hQ]; cbv
  exact hW' 0 [] [] false _ _ i1 h1 [] [] rfl rfl w1 ⟨by simp, by simp [VL], by simp [VL]⟩ (.inl ⟨rfl, rfl⟩) (.inl ⟨rfl, rfl⟩)
theorem dr3312 {B : List Int} {i : Int} (w : CW B i) (h : Int) : ∃ r, fix Tb md 3312 [sCur (row fU B) (.sp 0 0) i h] = some r ∧ ∃ b f g i' h', r = ⟨[sBox b.limit (row fI b.drops) (row fI b.strips) b.lists f g], [], some (vCur (row fU B) i' h')⟩ ∧ CW B i' ∧ BL b ∧ NO f b.drops ∧ NO g b.strips := by
 obtain ⟨_, k1, b, f, g, i1, h1, rfl, w1, hb, hf, hg⟩ := dr3360 w h
 obtain ⟨n, i2, h2, k2, w2, r2, r2'⟩ := below_dr w1 h1 12 (by decide) (by decide)
 obtain ⟨va, ia, ha, ka, wa, ra⟩ := int_dr w2 h2 [-1, 9, 10] (by simp) (by simp) (f := .sp 1 0) rfl
 rw [show row fI [-1, 9, 10] = [[.int .i64 (-1)], [.int .i64 9], [.int .i64 10]] from rfl] at ka
 obtain ⟨vc, ic, hc, kc, wc, rc⟩ := int_dr w2 h2 [-1, 255, 256] (by simp) (by simp) (f := .sp 1 0) rfl
 rw [show row fI [-1, 255, 256] = [[.int .i64 (-1)], [.int .i64 255], [.int .i64 256]] from rfl] at kc
 simp only [List.mem_cons, List.not_mem_nil, or_false] at ra rc
 obtain ⟨lim, ld, ls, v⟩ := b
 simp only at k1 hf hg
 obtain ⟨eb, heb⟩ := nm (row fU B)
 obtain ⟨ed, hed⟩ := nm (row fI ld)
 obtain ⟨es, hes⟩ := nm (row fI ls)
 rw [← heb] at k1 k2 ka kc ⊢
 rw [← hed, ← hes] at k1
 refine fix_bxE (fn := ir3312) tb_3312 rfl rfl rfl (by decide) ?_; intro Q W hW hQ; simp only [List.map_nil, ir3312]
 have hW' : ∀ a d s v f g i' h' ld ls, d = row fI ld → s = row fI ls → CW B i' → BL ⟨a, ld, ls, v⟩ → NO f ld → NO g ls → W (some ⟨[sBox a d s v f g], [], some (vCur eb i' h')⟩) := fun a d s v f g i' h' ld ls e1 e2 c1 c2 c3 c4 => hW _ ⟨⟨a, ld, ls, v⟩, f, g, i', h', by rw [e1, e2], c1, c2, c3, c4⟩
 clear hW
 intro add sub mul arith eq ne lt le gt ge neg conv mn mx not beq len at' ln bd cut app allS isNil mks set o hP F ho
 rw [← ho] at k1 k2 ka kc
 cbv
 rw [k1]; cbv
 rcases hf with ⟨rfl, rfl⟩ | rfl <;> rcases hg with ⟨rfl, rfl⟩ | rfl
 all_goals
  cbv
  rw [k2]; cbv
  refine both (fun d => ?_) (fun d => ?_) <;> rw [d] <;> cbv
  ·rw [ka]; cbv
   rw [hQ]; cbv
   exact hW' va ed es v _ _ ia ha _ _ hed hes wa ⟨by simp only; omega, hb.2.1, hb.2.2⟩ (by simp [NO]) (by simp [NO])
  refine both (fun d => ?_) (fun d => ?_) <;> rw [d] <;> cbv
  ·rw [kc]; cbv
   rw [hQ]; cbv
   exact hW' lim _ es v _ _ ic hc [vc] _ rfl hes wc ⟨hb.1, (VL.one (by omega) (by omega)).mono (by decide), hb.2.2⟩ (by simp [NO]) (by simp [NO])
  refine both (fun d => ?_) (fun d => ?_) <;> rw [d] <;> cbv
  ·rw [hQ]; cbv
   exact hW' lim ed _ v _ _ i2 h2 _ [1, 2, 3, 4, 5, 6, 7] hed rfl w2 ⟨hb.1, hb.2.1, ⟨by simp, fun y hy => by simp at hy; omega⟩⟩ (by simp [NO]) (by simp [NO])
  ·rw [hQ]; cbv
   exact hW' lim ed es v _ _ i2 h2 _ _ hed hes w2 hb (by simp [NO]) (by simp [NO])
theorem ok3250 (c : Cur) (q : c.Ok) (n : Int) (h0 : 0 < n) (h1 : n ≤ 256) : fix Tb md 3250 [sCur (row fU c.b) (.sp 0 0) c.ii c.h, I n] = some ⟨[B (onceV n c)], [], some (vCur (row fU c.b) (byteC c).ii (byteC c).h)⟩ := by
 have k1 := ok3317 c q n h0 h1
 obtain ⟨y, hy⟩ := nm (belowV n c)
 obtain ⟨z, hz⟩ := nm (onceV n c)
 have hz2 : z = decide (y = 0) := by rw [hz, hy]; rfl
 obtain ⟨i, hi⟩ := nm (c.ii)
 obtain ⟨h, hh⟩ := nm (c.h)
 obtain ⟨i', hi'⟩ := nm ((byteC c).ii)
 obtain ⟨h', hh'⟩ := nm ((byteC c).h)
 rw [← hy, ← hi, ← hh, ← hi', ← hh'] at k1
 rw [← hz, ← hi, ← hh, ← hi', ← hh']
 generalize hr : (⟨_, [], some _⟩ : Ret) = r
 obtain ⟨eb, heb⟩ := nm (row fU c.b)
 rw [← heb] at k1 hr ⊢
 refine fix_bx (fn := ir3250) tb_3250 rfl rfl rfl (by decide) ?_; intro Q hQ; simp only [List.map_cons, List.map_nil, ir3250]
 intro add sub mul arith eq ne lt le gt ge neg conv mn mx not beq len at' ln bd cut app allS isNil mks set o hP F ho
 have g3 : eq y 0 = z := by rw [F.eq, hz2]
 rw [← ho] at k1
 cbv
 rw [k1]; cbv
 rw [g3, hQ]; cbv
 exact congrArg some hr
theorem CW.new {B : List Int} (h : B.length ≤ 1048576) : CW B 0 := ⟨0, rfl, by omega, h⟩
theorem once_dr {Bs : List Int} {i : Int} (w : CW Bs i) (h n : Int) (h0 : 0 < n) (h1 : n ≤ 256) : ∃ (x : Bool) (i' h' : Int), fix Tb md 3250 [sCur (row fU Bs) (.sp 0 0) i h, I n] = some ⟨[B x], [], some (vCur (row fU Bs) i' h')⟩ ∧ CW Bs i' := by
 obtain ⟨c, q, rfl, rfl, rfl⟩ := w.cur h
 exact ⟨_, _, _, ok3250 c q n h0 h1, (byteC_ok q).cw⟩
theorem dr176 (B : List Int) (hl : B.length ≤ 1048576) : ∃ r, fix Tb md 176 [R (row fU B) (.sp 0 0)] = some r ∧ ∃ b f g l x, r = ⟨[sBox b.limit (row fI b.drops) (row fI b.strips) b.lists f g, sHello (row fI l) (row fExt x) (.ow false) (.ow false)], [], none⟩ ∧ BL b ∧ NO f b.drops ∧ NO g b.strips ∧ VL 5 l ∧ YL x := by
 have k1 := ok246 B hl
 obtain ⟨h, hh⟩ := nm (newC B).h
 rw [← hh] at k1
 obtain ⟨_, k2, b, f, g, i1, h1, rfl, w1, hb, hf, hg⟩ := dr3312 (CW.new hl) h
 obtain ⟨_, k3, l, x, i2, h2, rfl, w2, hl', hx⟩ := dr3251 w1 h1
 obtain ⟨lim, ld, ls, v⟩ := b
 simp only at k2 hf hg
 obtain ⟨eb, heb⟩ := nm (row fU B)
 obtain ⟨ed, hed⟩ := nm (row fI ld)
 obtain ⟨es, hes⟩ := nm (row fI ls)
 obtain ⟨el, hel⟩ := nm (row fI l)
 obtain ⟨ex, hex⟩ := nm (row fExt x)
 rw [← heb] at k1 k2 k3 ⊢
 rw [← hed, ← hes] at k2
 rw [← hel, ← hex] at k3
 refine fix_fnE (fn := ir176) tb_176 rfl rfl (by decide) rfl ?_; intro Q W hW hQ
 simp only [shutArgs, shutS, List.map_cons, List.map_nil, ir176, shut_in (show inFl (.sp 0 0) = true from rfl), List.head?_nil, reduceCtorEq, if_false] at hQ ⊢
 have hW' : W (some ⟨[sBox lim ed es v f g, sHello el ex (.ow false) (.ow false)], [], none⟩) := hW _ ⟨⟨lim, ld, ls, v⟩, f, g, l, x, by rw [hed, hes, hel, hex], hb, hf, hg, hl', hx⟩
 clear hW
 intro add sub mul arith eq ne lt le gt ge neg conv mn mx not beq len at' ln bd cut app allS isNil mks set o hP F ho
 rw [← ho] at k1 k2 k3
 cbv
 rw [k1]; cbv
 rw [k2]; cbv
 rcases hf with ⟨rfl, hz⟩ | rfl <;> rcases hg with ⟨rfl, hz'⟩ | rfl
 all_goals
  try (have e0 : ed = [] := by rw [hed, hz]; rfl)
  try (have e0' : es = [] := by rw [hes, hz']; rfl)
  cbv
  rw [k3]; cbv
  rw [hQ]; cbv
  exact hW'
theorem ok177 (a b : List Int) (hl : a.length ≤ 1099511627776) {f0 f1 : Fl} (h0 : inFl f0 = true) (h1 : inFl f1 = true) : fix Tb md 177 [R (row fI a) f0, R (row fI b) f1] = some ⟨[B (decide (a = b))], [], none⟩ := by
 refine fix_fn (fn := ir177) tb_177 rfl rfl (by decide) rfl ?_; simp only [shutArgs, shutS, List.map_cons, List.map_nil, ir177, shut_in h0, shut_in h1, List.head?_nil, reduceCtorEq, if_false, sExt, sHello, sAnswer, sEdit, sDeal, sBox, sDialed, sKnown]
 generalize hr : (⟨_, [], none⟩ : Ret) = r
 obtain ⟨ea, hea⟩ := nm (row fI a)
 obtain ⟨eb, heb⟩ := nm (row fI b)
 rw [← hea, ← heb]
 obtain ⟨v, hv⟩ := nm (decide (a = b))
 intro add sub mul arith eq ne lt le gt ge neg conv mn mx not beq len at' ln bd cut app allS isNil mks set o hP F ho
 have c1 : o 229 [R ea (.sp 0 0), R eb (.sp 1 0)] = some ⟨[B v], [], none⟩ := by rw [ho, hv, hea, heb]; exact ok229 _ _ hl rfl rfl
 cbv
 rw [c1]; cbv
 rw [← hr, hv]
theorem hasI_iff {l : List Int} {n : Int} : hasI l n = true ↔ n ∈ l := by unfold hasI; simp
theorem con_f {x n : Int} (h : ¬ x = n) (l : List Int) : hasI (x :: l) n = hasI l n := by unfold hasI; simp [h]
theorem con_t {x n : Int} (h : x = n) (l : List Int) : hasI (x :: l) n = true := by unfold hasI; simp [h]
theorem ok188 (l : List Int) (n : Int) (hl : l.length ≤ 1099511627776) {f0 : Fl} (h0 : inFl f0 = true) : fix Tb md 188 [R (row fI l) f0, I n] = some ⟨[B (hasI l n)], [], none⟩ := by
 obtain ⟨z, hz⟩ := nm (hasI l n)
 rw [← hz]
 generalize hr : (⟨_, [], none⟩ : Ret) = r
 obtain ⟨ea, hea⟩ := nm (row fI l)
 rw [← hea]
 refine fix_fn2 (fn := ir188) tb_188 rfl rfl (by decide) rfl ?_; intro Q hQ; simp only [shutArgs, shutS, List.map_cons, List.map_nil, ir188, shut_in h0, List.head?_nil, reduceCtorEq, if_false, sExt, sHello, sAnswer, sEdit, sDeal, sBox, sDialed, sKnown]
 intro add sub mul arith eq ne lt le gt ge neg conv mn mx not beq len at' ln bd cut app allS isNil mks set o hP F ho
 have la := F.len_at hea
 cbv
 refine loop_ind2 hP (σ := List Int × List Int × Int) (fun s => [(0, R ea .sh), (1, I n), (4, B false), (5, I s.2.2)]) (fun s => At s.2.2 s.2.1.length ∧ l = s.2.1 ++ s.1 ∧ z = hasI s.1 n) (fun s => s.1.length) (l, [], 0) rfl ⟨rfl, rfl, hz⟩ ?_
 intro c9 Q1 hc9 hQ1
 rintro ⟨suf, pre, i⟩ ⟨hi, hl', hz'⟩ ih
 simp only at hi hl' hz' ih
 cbv
 cases suf with
 | nil =>
  rw [F.lt_f hi la (by simp [hl'])]; cbv
  rw [hQ1]; cbv
  rw [hQ]; cbv
  rw [show z = false by rw [hz']; rfl] at hr
  exact congrArg some hr
 | cons x suf =>
  obtain ⟨ix, hix⟩ := nm (pre.length * 1)
  have hpl : pre.length ≤ 1099511627776 := by rw [hl'] at hl; simp at hl; omega
  have p0 : at' 1 ea i = some (ix, [.int .i64 x]) := by rw [hix]; exact F.get hi hea hl' (fun _ => rfl) (by decide)
  have g : eq x n = decide (x = n) := F.eq ..
  rw [F.lt_t hi la (by simp [hl'])]; cbv
  rw [p0]; cbv
  refine both (fun d => ?_) (fun d => ?_) <;> rw [d] <;> cbv
  ·rw [g, decide_eq_true_eq] at d
   rw [hQ1]; cbv
   rw [hQ]; cbv
   rw [show z = true from hz'.trans (con_t d suf)] at hr
   exact congrArg some hr
  ·rw [g, decide_eq_false_iff_not] at d
   exact ih (suf, pre ++ [x], add .i64 i 1) ⟨at_len (F.inc hi hpl) (by simp), by rw [hl']; simp, hz'.trans (con_f d suf)⟩ (by simp)
def subB (a b : List Int) : Bool := a.all fun x => hasI b x
theorem ok178 (a b : List Int) (hl : a.length ≤ 1099511627776) (hl2 : b.length ≤ 1099511627776) {f0 f1 : Fl} (h0 : inFl f0 = true) (h1 : inFl f1 = true) : fix Tb md 178 [R (row fI a) f0, R (row fI b) f1] = some ⟨[B (subB a b)], [], none⟩ := by
 have kc := fun (n : Int) => ok188 b n hl2 (f0 := .sp 0 0) rfl
 obtain ⟨z, hz⟩ := nm (subB a b)
 rw [← hz]
 generalize hr : (⟨_, [], none⟩ : Ret) = r
 obtain ⟨ea, hea⟩ := nm (row fI a)
 obtain ⟨eb, heb⟩ := nm (row fI b)
 rw [← hea, ← heb]
 rw [← heb] at kc
 refine fix_fn2 (fn := ir178) tb_178 rfl rfl (by decide) rfl ?_; intro Q hQ; simp only [shutArgs, shutS, List.map_cons, List.map_nil, ir178, shut_in h0, shut_in h1, List.head?_nil, reduceCtorEq, if_false, sExt, sHello, sAnswer, sEdit, sDeal, sBox, sDialed, sKnown]
 intro add sub mul arith eq ne lt le gt ge neg conv mn mx not beq len at' ln bd cut app allS isNil mks set o hP F ho
 rw [← ho] at kc
 have la := F.len_at hea
 cbv
 refine loop_ind2 hP (σ := List Int × List Int × Int) (fun s => [(0, R ea .sh), (1, R eb .sh), (4, B false), (5, I s.2.2)]) (fun s => At s.2.2 s.2.1.length ∧ a = s.2.1 ++ s.1 ∧ z = subB s.1 b) (fun s => s.1.length) (a, [], 0) rfl ⟨rfl, rfl, hz⟩ ?_
 intro c9 Q1 hc9 hQ1
 rintro ⟨suf, pre, i⟩ ⟨hi, hl', hz'⟩ ih
 simp only at hi hl' hz' ih
 cbv
 cases suf with
 | nil =>
  rw [F.lt_f hi la (by simp [hl'])]; cbv
  rw [hQ1]; cbv
  rw [hQ]; cbv
  rw [show z = true by rw [hz']; rfl] at hr
  exact congrArg some hr
 | cons x suf =>
  obtain ⟨ix, hix⟩ := nm (pre.length * 1)
  have hpl : pre.length ≤ 1099511627776 := by rw [hl'] at hl; simp at hl; omega
  have p0 : at' 1 ea i = some (ix, [.int .i64 x]) := by rw [hix]; exact F.get hi hea hl' (fun _ => rfl) (by decide)
  have k := kc x
  obtain ⟨v, hv⟩ := nm (hasI b x)
  rw [← hv] at k
  have hz2 : z = (v && subB suf b) := by rw [hz', hv]; rfl
  rw [F.lt_t hi la (by simp [hl'])]; cbv
  rw [p0]; cbv
  rw [k]; cbv
  cases v with
  | false =>
   rw [show not false = true by rw [F.not]; rfl]; cbv
   rw [hQ1]; cbv
   rw [hQ]; cbv
   rw [show z = false by rw [hz2]; rfl] at hr
   exact congrArg some hr
  | true =>
   rw [show not true = false by rw [F.not]; rfl]; cbv
   exact ih (suf, pre ++ [x], add .i64 i 1) ⟨at_len (F.inc hi hpl) (by simp), by rw [hl']; simp, by rw [hz2]; rfl⟩ (by simp)
def yesE (_ : Ext) : Bool := true
theorem ok179 (l : List Ext) (hl : l.length ≤ 1073741824) {f0 : Fl} (h0 : inFl f0 = true) : fix Tb md 179 [R (row fExt l) f0] = some ⟨[R (row fI (sel yesE Ext.tag l)) (.ow false)], [], none⟩ := by
 obtain ⟨et, het⟩ := nm (row fI (sel yesE Ext.tag l))
 rw [← het]
 generalize hr : (⟨_, [], none⟩ : Ret) = r
 obtain ⟨ea, hea⟩ := nm (row fExt l)
 rw [← hea]
 refine fix_fn2 (fn := ir179) tb_179 rfl rfl (by decide) rfl ?_; intro Q hQ; simp only [shutArgs, shutS, List.map_cons, List.map_nil, ir179, shut_in h0, List.head?_nil, reduceCtorEq, if_false, sExt, sHello, sAnswer, sEdit, sDeal, sBox, sDialed, sKnown]
 intro add sub mul arith eq ne lt le gt ge neg conv mn mx not beq len at' ln bd cut app allS isNil mks set o hP F ho
 have la := F.len_at hea
 cbv
 refine loop_ind2 hP (σ := List Ext × List Ext × List (List V) × Int × Option (Int × List (List V))) (fun s => match s.2.2.2.2 with | none => [(0, R ea .sh), (2, R [] .nl), (3, R s.2.2.1 (.ow false)), (7, R ea .sh), (8, I (len ea)), (9, I s.2.2.2.1)] | some j => [(0, R ea .sh), (2, R [] .nl), (3, R s.2.2.1 (.ow false)), (5, ⟨.ptr 25 0, []⟩), (7, R ea .sh), (8, I (len ea)), (9, I s.2.2.2.1), (25, ⟨.box (), [⟨.int .i64 j.1, .sc⟩, ⟨.row () j.2, .sh⟩]⟩)]) (fun s => At s.2.2.2.1 s.2.1.length ∧ l = s.2.1 ++ s.1 ∧ s.2.2.1 = row fI (sel yesE Ext.tag s.2.1)) (fun s => s.1.length) (l, [], [], 0, none) rfl ⟨rfl, rfl, rfl⟩ ?_
 intro c1 Q1 hc1 hQ1
 rintro ⟨suf, pre, eo, i, j⟩ ⟨hi, hl', hb⟩ ih
 simp only at hi hl' hb ih
 rcases j with _ | ⟨j1, j2⟩
 all_goals
  cbv
  cases suf with
  | nil =>
   rw [F.lt_f hi la (by simp [hl'])]; cbv
   rw [hQ1]; cbv
   rw [hQ]; cbv
   rw [← hr, het, hb, hl', List.append_nil]
  | cons x suf =>
   obtain ⟨ix, hix⟩ := nm (pre.length * 2)
   have hpre : pre.length ≤ 1073741824 := by rw [hl'] at hl; simp at hl; omega
   have hs : (sel yesE Ext.tag pre).length ≤ pre.length := sel_len
   have hi' : At (add .i64 i 1) (pre ++ [x]).length := at_len (F.inc hi (by omega)) (by simp)
   have hl2 : l = (pre ++ [x]) ++ suf := by rw [hl']; simp
   have hmem : x ∈ l := by rw [hl']; simp
   obtain ⟨e1, he1⟩ := nm (row fI x.body)
   have p0 : at' 2 ea i = some (ix, [.int .i64 x.tag, .row () e1]) := by rw [hix, he1]; exact F.get hi hea hl' (fun _ => rfl) (by decide)
   rw [F.lt_t hi la (by simp [hl'])]; cbv
   rw [p0]; cbv
   rw [show allS [[.int .i64 x.tag]] = true by rw [F.allS]; rfl]; cbv
   obtain ⟨eo', heo'⟩ := nm (row fI (sel yesE Ext.tag pre ++ [Ext.tag x]))
   rw [show app 1 eo [[.int .i64 x.tag]] = some eo' by rw [heo']; exact F.push hb (fun _ => rfl) rfl (by omega)]; cbv
   refine ih (suf, pre ++ [x], eo', add .i64 i 1, some (x.tag, e1)) ⟨hi', hl2, by simp only; rw [heo', sel_t rfl]⟩ (by simp)
theorem ok180 (l b : List Int) (hl : l.length ≤ 1073741824) (hb' : b.length ≤ 1073741824) {f0 f1 : Fl} (h0 : inFl f0 = true) (h1 : inFl f1 = true) : fix Tb md 180 [R (row fI l) f0, R (row fI b) f1] = some ⟨[R (row fI (sel (hasI b) idI l)) (.ow false)], [], none⟩ := by
 obtain ⟨et, het⟩ := nm (row fI (sel (hasI b) idI l))
 rw [← het]
 generalize hr : (⟨_, [], none⟩ : Ret) = r
 obtain ⟨ea, hea⟩ := nm (row fI l)
 obtain ⟨eb, heb⟩ := nm (row fI b)
 rw [← hea, ← heb]
 refine fix_fn2 (fn := ir180) tb_180 rfl rfl (by decide) rfl ?_; intro Q hQ; simp only [shutArgs, shutS, List.map_cons, List.map_nil, ir180, shut_in h0, shut_in h1, List.head?_nil, reduceCtorEq, if_false, sExt, sHello, sAnswer, sEdit, sDeal, sBox, sDialed, sKnown]
 intro add sub mul arith eq ne lt le gt ge neg conv mn mx not beq len at' ln bd cut app allS isNil mks set o hP F ho
 have la := F.len_at hea
 cbv
 refine loop_ind2 hP (σ := List Int × List Int × List (List V) × Int × Option (Int)) (fun s => match s.2.2.2.2 with | none => [(0, R ea .sh), (1, R eb .sh), (4, R [] .nl), (5, R s.2.2.1 (.ow false)), (9, R ea .sh), (10, I (len ea)), (11, I s.2.2.2.1)] | some j => [(0, R ea .sh), (1, R eb .sh), (4, R [] .nl), (5, R s.2.2.1 (.ow false)), (7, I j), (9, R ea .sh), (10, I (len ea)), (11, I s.2.2.2.1)]) (fun s => At s.2.2.2.1 s.2.1.length ∧ l = s.2.1 ++ s.1 ∧ s.2.2.1 = row fI (sel (hasI b) idI s.2.1)) (fun s => s.1.length) (l, [], [], 0, none) rfl ⟨rfl, rfl, rfl⟩ ?_
 intro c1 Q1 hc1 hQ1
 rintro ⟨suf, pre, eo, i, j⟩ ⟨hi, hl', hb⟩ ih
 simp only at hi hl' hb ih
 rcases j with _ | _
 all_goals
  cbv
  cases suf with
  | nil =>
   rw [F.lt_f hi la (by simp [hl'])]; cbv
   rw [hQ1]; cbv
   rw [hQ]; cbv
   rw [← hr, het, hb, hl', List.append_nil]
  | cons x suf =>
   obtain ⟨ix, hix⟩ := nm (pre.length * 1)
   have hpre : pre.length ≤ 1073741824 := by rw [hl'] at hl; simp at hl; omega
   have hs : (sel (hasI b) idI pre).length ≤ pre.length := sel_len
   have hi' : At (add .i64 i 1) (pre ++ [x]).length := at_len (F.inc hi (by omega)) (by simp)
   have hl2 : l = (pre ++ [x]) ++ suf := by rw [hl']; simp
   have hmem : x ∈ l := by rw [hl']; simp
   have p0 : at' 1 ea i = some (ix, [.int .i64 x]) := by rw [hix]; exact F.get hi hea hl' (fun _ => rfl) (by decide)
   obtain ⟨v, hv⟩ := nm (hasI b x)
   have c2 : o 302 [R eb (.sp 0 0), I x] = some ⟨[B v], [], none⟩ := by rw [ho, hv, heb]; exact ok302 _ _ (by omega) rfl
   rw [F.lt_t hi la (by simp [hl'])]; cbv
   rw [p0]; cbv
   rw [c2]; cbv
   refine both (fun d => ?_) (fun d => ?_) <;> rw [d] <;> cbv
   ·rw [show allS [[.int .i64 x]] = true by rw [F.allS]; rfl]; cbv
    obtain ⟨eo', heo'⟩ := nm (row fI (sel (hasI b) idI pre ++ [idI x]))
    rw [show app 1 eo [[.int .i64 x]] = some eo' by rw [heo']; exact F.push hb (fun _ => rfl) rfl (by omega)]; cbv
    refine ih (suf, pre ++ [x], eo', add .i64 i 1, some x) ⟨hi', hl2, by simp only; rw [heo', sel_t (by rw [← hv, d])]⟩ (by simp)
   ·refine ih (suf, pre ++ [x], eo, add .i64 i 1, some x) ⟨hi', hl2, by simp only; rw [hb, sel_f (by rw [← hv, d])]⟩ (by simp)
theorem dr3313 {B : List Int} {i : Int} (w : CW B i) (h : Int) : ∃ r, fix Tb md 3313 [sCur (row fU B) (.sp 0 0) i h] = some r ∧ ∃ l i' h', r = ⟨[R (row fBox l) (.ow false)], [], some (vCur (row fU B) i' h')⟩ ∧ CW B i' ∧ PL 3 l := by
 obtain ⟨n2, i2, h2, k2, w2, r2, r2'⟩ := below_dr w h 4 (by decide) (by decide)
 have kb := fun {i : Int} (w : CW B i) (h : Int) => dr3360 w h
 obtain ⟨eb, heb⟩ := nm (row fU B)
 rw [← heb] at k2 kb ⊢
 refine fix_bxE (fn := ir3313) tb_3313 rfl rfl rfl (by decide) ?_; intro Q W hW hQ; simp only [List.map_nil, ir3313]
 have hW' : ∀ el i' h' l, el = row fBox l → CW B i' → PL 3 l → W (some ⟨[R el (.ow false)], [], some (vCur eb i' h')⟩) := fun el i' h' l e a b => hW _ ⟨l, i', h', by rw [e], a, b⟩
 clear hW
 intro add sub mul arith eq ne lt le gt ge neg conv mn mx not beq len at' ln bd cut app allS isNil mks set o hP F ho
 rw [← ho] at k2 kb
 have hgt : ∀ (z : Int) (n : Nat), z = (n : Int) → gt z 0 = decide (0 < n) := fun z n e => by rw [F.gt, e]; simp
 have hdec : ∀ (z : Int) (n : Nat), z = ((n + 1 : Nat) : Int) → n ≤ 1000 → sub .i64 z 1 = (n : Int) := fun z n e hn => by rw [F.sub, e, wrap64 (by omega) (by omega)]; omega
 cbv
 rw [k2]; cbv
 refine loop_ind2 hP (σ := Nat × List Box × Int × List (List V) × Int × Int) (fun s => [(0, ⟨.ptr 37 0, []⟩), (2, R [] .nl), (3, R s.2.2.2.1 (.ow false)), (4, I s.2.2.1), (37, ⟨.box (), [⟨.row () eb, .sp 0 0⟩, ⟨.int .i64 s.2.2.2.2.1, .sc⟩, ⟨.int .i64 s.2.2.2.2.2, .sc⟩]⟩)]) (fun s => CW B s.2.2.2.2.1 ∧ s.2.2.1 = (s.1 : Int) ∧ s.2.2.2.1 = row fBox s.2.1 ∧ s.1 ≤ 3 ∧ PL (3 - s.1) s.2.1) (fun s => s.1) (n2.toNat, [], n2, [], i2, h2) rfl ⟨w2, by simp only; omega, rfl, by simp only; omega, by simp [PL]⟩ ?_
 intro c9 Q1 hc9 hQ1
 rintro ⟨n, l, nn, el, i, h⟩ ⟨hw, hnn, hel, hn, hl⟩ ih
 simp only at hw hnn hel hn hl ih
 cbv
 cases n with
 | zero =>
  rw [hgt nn 0 hnn]; cbv
  rw [hQ1]; cbv
  rw [hQ]; cbv
  exact hW' el i h l hel hw hl
 | succ n =>
  rw [hgt nn (n + 1) hnn]; cbv
  obtain ⟨_, k, b, f, g, i', h', rfl, w', hb, hf, hg⟩ := kb hw h
  obtain ⟨ed, hed⟩ := nm (row fI b.drops)
  obtain ⟨es, hes⟩ := nm (row fI b.strips)
  obtain ⟨el', hel'⟩ := nm (row fBox (l ++ [b]))
  rw [← hed, ← hes] at k
  have s1 : allS [[.int .i64 b.limit, .row () ed, .row () es, .bool b.lists]] = false := by rw [F.allS]; rfl
  have s2 : app 4 el [[.int .i64 b.limit, .row () ed, .row () es, .bool b.lists]] = some el' := by rw [hel']; exact F.push (f := fBox) hel (fun _ => rfl) (by rw [hed, hes]; rfl) (by have := hl.1; omega)
  have fin := ih (n, l ++ [b], (n : Int), el', i', h') ⟨w', rfl, hel', by omega, (hl.push hb).mono (by omega)⟩ (by simp)
  obtain ⟨lim, hlim⟩ := nm b.limit
  obtain ⟨v, hv⟩ := nm b.lists
  rw [← hlim, ← hv] at k s1 s2
  rw [k]
  clear k
  rcases hf with ⟨rfl, hz⟩ | rfl <;> rcases hg with ⟨rfl, hz'⟩ | rfl
  all_goals
   try (have e0 : ed = [] := by rw [hed, hz]; rfl)
   try (have e0' : es = [] := by rw [hes, hz']; rfl)
   cbv
   rw [s1]; cbv
   rw [s2]; cbv
   rw [hdec nn n hnn (by omega)]
   exact fin
theorem dr181 (B : List Int) (hl : B.length ≤ 1048576) : ∃ r, fix Tb md 181 [R (row fU B) (.sp 0 0)] = some r ∧ ∃ p l x, r = ⟨[R (row fBox p) (.ow false), sHello (row fI l) (row fExt x) (.ow false) (.ow false)], [], none⟩ ∧ PL 6 p ∧ VL 5 l ∧ YL x := by
 have k1 := ok246 B hl
 obtain ⟨h, hh⟩ := nm (newC B).h
 rw [← hh] at k1
 obtain ⟨_, k2, p, i1, h1, rfl, w1, hp⟩ := dr3313 (CW.new hl) h
 obtain ⟨z, i2, h2, k3, w2⟩ := once_dr w1 h1 9 (by decide) (by decide)
 obtain ⟨_, k4, b, f, g, i3, h3, rfl, w3, hb, hf, hg⟩ := dr3312 w2 h2
 obtain ⟨_, k5, l, x, i4, h4, rfl, w4, hl', hx⟩ := dr3251 w3 h3
 obtain ⟨_, k6, l2, x2, i5, h5, rfl, w5, hl2, hx2⟩ := dr3251 w2 h2
 obtain ⟨lim, ld, ls, v⟩ := b
 simp only at k4 hf hg
 obtain ⟨eb, heb⟩ := nm (row fU B)
 obtain ⟨ed, hed⟩ := nm (row fI ld)
 obtain ⟨es, hes⟩ := nm (row fI ls)
 obtain ⟨el, hel⟩ := nm (row fI l)
 obtain ⟨ex, hex⟩ := nm (row fExt x)
 obtain ⟨el2, hel2⟩ := nm (row fI l2)
 obtain ⟨ex2, hex2⟩ := nm (row fExt x2)
 obtain ⟨ep, hep⟩ := nm (row fBox p)
 obtain ⟨ep2, hep2⟩ := nm (row fBox (p ++ [⟨lim, ld, ls, v⟩, ⟨0, [], [], false⟩, ⟨0, [], [], false⟩]))
 rw [← heb] at k1 k2 k3 k4 k5 k6 ⊢
 rw [← hep] at k2
 rw [← hed, ← hes] at k4
 rw [← hel, ← hex] at k5
 rw [← hel2, ← hex2] at k6
 refine fix_fnE (fn := ir181) tb_181 rfl rfl (by decide) rfl ?_; intro Q W hW hQ
 simp only [shutArgs, shutS, List.map_cons, List.map_nil, ir181, shut_in (show inFl (.sp 0 0) = true from rfl), List.head?_nil, reduceCtorEq, if_false] at hQ ⊢
 have hW' : ∀ ep el ex p l x, ep = row fBox p → el = row fI l → ex = row fExt x → PL 6 p → VL 5 l → YL x → W (some ⟨[R ep (.ow false), sHello el ex (.ow false) (.ow false)], [], none⟩) := fun ep el ex p l x a1 a2 a3 b1 b2 b3 => hW _ ⟨p, l, x, by rw [a1, a2, a3], b1, b2, b3⟩
 clear hW
 have hp2 : PL 6 (p ++ [⟨lim, ld, ls, v⟩, ⟨0, [], [], false⟩, ⟨0, [], [], false⟩]) := by
  have h0 : BL ⟨0, [], [], false⟩ := ⟨by simp, by simp [VL], by simp [VL]⟩
  have := ((hp.push hb).push h0).push h0
  simpa using this
 have hpl : p.length ≤ 3 := hp.1
 intro add sub mul arith eq ne lt le gt ge neg conv mn mx not beq len at' ln bd cut app allS isNil mks set o hP F ho
 rw [← ho] at k1 k2 k3 k4 k5 k6
 have s1 : allS [[.int .i64 lim, .row () ed, .row () es, .bool v], [.int .i64 0, .row () [], .row () [], .bool false], [.int .i64 0, .row () [], .row () [], .bool false]] = false := by rw [F.allS]; rfl
 have s2 : app 4 ep [[.int .i64 lim, .row () ed, .row () es, .bool v], [.int .i64 0, .row () [], .row () [], .bool false], [.int .i64 0, .row () [], .row () [], .bool false]] = some ep2 := by rw [hep2]; exact F.app' (f := fBox) hep (l2 := [⟨lim, ld, ls, v⟩, ⟨0, [], [], false⟩, ⟨0, [], [], false⟩]) (by rw [hed, hes]; rfl) (fun _ => rfl) (by simp; omega)
 cbv
 rw [k1]; cbv
 rw [k2]; cbv
 rw [k3]; cbv
 refine both (fun d => ?_) (fun d => ?_) <;> rw [d] <;> cbv
 ·rw [k4]
  rcases hf with ⟨rfl, hz⟩ | rfl <;> rcases hg with ⟨rfl, hz'⟩ | rfl
  all_goals
   try (have e0 : ed = [] := by rw [hed, hz]; rfl)
   try (have e0' : es = [] := by rw [hes, hz']; rfl)
   cbv
   rw [s1]; cbv
   rw [s2]; cbv
   rw [k5]; cbv
   rw [hQ]; cbv
   exact hW' _ _ _ _ _ _ hep2 hel hex hp2 hl' hx
 ·rw [k6]; cbv
  rw [hQ]; cbv
  exact hW' _ _ _ _ _ _ hep hel2 hex2 (hp.mono (by decide)) hl2 hx2
theorem ok347 (n : Int) : fix Tb md 347 [I n] = some ⟨[B true], [], none⟩ := by
 generalize hr : (⟨_, [], none⟩ : Ret) = r
 refine fix_fn2 (fn := ir347) tb_347 rfl rfl (by decide) rfl ?_; intro Q hQ; simp only [shutArgs, shutS, List.map_cons, List.map_nil, ir347, List.head?_nil, reduceCtorEq, if_false, sExt, sHello, sAnswer, sEdit, sDeal, sBox, sDialed, sKnown]
 intro add sub mul arith eq ne lt le gt ge neg conv mn mx not beq len at' ln bd cut app allS isNil mks set o hP F ho
 cbv
 rw [hQ]; cbv
 exact congrArg some hr
theorem ok266 (l : List Ext) (hl : l.length ≤ 1073741824) (w : ∀ y ∈ l, y.body.length ≤ 1099511627776) {f0 : Fl} (h0 : inFl f0 = true) : fix Tb md 266 [R (row fExt l) f0] = some ⟨[R (row fExt l) (.ow false)], [], none⟩ := by
 obtain ⟨ea, hea⟩ := nm (row fExt l)
 rw [← hea]
 generalize hr : (⟨_, [], none⟩ : Ret) = r
 refine fix_fn2 (fn := ir266) tb_266 rfl rfl (by decide) rfl ?_; intro Q hQ; simp only [shutArgs, shutS, List.map_cons, List.map_nil, ir266, shut_in h0, List.head?_nil, reduceCtorEq, if_false, sExt, sHello, sAnswer, sEdit, sDeal, sBox, sDialed, sKnown]
 intro add sub mul arith eq ne lt le gt ge neg conv mn mx not beq len at' ln bd cut app allS isNil mks set o hP F ho
 have c1 : o 264 [R ea (.sp 0 0), ⟨.val, [⟨.fn 347 [], .sh⟩]⟩] = some ⟨[R ea (.ow false)], [], none⟩ := by
  rw [ho, hea]
  have h := ok264_0 347 rfl (fun _ => true) l hl w (fun x _ => ok347 x.tag) (f0 := .sp 0 0) rfl
  rw [show sel (onTag fun _ => true) idE l = l by rw [sel_idE]; exact List.filter_eq_self.2 (fun _ _ => rfl)] at h
  exact h
 cbv
 rw [c1]; cbv
 rw [hQ]; cbv
 exact congrArg some hr
theorem ok261 (h : Hello) (mh : h.Mid) {f0 f1 : Fl} (q0 : inFl f0 = true) (q1 : inFl f1 = true) : fix Tb md 261 [sHello (row fI h.versions) (row fExt h.exts) f0 f1] = some ⟨[sHello (row fI h.versions) (row fExt h.exts) (.ow false) (.ow false)], [], none⟩ := by
 have mh' := mh
 unfold Hello.Mid at mh'
 obtain ⟨ev, hev⟩ := nm (row fI h.versions)
 obtain ⟨ex, hex⟩ := nm (row fExt h.exts)
 rw [← hev, ← hex]
 generalize hr : (⟨_, [], none⟩ : Ret) = r
 refine fix_fn2 (fn := ir261) tb_261 rfl rfl (by decide) rfl ?_; intro Q hQ; simp only [shutArgs, shutS, List.map_cons, List.map_nil, ir261, shut_in q0, shut_in q1, List.head?_nil, reduceCtorEq, if_false, sExt, sHello, sAnswer, sEdit, sDeal, sBox, sDialed, sKnown]
 intro add sub mul arith eq ne lt le gt ge neg conv mn mx not beq len at' ln bd cut app allS isNil mks set o hP F ho
 have c1 : o 266 [R ex (.sp 0 0)] = some ⟨[R ex (.ow false)], [], none⟩ := by rw [ho, hex]; exact ok266 _ mh'.2.1 (fun y hy => Nat.le_trans (show y.body.length ≤ 1073741824 from mh'.2.2 y hy) (by decide)) rfl
 cbv
 rw [show allS ev = true from F.scal hev (fun _ => rfl)]; cbv
 rw [F.app_nil hev (fun _ => rfl) (Nat.le_trans mh'.1 (by decide))]; cbv
 rw [c1]; cbv
 rw [hQ]; cbv
 exact congrArg some hr
def ppGo : List Box → Hello → Hello × Bool
 | [], h => (h, true)
 | b :: bs, h => if pbOk b h then ppGo bs (pbV b h) else (⟨[], []⟩, false)
def pp (path : List Box) (h : Hello) : Hello × Bool := if isHel h && decide (path.length ≤ 4) then ppGo path h else (⟨[], []⟩, false)
def ppV (path : List Box) (h : Hello) : Hello := (pp path h).1
def ppOk (path : List Box) (h : Hello) : Bool := (pp path h).2
theorem ppGo_mid : ∀ (path : List Box) {h : Hello}, h.Mid → (ppGo path h).1.Mid
 | [], _, m => m
 | b :: bs, h, m => by
  unfold ppGo
  split
  ·exact ppGo_mid bs (pbV_mid m)
  ·exact ⟨by simp, by simp, by simp⟩
theorem ppV_mid {path : List Box} {h : Hello} (m : h.Mid) : (ppV path h).Mid := by
 unfold ppV pp
 split
 ·exact ppGo_mid path m
 ·exact ⟨by simp, by simp, by simp⟩
theorem ppGo_cases : ∀ (path : List Box) (h : Hello), (ppGo path h).2 = true ∨ ppGo path h = (⟨[], []⟩, false)
 | [], _ => .inl rfl
 | b :: bs, h => by
  unfold ppGo
  split
  ·exact ppGo_cases bs _
  ·exact .inr rfl
theorem pp_cases (path : List Box) (h : Hello) : (pp path h).2 = true ∨ pp path h = (⟨[], []⟩, false) := by
 unfold pp
 split
 ·exact ppGo_cases _ _
 ·exact .inr rfl
theorem ok182r (path : List Box) (h : Hello) (pl : path.length ≤ 1073741824) (pm : ∀ y ∈ path, y.Mid) (mh : h.Mid) {f0 f1 f2 : Fl} (q0 : inFl f0 = true) (q1 : inFl f1 = true) (q2 : inFl f2 = true) (r : Ret) (rA : ∀ z, pp path h = (z, true) → (⟨[sHello (row fI z.versions) (row fExt z.exts) (.ow false) (.ow false), B true], [], none⟩ : Ret) = r) (rC : pp path h = (⟨[], []⟩, false) → (⟨[sHello [] [] .nl .nl, B false], [], none⟩ : Ret) = r) :
  fix Tb md 182 [R (row fBox path) f0, sHello (row fI h.versions) (row fExt h.exts) f1 f2] = some r := by
 have mh' := mh
 unfold Hello.Mid at mh'
 have wh : ∀ y ∈ h.exts, y.body.length ≤ 1099511627776 := fun y hy => Nat.le_trans (show y.body.length ≤ 1073741824 from mh'.2.2 y hy) (by decide)
 obtain ⟨T, hT⟩ := nm (ppGo path h)
 obtain ⟨u, hu⟩ := nm (isHel h)
 obtain ⟨k4, hk4⟩ := nm (decide (path.length ≤ 4))
 have hp : pp path h = if (u && k4) = true then T else (⟨[], []⟩, false) := by rw [hu, hk4, hT]; rfl
 rw [hp] at rA rC
 clear hp
 obtain ⟨ep, hep⟩ := nm (row fBox path)
 obtain ⟨dv, hdv⟩ := nm (row fI h.versions)
 obtain ⟨dx, hdx⟩ := nm (row fExt h.exts)
 rw [← hep, ← hdv, ← hdx]
 refine fix_fn2 (fn := ir182) tb_182 rfl rfl (by decide) rfl ?_; intro Q hQ; simp only [shutArgs, shutS, List.map_cons, List.map_nil, ir182, shut_in q0, shut_in q1, shut_in q2, List.head?_nil, reduceCtorEq, if_false, sExt, sHello, sAnswer, sEdit, sDeal, sBox, sDialed, sKnown]
 intro add sub mul arith eq ne lt le gt ge neg conv mn mx not beq len at' ln bd cut app allS isNil mks set o hP F ho
 have lp := F.len_at hep
 have c1 : o 113 [sHello dv dx (.sp 0 0) (.sp 0 1)] = some ⟨[B u], [], none⟩ := by rw [ho, hu, hdv, hdx]; exact ok113 _ (by omega) (by omega) wh rfl rfl
 have g1 : gt (len ep) 4 = not k4 := by rw [F.gt_n lp (k := 4) (m := 4) rfl, F.not, hk4, Bool.eq_iff_iff]; simp only [decide_eq_true_eq, Bool.not_eq_true', decide_eq_false_iff_not]; omega
 have c2 : o 261 [sHello dv dx (.sp 0 0) (.sp 0 1)] = some ⟨[sHello dv dx (.ow false) (.ow false)], [], none⟩ := by rw [ho, hdv, hdx]; exact ok261 h mh rfl rfl
 cbv
 rw [c1]; cbv
 refine both (fun d1 => ?_) (fun d1 => ?_) <;> rw [d1] <;> cbv
 ·rw [hQ]; cbv
  exact congrArg some (rC (by rw [F.not_t d1]; rfl))
 rw [g1]; cbv
 refine both (fun d2 => ?_) (fun d2 => ?_) <;> rw [d2] <;> cbv
 ·rw [hQ]; cbv
  exact congrArg some (rC (by rw [F.not_t d2, Bool.and_false]; rfl))
 rw [F.not_f d1, F.not_f d2, Bool.true_and, if_pos rfl] at rA rC
 rw [c2]; cbv
 refine loop_ind2 hP (σ := List Box × List Box × Int × Option (Hello × List (List V) × List (List V))) (fun s => match s.2.2.2 with
   | none => [(0, R ep .sh), (1, sHello dv dx .sh .sh), (3, ⟨.ptr 43 0, []⟩), (4, ⟨.ptr 44 0, []⟩), (5, B false), (6, ⟨.ptr 46 0, []⟩), (7, B false), (8, I s.2.2.1), (43, ⟨.box (), [⟨.row () dv, .sh⟩, ⟨.row () dx, .sh⟩]⟩), (44, ⟨.box (), [⟨.row () [], .nl⟩, ⟨.row () [], .nl⟩]⟩), (46, ⟨.box (), [⟨.row () [], .nl⟩, ⟨.row () [], .nl⟩]⟩)]
   | some j => [(0, R ep .sh), (1, sHello dv dx .sh .sh), (3, ⟨.ptr 43 0, []⟩), (4, ⟨.ptr 44 0, []⟩), (5, B false), (6, ⟨.ptr 46 0, []⟩), (7, B true), (8, I s.2.2.1), (43, ⟨.box (), [⟨.row () dv, .sh⟩, ⟨.row () dx, .sh⟩]⟩), (44, ⟨.box (), [⟨.row () [], .nl⟩, ⟨.row () [], .nl⟩]⟩), (46, ⟨.box (), [⟨.row () j.2.1, .ow false⟩, ⟨.row () j.2.2, .ow false⟩]⟩)]) (fun s => At s.2.2.1 s.2.1.length ∧ path = s.2.1 ++ s.1 ∧ (match s.2.2.2 with | none => T = (⟨[], []⟩, false) | some j => ppGo s.1 j.1 = T ∧ j.1.Mid ∧ j.2.1 = row fI j.1.versions ∧ j.2.2 = row fExt j.1.exts)) (fun s => s.1.length) (path, [], 0, some (h, dv, dx)) rfl ⟨rfl, rfl, hT.symm, mh, hdv, hdx⟩ ?_
 intro c9 Q1 hc9 hQ1
 rintro ⟨suf, pre, i, e⟩ ⟨hi, hl', hz⟩ ih
 simp only at hi hl' hz ih
 cases e with
 | none =>
  cbv
  cases suf with
  | nil =>
   rw [F.lt_f hi lp (by simp [hl'])]; cbv
   rw [hQ1]; cbv
   rw [hQ]; cbv
   exact congrArg some (rC hz)
  | cons x suf =>
   rw [F.lt_t hi lp (by simp [hl'])]; cbv
   rw [hQ1]; cbv
   rw [hQ]; cbv
   exact congrArg some (rC hz)
 | some j =>
  obtain ⟨cur, ev, ex⟩ := j
  obtain ⟨z1, z2, z3, z4⟩ := hz
  simp only at z1 z2 z3 z4
  have z2' := z2
  unfold Hello.Mid at z2'
  cases suf with
  | nil =>
   cbv
   rw [F.lt_f hi lp (by simp [hl'])]; cbv
   rw [hQ1]; cbv
   rw [hQ]; cbv
   rw [z3, z4]
   exact congrArg some (rA cur (by rw [← z1]; rfl))
  | cons x suf =>
   obtain ⟨ix, hix⟩ := nm (pre.length * 4)
   obtain ⟨e1, he1⟩ := nm (row fI x.drops)
   obtain ⟨e2, he2⟩ := nm (row fI x.strips)
   have hx := pm x (by rw [hl']; simp)
   unfold Box.Mid at hx
   have hi' : At (add .i64 i 1) (pre ++ [x]).length := at_len (F.inc hi (by rw [hl'] at pl; simp at pl; omega)) (by simp)
   have hl2 : path = (pre ++ [x]) ++ suf := by rw [hl']; simp
   have p0 : at' 4 ep i = some (ix, [.int .i64 x.limit, .row () e1, .row () e2, .bool x.lists]) := by rw [hix, he1, he2]; exact F.get hi hep hl' (fun _ => rfl) (by decide)
   cases hok : pbOk x cur with
   | true =>
    obtain ⟨nx, hnx⟩ := nm (row fExt (sel (stripE x.strips) idE cur.exts))
    have hV : pbV x cur = ⟨cur.versions, sel (stripE x.strips) idE cur.exts⟩ := by rw [pbV, hok]; rfl
    have c3 : o 174 [sBox x.limit e1 e2 x.lists (.sp 0 1) (.sp 0 2), sHello ev ex (.sp 1 0) (.sp 1 1)] = some ⟨[sHello ev nx (.ow false) (.ow false), B true], [], none⟩ := by
     rw [ho, he1, he2, z3, z4, hnx]
     exact ok174r x cur (by omega) (by omega) z2 rfl rfl rfl rfl _ (fun _ => rfl) (fun q => by rw [hok] at q; cases q)
    cbv
    rw [F.lt_t hi lp (by simp [hl'])]; cbv
    rw [p0]; cbv
    rw [c3]; cbv
    refine ih (suf, pre ++ [x], add .i64 i 1, some (pbV x cur, ev, nx)) ⟨hi', hl2, ?_, pbV_mid z2, ?_, ?_⟩ (by simp)
    ·simp only; rw [← z1, ppGo, hok, if_pos rfl]
    ·simp only; rw [hV, z3]
    ·simp only; rw [hV, hnx]
   | false =>
    have c3 : o 174 [sBox x.limit e1 e2 x.lists (.sp 0 1) (.sp 0 2), sHello ev ex (.sp 1 0) (.sp 1 1)] = some ⟨[sHello [] [] .nl .nl, B false], [], none⟩ := by
     rw [ho, he1, he2, z3, z4]
     exact ok174r x cur (by omega) (by omega) z2 rfl rfl rfl rfl _ (fun q => by rw [hok] at q; cases q) (fun _ => rfl)
    cbv
    rw [F.lt_t hi lp (by simp [hl'])]; cbv
    rw [p0]; cbv
    rw [c3]; cbv
    refine ih (suf, pre ++ [x], add .i64 i 1, none) ⟨hi', hl2, ?_⟩ (by simp)
    simp only; rw [← z1, ppGo, hok]; rfl
theorem ok182 (path : List Box) (h : Hello) (pl : path.length ≤ 1073741824) (pm : ∀ y ∈ path, y.Mid) (mh : h.Mid) {f0 f1 f2 : Fl} (q0 : inFl f0 = true) (q1 : inFl f1 = true) (q2 : inFl f2 = true) :
  fix Tb md 182 [R (row fBox path) f0, sHello (row fI h.versions) (row fExt h.exts) f1 f2] = some ⟨[sHello (row fI (ppV path h).versions) (row fExt (ppV path h).exts) (.ow false) (.ow false), B (ppOk path h)], [], none⟩ ∨
  ((ppV path h).versions = [] ∧ (ppV path h).exts = [] ∧ fix Tb md 182 [R (row fBox path) f0, sHello (row fI h.versions) (row fExt h.exts) f1 f2] = some ⟨[sHello [] [] .nl .nl, B (ppOk path h)], [], none⟩) := by
 have hmain := fun r a c => ok182r path h pl pm mh q0 q1 q2 r a c
 unfold ppV ppOk
 rcases hq : pp path h with ⟨z, k⟩
 rcases pp_cases path h with h1 | h1
 ·rw [hq] at h1
  simp only at h1
  subst h1
  exact .inl (hmain _ (fun z' q => by rw [hq] at q; cases q; rfl) (fun q => by rw [hq] at q; cases q))
 ·rw [hq] at h1; cases h1
  exact .inr ⟨rfl, rfl, hmain _ (fun z' q => by rw [hq] at q; cases q) (fun _ => rfl)⟩
def isAns (v : Int) (l : List Ext) : Bool := inR v 1 9 && areEx l
def exI (e : Ext) : List Int := e.tag :: (e.body.length : Int) :: e.body
def encX (l : List Ext) : List Int := (l.length : Int) :: l.flatMap exI
theorem exOk_all : ∀ {suf pre : List Ext}, exOk pre suf = true → ∀ y ∈ suf, y.body.length ≤ 4 ∧ inR y.tag 0 255 = true ∧ bytes y.body = true
 | [], _, _, y, hy => by simp at hy
 | x :: suf, pre, h, y, hy => by
  simp only [exOk, Bool.and_eq_true] at h
  obtain ⟨⟨⟨⟨h1, h2⟩, h3⟩, h4⟩, h5⟩ := h
  rcases List.mem_cons.1 hy with rfl | hy
  ·refine ⟨?_, h1, h3⟩
   simp at h2; omega
  ·exact exOk_all h5 y hy
theorem areEx_all {l : List Ext} (h : areEx l = true) : l.length ≤ 6 ∧ ∀ y ∈ l, y.body.length ≤ 4 ∧ inR y.tag 0 255 = true ∧ bytes y.body = true := by
 simp only [areEx, Bool.and_eq_true, decide_eq_true_eq] at h
 exact ⟨h.2, exOk_all h.1⟩
theorem exI_len : ∀ {l : List Ext}, (∀ y ∈ l, y.body.length ≤ 4) → (l.flatMap exI).length ≤ 6 * l.length
 | [], _ => by simp
 | x :: l, h => by
  have h1 := h x (by simp)
  have h2 := exI_len (l := l) (fun y hy => h y (by simp [hy]))
  rw [List.flatMap_cons, List.length_append, List.length_cons]
  simp only [exI, List.length_cons]
  omega
theorem encX_len {l : List Ext} (h : areEx l = true) : (encX l).length ≤ 37 := by
 obtain ⟨h1, h2⟩ := areEx_all h
 have := exI_len (fun y hy => (h2 y hy).1)
 simp only [encX, List.length_cons]
 omega
theorem ok293 (l : List Ext) (hok : areEx l = true) {f0 : Fl} (h0 : inFl f0 = true) : fix Tb md 293 [R (row fExt l) f0] = some ⟨[R (row fI (encX l)) (.ow false), B true], [], none⟩ := by
 obtain ⟨hl, hw⟩ := areEx_all hok
 obtain ⟨et, het⟩ := nm (row fI (encX l))
 rw [← het]
 generalize hr : (⟨_, [], none⟩ : Ret) = r
 obtain ⟨ea, hea⟩ := nm (row fExt l)
 rw [← hea]
 obtain ⟨nl, hnl⟩ := nm ((l.length : Int))
 obtain ⟨e0, he0⟩ := nm (row fI [nl])
 have hen : encX l = nl :: l.flatMap exI := by rw [hnl]; rfl
 refine fix_fn2 (fn := ir293) tb_293 rfl rfl (by decide) rfl ?_; intro Q hQ; simp only [shutArgs, shutS, List.map_cons, List.map_nil, ir293, shut_in h0, List.head?_nil, reduceCtorEq, if_false, sExt, sHello, sAnswer, sEdit, sDeal, sBox, sDialed, sKnown]
 intro add sub mul arith eq ne lt le gt ge neg conv mn mx not beq len at' ln bd cut app allS isNil mks set o hP F ho
 have la := F.len_at hea
 have lna : len ea = nl := by rw [hnl]; exact la
 have la' : At nl l.length := hnl
 have c1 : o 271 [R ea (.sp 0 0)] = some ⟨[B true], [], none⟩ := by rw [ho, hea, ← hok]; exact ok271 _ (by omega) (fun y hy => by have := (hw y hy).1; omega) rfl
 cbv
 rw [c1]; cbv
 rw [show not true = false by rw [F.not]; rfl]; cbv
 rw [lna]
 refine loop_ind2 hP (σ := List Ext × List Ext × List (List V) × Int) (fun s => [(0, R ea .sh), (2, R [] .nl), (3, B false), (4, R s.2.2.1 (.ow false)), (5, I s.2.2.2)]) (fun s => At s.2.2.2 s.2.1.length ∧ l = s.2.1 ++ s.1 ∧ s.2.2.1 = row fI (nl :: s.2.1.flatMap exI)) (fun s => s.1.length) (l, [], [[.int .i64 nl]], 0) rfl ⟨rfl, rfl, rfl⟩ ?_
 intro c1 Q1 hc1 hQ1
 rintro ⟨suf, pre, eo, i⟩ ⟨hi, hl', hb⟩ ih
 simp only at hi hl' hb ih
 have hpre : pre.length ≤ 6 := by rw [hl'] at hl; simp at hl; omega
 have hfl : (pre.flatMap exI).length ≤ 36 := by have := exI_len (l := pre) (fun y hy => (hw y (by rw [hl']; simp [hy])).1); omega
 cbv
 cases suf with
 | nil =>
  rw [F.lt_f hi la (by simp [hl'])]; cbv
  rw [hQ1]; cbv
  rw [hQ]; cbv
  rw [← hr, het, hb, hen, hl', List.append_nil]
 | cons x suf =>
  obtain ⟨ix, hix⟩ := nm (pre.length * 2)
  obtain ⟨e1, he1⟩ := nm (row fI x.body)
  obtain ⟨nb, hnb⟩ := nm ((x.body.length : Int))
  have hx := (hw x (by rw [hl']; simp)).1
  have hxi : exI x = x.tag :: nb :: x.body := by rw [hnb]; rfl
  have p0 : at' 2 ea i = some (ix, [.int .i64 x.tag, .row () e1]) := by rw [hix, he1]; exact F.get hi hea hl' (fun _ => rfl) (by decide)
  have l1 : len e1 = nb := by rw [hnb]; exact F.len_at he1
  obtain ⟨eo1, heo1⟩ := nm (row fI (nl :: pre.flatMap exI ++ [x.tag, nb]))
  obtain ⟨eo2, heo2⟩ := nm (row fI (nl :: (pre ++ [x]).flatMap exI))
  have q1 : app 1 eo [[.int .i64 x.tag], [.int .i64 nb]] = some eo1 := by
   have h := F.app' (f := fI) (k := 1) (e2 := [[.int .i64 x.tag], [.int .i64 nb]]) (l2 := [x.tag, nb]) hb rfl (fun _ => rfl) (by simp only [List.length_cons, List.length_append, List.length_nil]; omega)
   rw [h, heo1]
  have q2 : app 1 eo1 e1 = some eo2 := by
   have h := F.app' (f := fI) (k := 1) heo1 he1 (fun _ => rfl) (by simp only [List.length_cons, List.length_append, List.length_nil]; omega)
   rw [h, heo2, List.flatMap_append, List.flatMap_cons, hxi]; simp
  have q3 : allS [[.int .i64 x.tag], [.int .i64 nb]] = true := by rw [F.allS]; rfl
  have q4 : allS e1 = true := F.scal he1 (fun _ => rfl)
  rw [F.lt_t hi la (by simp [hl'])]; cbv
  rw [p0]; cbv
  repeat' (first | (rw [p0]; cbv) | (rw [l1]; cbv) | (rw [q1]; cbv) | (rw [q2]; cbv) | (rw [q3]; cbv) | (rw [q4]; cbv))
  refine ih (suf, pre ++ [x], eo2, add .i64 i 1) ⟨at_len (F.inc hi (by omega)) (by simp), by simp [hl'], heo2⟩ (by simp)
def ansB (a : Answer) : List Int := if isAns a.version a.exts = true then a.version :: encX a.exts else []
theorem ansB_len (a : Answer) : (ansB a).length ≤ 38 := by
 unfold ansB
 split
 ·rename_i h
  have hok : areEx a.exts = true := by unfold isAns at h; simp at h; exact h.2
  have := encX_len hok
  rw [List.length_cons]; omega
 ·simp
def resv (t : Int) : Bool := inR t 0 255 && decide (Int.tmod t 16 = 10)
def notRes (e : Ext) : Bool := !resv e.tag
def tagIn (b : List Int) (e : Ext) : Bool := hasI b e.tag
def caOk (vs : List Int) (h : Hello) : Bool := isHel h && !decide (bestC vs h.versions = 0)
def caX (tg : List Int) (l : List Ext) : List Ext := sel notRes idE (sel (tagIn tg) idE l)
def caV (vs tg : List Int) (h : Hello) : Answer := if caOk vs h then ⟨bestC vs h.versions, caX tg h.exts⟩ else ⟨0, []⟩
theorem caV_mid {vs tg : List Int} {h : Hello} (m : h.Mid) : (caV vs tg h).Mid := by
 unfold caV
 split
 ·unfold Hello.Mid at m
  refine ⟨Nat.le_trans sel_len (Nat.le_trans sel_len m.2.1), fun y hy => m.2.2 y ?_⟩
  simp only [caX, sel_idE] at hy
  exact (List.mem_filter.1 (List.mem_filter.1 hy).1).1
 ·exact ⟨by simp, by simp⟩
def gEx (x : Ext) : Bool := inR x.tag 0 255 && !decide (4 < x.body.length) && bytes x.body
theorem exOk_iff : ∀ {suf pre : List Ext}, exOk pre suf = true ↔ (∀ x ∈ suf, gEx x = true ∧ ∀ y ∈ pre, y.tag ≠ x.tag) ∧ suf.Pairwise (fun x y => x.tag ≠ y.tag)
 | [], pre => by simp [exOk]
 | x :: suf, pre => by
  have hp : pre.any (tagP x.tag) = false ↔ ∀ y ∈ pre, y.tag ≠ x.tag := by simp [List.any_eq_false, tagP]
  unfold exOk
  simp only [Bool.and_eq_true, Bool.not_eq_true', exOk_iff (suf := suf) (pre := pre ++ [x]), List.pairwise_cons, hp]
  constructor
  ·rintro ⟨⟨⟨⟨a, b⟩, c⟩, d⟩, e, f⟩
   refine ⟨?_, fun y hy => ?_, f⟩
   ·intro z hz
    rcases List.mem_cons.1 hz with rfl | hz
    ·exact ⟨by unfold gEx; rw [a, b, c]; rfl, d⟩
    ·exact ⟨(e z hz).1, fun y hy => (e z hz).2 y (by simp [hy])⟩
   ·exact (e y hy).2 x (by simp)
  ·rintro ⟨h1, h2, h3⟩
   have hx := h1 x (by simp)
   unfold gEx at hx
   simp only [Bool.and_eq_true, Bool.not_eq_true'] at hx
   refine ⟨⟨⟨hx.1.1, hx.1.2⟩, hx.2⟩, fun z hz => ⟨(h1 z (by simp [hz])).1, fun y hy => ?_⟩, h3⟩
   rcases List.mem_append.1 hy with hy | hy
   ·exact (h1 z (by simp [hz])).2 y hy
   ·simp at hy; subst hy; exact h2 z hz
theorem areEx_iff {l : List Ext} : areEx l = true ↔ (∀ x ∈ l, gEx x = true) ∧ l.Pairwise (fun x y => x.tag ≠ y.tag) ∧ l.length ≤ 6 := by
 unfold areEx
 rw [Bool.and_eq_true, exOk_iff, decide_eq_true_eq]
 constructor
 ·rintro ⟨⟨h1, h2⟩, h3⟩; exact ⟨fun x hx => (h1 x hx).1, h2, h3⟩
 ·rintro ⟨h1, h2, h3⟩; exact ⟨⟨fun x hx => ⟨h1 x hx, by simp⟩, h2⟩, h3⟩
theorem areEx_sel {l : List Ext} {p : Ext → Bool} (h : areEx l = true) : areEx (sel p idE l) = true := by
 rw [sel_idE]
 obtain ⟨h1, h2, h3⟩ := areEx_iff.1 h
 exact areEx_iff.2 ⟨fun x hx => h1 x (List.mem_filter.1 hx).1, h2.filter _, Nat.le_trans (List.length_filter_le _ _) h3⟩
theorem bestC_in {a b : List Int} (h : bestC a b ≠ 0) : 1 ≤ bestC a b ∧ bestC a b ≤ 9 ∧ hasI b (bestC a b) = true ∧ hasI a (bestC a b) = true := by
 unfold bestC at h ⊢
 split at h
 ·rename_i hv
  rw [if_pos hv]
  rw [Bool.and_eq_true] at hv
  have hne : comm a b ≠ [] := fun e => by rw [e] at h; exact h rfl
  have hm : (comm a b).getLastD 0 ∈ comm a b := by
   rw [List.getLastD_eq_getLast?, List.getLast?_eq_some_getLast hne]
   exact List.getLast_mem hne
  obtain ⟨m, hmm⟩ : ∃ m, m = (comm a b).getLastD 0 := ⟨_, rfl⟩
  rw [← hmm] at hm ⊢
  have h1 := (comm_asc (b := b) hv.1).2 _ hm
  have h2 : m ∈ a ∧ hasI b m = true := by
   unfold comm at hm
   rw [sel_idI, List.mem_filter] at hm
   exact hm
  refine ⟨h1.1, h1.2, h2.2, ?_⟩
  unfold hasI
  rw [List.any_eq_true]
  exact ⟨_, h2.1, by simp⟩
 ·exact absurd rfl h
theorem caV_ans {vs tg : List Int} {h : Hello} (q : caOk vs h = true) : isAns (caV vs tg h).version (caV vs tg h).exts = true := by
 unfold caV
 rw [if_pos q]
 unfold caOk isHel at q
 simp only [Bool.and_eq_true, Bool.not_eq_true', decide_eq_false_iff_not] at q
 obtain ⟨⟨_, hx⟩, hb⟩ := q
 have := bestC_in hb
 unfold isAns
 rw [Bool.and_eq_true]
 refine ⟨?_, areEx_sel (areEx_sel hx)⟩
 unfold inR
 simp; omega
theorem caOk_hel {vs : List Int} {h : Hello} (q : caOk vs h = true) : isHel h = true := by
 unfold caOk at q; simp only [Bool.and_eq_true] at q; exact q.1
theorem ansB_ne {a : Answer} (q : isAns a.version a.exts = true) : ansB a ≠ [] := by unfold ansB; rw [if_pos q]; simp
theorem pb_clear {b : Box} {h : Hello} (c : isClear b.limit b.drops b.strips b.lists = true) (hh : isHel h = true) : pbOk b h = true ∧ pbV b h = h := by
 obtain ⟨lim, d, s, v⟩ := b
 unfold isClear at c
 simp only [Bool.and_eq_true, decide_eq_true_eq, List.isEmpty_iff, Bool.not_eq_true'] at c
 obtain ⟨⟨⟨rfl, rfl⟩, rfl⟩, rfl⟩ := c
 have hl : ∀ e, lost ⟨0, [], [], false⟩ e = false := fun e => by unfold lost hasI; simp
 have hn : h.exts.any (lost ⟨0, [], [], false⟩) = false := by rw [List.any_eq_false]; intro e _; rw [hl e]; simp
 have hs : ∀ e, stripE [] e = true := fun e => by unfold stripE hasI; simp
 have hb : isBox 0 [] [] = true := by decide
 have ho : overL ⟨0, [], [], false⟩ h = false := by unfold overL; simp
 have ok : pbOk ⟨0, [], [], false⟩ h = true := by unfold pbOk; simp only [hb, hh, ho, hn]; rfl
 refine ⟨ok, ?_⟩
 unfold pbV
 rw [if_pos ok]
 simp only [sel_idE]
 rw [List.filter_eq_self.2 (fun e _ => hs e)]
theorem pb_hel {b : Box} {h : Hello} (q : pbOk b h = true) : isHel (pbV b h) = true ∧ (pbV b h).versions = h.versions ∧ subB (sel yesE Ext.tag (pbV b h).exts) (sel yesE Ext.tag h.exts) = true ∧ sel (hasI b.strips) idI (sel yesE Ext.tag (pbV b h).exts) = [] := by
 have hh : isHel h = true := by
  have q' := q
  unfold pbOk at q'
  simp only [Bool.and_eq_true] at q'
  exact q'.1.1.2
 have e : pbV b h = ⟨h.versions, sel (stripE b.strips) idE h.exts⟩ := by unfold pbV; rw [if_pos q]
 rw [e]
 refine ⟨?_, rfl, ?_, ?_⟩
 ·unfold isHel at hh ⊢
  simp only [Bool.and_eq_true] at hh ⊢
  exact ⟨hh.1, areEx_sel hh.2⟩
 ·unfold subB
  rw [List.all_eq_true]
  intro t ht
  rw [hasI_iff]
  unfold sel at ht ⊢
  rw [List.mem_map] at ht ⊢
  obtain ⟨x, hx, rfl⟩ := ht
  refine ⟨x, ?_, rfl⟩
  rw [List.mem_filter] at hx ⊢
  have := hx.1
  rw [List.mem_map] at this
  obtain ⟨y, hy, rfl⟩ := this
  exact ⟨(List.mem_filter.1 hy).1, rfl⟩
 ·rw [List.eq_nil_iff_forall_not_mem]
  intro t ht
  rw [sel_idI, List.mem_filter] at ht
  obtain ⟨h1, h2⟩ := ht
  unfold sel at h1
  rw [List.mem_map] at h1
  obtain ⟨x, hx, rfl⟩ := h1
  have := (List.mem_filter.1 hx).1
  rw [List.mem_map] at this
  obtain ⟨y, hy, rfl⟩ := this
  have h3 := (List.mem_filter.1 hy).2
  unfold stripE at h3
  unfold idE at h2
  rw [h2] at h3
  simp at h3
theorem ppGo_clear : ∀ {p : List Box} {h : Hello}, p.all clearB = true → isHel h = true → ppGo p h = (h, true)
 | [], _, _, _ => rfl
 | b :: p, h, c, hh => by
  rw [List.all_cons, Bool.and_eq_true] at c
  obtain ⟨h1, h2⟩ := pb_clear (b := b) (h := h) c.1 hh
  unfold ppGo
  rw [if_pos h1, h2]
  exact ppGo_clear c.2 hh
theorem pp_clear {p : List Box} {h : Hello} (c : isCP p = true) : ppOk p h = isHel h := by
 unfold isCP at c
 rw [Bool.and_eq_true] at c
 unfold ppOk pp
 rw [c.2, Bool.and_true]
 cases hh : isHel h with
 | true => rw [if_pos rfl, ppGo_clear c.1 hh]
 | false => rfl
theorem fitL_U {vs : List V} (h : FitL [.int .u8] vs) : ∃ n, vs = fU n ∧ True := by
 obtain ⟨v, vs', rfl, h1, h2⟩ := fitL_cons h
 obtain ⟨n, rfl, h3⟩ := fit_int h1
 exact ⟨n, by rw [fitL_nil h2]; rfl, trivial⟩
theorem goT {x : Bool} {A B : Prop} (h : x = true) (a : A) : (match (generalizing := false) x with | true => A | false => B) := by subst h; exact a
theorem goF {x : Bool} {A B : Prop} (h : x = false) (b : B) : (match (generalizing := false) x with | true => A | false => B) := by subst h; exact b
theorem shareA {α : Type} {G : α → Prop} {C : Prop} (main : (∀ a, G a) → C) (proof : ∀ a, G a) : C := main proof
theorem shareB {α β : Type} {G : α → β → Prop} {C : Prop} (main : (∀ a b, G a b) → C) (proof : ∀ a b, G a b) : C := main proof
theorem shareC {α β γ : Type} {G : α → β → γ → Prop} {C : Prop} (main : (∀ a b c, G a b c) → C) (proof : ∀ a b c, G a b c) : C := main proof
end Go.Vm
