/- What the functions answer. -/
import Derived.Test.YtmojgceacpclpaaGLTab
import Derived.Test.YtmojgceacpclpaaGLFA
import Derived.Test.YtmojgceacpclpaaGLFD
import Derived.Test.YtmojgceacpclpaaGLFE
import Derived.Test.YtmojgceacpclpaaGLFF
import Derived.Test.YtmojgceacpclpaaGLFJ
import Derived.Test.YtmojgceacpclpaaGLFK
import Derived.Test.YtmojgceacpclpaaGLFL
import Derived.Test.YtmojgceacpclpaaGLFM
import Derived.Test.YtmojgceacpclpaaGLFN
set_option maxHeartbeats 4000000
set_option maxRecDepth 10000
set_option linter.unusedVariables false
set_option linter.unusedSimpArgs false
namespace Go.Vm
theorem ok215 (sa sb : Int) (ea eb : List Bool) (la lb : List Move) (hea : ea.length ≤ 1073741824) (hla : la.length ≤ 1073741824) (heb : eb.length ≤ 1073741824) (hlb : lb.length ≤ 1073741824) {f0 f1 f2 f3 : Fl} (h0 : inFl f0 = true) (h1 : inFl f1 = true) (h2 : inFl f2 = true) (h3 : inFl f3 = true) :
  fix Tb md 215 [sMach sa (row fB ea) (row fMove la) f0 f1, sMach sb (row fB eb) (row fMove lb) f2 f3] = some ⟨[B (folV sa ea la sb eb lb)], [], none⟩ := by
 obtain ⟨T, hT⟩ := nm (folV sa ea la sb eb lb)
 rw [← hT]
 have ka := ok326 sa ea la hea hla (f0 := .sp 0 1) (f1 := .sp 0 2) rfl rfl
 have kb := ok326 sb eb lb heb hlb (f0 := .sp 0 1) (f1 := .sp 0 2) rfl rfl
 obtain ⟨ma, hma⟩ := nm (mchO sa ea la)
 obtain ⟨mb, hmb⟩ := nm (mchO sb eb lb)
 have hPP : ma = true → mb = true → ∃ L, fix Tb md 327 [sMach sa (row fB ea) (row fMove la) (.sp 0 1) (.sp 0 2), sMach sb (row fB eb) (row fMove lb) (.sp 1 1) (.sp 1 2)] = some ⟨[R (row fR L) (.ow false)], [], none⟩ ∧ Rch (nxV id la lb) L ∧ L.all (onP (fAtV ea eb la lb)) = T ∧
   ∀ x y, fix Tb md 328 [sMach sa (row fB ea) (row fMove la) (.sp 0 1) (.sp 0 2), sMach sb (row fB eb) (row fMove lb) (.sp 1 1) (.sp 1 2), I x, I y] = some ⟨[B (fAtV ea eb la lb x y)], [], none⟩ := fun qa qb => by
  rw [hma] at qa
  rw [hmb] at qb
  obtain ⟨_, k, L, rfl, hL⟩ := ok327 sa sb ea eb la lb qa qb (f0 := .sp 0 1) (f1 := .sp 0 2) (f2 := .sp 1 1) (f3 := .sp 1 2) rfl rfl rfl rfl
  exact ⟨L, k, hL, by rw [all_reach hL, hT, folV, qa, qb]; rfl, fun x y => ok328 sa sb ea eb la lb x y (mch_mc qa) (mch_mc qb) rfl rfl rfl rfl⟩
 have hT1 : (ma && mb) = false → T = false := fun q => by rw [hT, folV, ← hma, ← hmb, q]; rfl
 rw [← hma] at ka
 rw [← hmb] at kb
 generalize hr : (⟨_, [], none⟩ : Ret) = r
 obtain ⟨e1, he1⟩ := nm (row fMove la)
 obtain ⟨e2, he2⟩ := nm (row fB ea)
 obtain ⟨e3, he3⟩ := nm (row fMove lb)
 obtain ⟨e4, he4⟩ := nm (row fB eb)
 rw [← he1, ← he2] at ka hPP
 rw [← he3, ← he4] at kb hPP
 rw [← he1, ← he2, ← he3, ← he4]
 have fin : ∀ v, T = v → some (⟨[B v], [], none⟩ : Ret) = some r := fun v e => by rw [← e, hr]
 clear hma hmb hT he1 he2 he3 he4
 refine fix_fn2 (fn := ir215) tb_215 rfl rfl (by decide) rfl ?_; intro Q hQ; simp only [shutArgs, shutS, List.map_cons, List.map_nil, ir215, shut_in h0, shut_in h1, shut_in h2, shut_in h3, List.head?_nil, reduceCtorEq, if_false, sExt, sHello, sAnswer, sEdit, sDeal, sBox, sDialed, sKnown, sMach, sMove]
 intro add sub mul arith eq ne lt le gt ge neg conv mn mx not beq len at' ln bd cut app allS isNil mks set o hP F ho
 rw [← ho] at ka kb hPP
 have gn : ∀ b, not b = !b := F.not
 cbv
 rw [ka]; cbv
 rw [gn]
 cases ma
 ·cbv
  rw [hQ]; cbv
  exact fin _ (hT1 rfl)
 cbv
 rw [kb]; cbv
 rw [gn]
 cases mb
 ·cbv
  rw [hQ]; cbv
  exact fin _ (hT1 rfl)
 cbv
 obtain ⟨L, k1, hL, hTL, k2⟩ := hPP rfl rfl
 clear hPP hT1 ka kb
 obtain ⟨el, hel⟩ := nm (row fR L)
 rw [← hel] at k1
 have ll := F.len_at hel
 have pl := hL.len
 have p2 : ∀ a b, at' 1 [[.int .i64 a], [.int .i64 b]] 0 = some (0, [.int .i64 a]) := fun a b => by rw [F.at']; rfl
 have p3 : ∀ a b, at' 1 [[.int .i64 a], [.int .i64 b]] 1 = some (1, [.int .i64 b]) := fun a b => by rw [F.at']; rfl
 rw [k1]; cbv
 refine loop_ind2 hP (σ := List (List Int) × List (List Int) × Int) (fun s => [(0, sMach sa e2 e1 .sh .sh), (1, sMach sb e4 e3 .sh .sh), (2, ⟨.ptr 42 0, []⟩), (3, ⟨.ptr 43 0, []⟩), (4, B false), (5, R el (.ow false)), (6, I s.2.2), (42, ⟨.box (), [⟨.int .i64 sa, .sc⟩, ⟨.row () e2, .sh⟩, ⟨.row () e1, .sh⟩]⟩), (43, ⟨.box (), [⟨.int .i64 sb, .sc⟩, ⟨.row () e4, .sh⟩, ⟨.row () e3, .sh⟩]⟩)])
  (fun s => At s.2.2 s.2.1.length ∧ L = s.2.1 ++ s.1 ∧ s.1.all (onP (fAtV ea eb la lb)) = T) (fun s => s.1.length) (L, [], 0) rfl ⟨rfl, rfl, hTL⟩ ?_
 intro c9 Q1 hc9 hQ1
 rintro ⟨suf, pre, i⟩ ⟨hi, hl', hb⟩ ih
 simp only at hi hl' hb ih
 cases suf with
 | nil =>
  have gl : lt i (len el) = false := F.lt_f hi ll (by simp [hl'])
  have hT2 : T = true := by rw [← hb]; rfl
  cbv
  rw [gl]; cbv
  rw [hQ1]; cbv
  rw [hQ]; cbv
  exact fin _ hT2
 | cons p suf =>
  have gl : lt i (len el) = true := F.lt_t hi ll (by simp [hl'])
  obtain ⟨x, y, hxy, _⟩ := hL.pr p (by rw [hl']; simp)
  obtain ⟨ix, hix⟩ := nm (pre.length * 1)
  have r1 : at' 1 el i = some (ix, [.row () [[.int .i64 x], [.int .i64 y]]]) := by rw [hix, F.get hi hel hl' (fun _ => rfl) (by decide), hxy]; rfl
  obtain ⟨v, hv⟩ := nm (fAtV ea eb la lb x y)
  have c2 := k2 x y
  rw [← hv] at c2
  have hb2 : (v && suf.all (onP (fAtV ea eb la lb))) = T := by rw [← hb, List.all_cons, hxy, hv]; rfl
  have hi' : At (add .i64 i 1) (pre ++ [p]).length := at_len (F.inc hi (by rw [hl'] at pl; simp at pl; omega)) (by simp)
  have ihT : v = true → _ := fun q => ih (suf, pre ++ [p], add .i64 i 1) ⟨hi', by rw [hl']; simp, by rw [q] at hb2; exact hb2⟩ (by simp)
  have hF : v = false → T = false := fun q => by rw [q] at hb2; exact hb2.symm
  clear ih
  cbv
  rw [gl]; cbv
  rw [r1]; cbv
  rw [p2]; cbv
  rw [r1]; cbv
  rw [p3]; cbv
  rw [c2]; cbv
  refine both (fun d => ?_) (fun d => ?_) <;> rw [d] <;> cbv
  ·rw [hQ1]; cbv
   rw [hQ]; cbv
   exact fin _ (hF (F.not_t d))
  ·exact ihT (F.not_f d)
theorem ok381 (sa sb : Int) (ea eb : List Bool) (la lb : List Move) (x y : Int) (ha : Mc ea la) (hb : Mc eb lb) : fix Tb md 381 [I x, I y, ⟨.val, [⟨vMach sa (row fB ea) (row fMove la), .sh⟩]⟩, ⟨.val, [⟨vMach sb (row fB eb) (row fMove lb), .sh⟩]⟩] = some ⟨[R (row fR (nxV Bool.not la lb x y)) (.ow false)], [], none⟩ := by
 have k := ok382 sa sb ea eb la lb x y ha hb (f0 := .sp 0 1) (f1 := .sp 0 2) (f2 := .sp 1 1) (f3 := .sp 1 2) rfl rfl rfl rfl
 obtain ⟨T, hT⟩ := nm (row fR (nxV Bool.not la lb x y))
 rw [← hT] at k ⊢
 generalize hr : (⟨_, [], none⟩ : Ret) = r
 obtain ⟨e1, he1⟩ := nm (row fMove la)
 obtain ⟨e2, he2⟩ := nm (row fB ea)
 obtain ⟨e3, he3⟩ := nm (row fMove lb)
 obtain ⟨e4, he4⟩ := nm (row fB eb)
 rw [← he1, ← he2, ← he3, ← he4] at k ⊢
 refine fix_fn2 (fn := ir381) tb_381 rfl rfl (by decide) rfl ?_; intro Q hQ; simp only [shutArgs, shutS, List.map_cons, List.map_nil, ir381, List.head?_nil, reduceCtorEq, if_false, sExt, sHello, sAnswer, sEdit, sDeal, sBox, sDialed, sKnown]
 intro add sub mul arith eq ne lt le gt ge neg conv mn mx not beq len at' ln bd cut app allS isNil mks set o hP F ho
 rw [← ho] at k
 cbv
 rw [k]; cbv
 rw [hQ]; cbv
 exact congrArg some hr
theorem ok371 (sa sb : Int) (ea eb : List Bool) (la lb : List Move) (ma : mchO sa ea la = true) (mb : mchO sb eb lb = true) {f0 f1 f2 f3 : Fl} (h0 : inFl f0 = true) (h1 : inFl f1 = true) (h2 : inFl f2 = true) (h3 : inFl f3 = true) :
  ∃ r, fix Tb md 371 [sMach sa (row fB ea) (row fMove la) f0 f1, sMach sb (row fB eb) (row fMove lb) f2 f3] = some r ∧ ∃ L f, r = ⟨[R (row fR L) f], [], none⟩ ∧ (f = .ow false ∨ f = .os false) ∧ Rch (nxV Bool.not la lb) L := by
 have ha := mch_mc ma
 have hb := mch_mc mb
 have ka := ok214 sa ea la (by have := ha.le; omega) (by have := ha.ll; omega) (f0 := .sp 0 1) (f1 := .sp 0 2) rfl rfl
 have kb := ok214 sb eb lb (by have := hb.le; omega) (by have := hb.ll; omega) (f0 := .sp 0 1) (f1 := .sp 0 2) rfl rfl
 rw [ma] at ka
 rw [mb] at kb
 obtain ⟨_, k, L, f, rfl, hf, hL⟩ := ok331 381 rfl (vMach sa (row fB ea) (row fMove la)) (vMach sb (row fB eb) (row fMove lb)) (nxV Bool.not la lb) (fun x y => ok381 sa sb ea eb la lb x y ha hb) (nx_pr ha hb) (fun x y => Nat.le_trans (nxV_len ha.ll hb.ll) (by decide))
 obtain ⟨e1, he1⟩ := nm (row fMove la)
 obtain ⟨e2, he2⟩ := nm (row fB ea)
 obtain ⟨e3, he3⟩ := nm (row fMove lb)
 obtain ⟨e4, he4⟩ := nm (row fB eb)
 rw [← he1, ← he2, ← he3, ← he4] at k ⊢
 rw [← he1, ← he2] at ka
 rw [← he3, ← he4] at kb
 obtain ⟨el, hel⟩ := nm (row fR L)
 rw [← hel] at k
 refine fix_fnE (fn := ir371) tb_371 rfl rfl (by decide) rfl ?_; intro Q W hW hQ; simp only [shutArgs, shutS, List.map_cons, List.map_nil, ir371, shut_in h0, shut_in h1, shut_in h2, shut_in h3, List.head?_nil, reduceCtorEq, if_false, sMach] at hQ ⊢
 have hW' : ∀ f, (f = .ow false ∨ f = .os false) → W (some ⟨[R el f], [], none⟩) := fun f hf => hW _ ⟨L, f, by rw [hel], hf, hL⟩
 clear hW
 intro add sub mul arith eq ne lt le gt ge neg conv mn mx not beq len at' ln bd cut app allS isNil mks set o hP F ho
 rw [← ho] at ka kb k
 have g1 : not true = false := by rw [F.not]; rfl
 rcases hf with rfl | rfl
 all_goals
  cbv
  rw [ka]; cbv
  rw [g1]; cbv
  rw [kb]; cbv
  rw [g1]; cbv
  rw [k]; cbv
  rw [hQ]; cbv
  first
  | exact hW' _ (.inl rfl)
  | exact hW' _ (.inr rfl)
def trV (ea eb : List Bool) (la lb : List Move) (x y : Int) : Int :=
 if (lack (sortI (mvs la x true)) (sortI (mvs lb y false)) || lack (sortI (mvs lb y true)) (sortI (mvs la x false))) = true then 1
 else if (decide ((nxV Bool.not la lb x y).length = 0) && !(endOf ea x && endOf eb y)) = true then 2 else 0
theorem ok372 (sa sb : Int) (ea eb : List Bool) (la lb : List Move) (x y : Int) (ha : Mc ea la) (hb : Mc eb lb) {f0 f1 f2 f3 : Fl} (h0 : inFl f0 = true) (h1 : inFl f1 = true) (h2 : inFl f2 = true) (h3 : inFl f3 = true) :
  fix Tb md 372 [sMach sa (row fB ea) (row fMove la) f0 f1, sMach sb (row fB eb) (row fMove lb) f2 f3, I x, I y] = some ⟨[I (trV ea eb la lb x y)], [], none⟩ := by
 obtain ⟨T, hT⟩ := nm (trV ea eb la lb x y)
 rw [← hT]
 have kx := fun d => ha.k334 (st := sa) x d (f0 := .sp 0 1) (f1 := .sp 0 2) rfl rfl
 have ky := fun d => hb.k334 (st := sb) y d (f0 := .sp 0 1) (f1 := .sp 0 2) rfl rfl
 have kex := ok335 sa ea la x (by have := ha.le; omega) (f0 := .sp 0 1) (f1 := .sp 0 2) rfl rfl
 have key := ok335 sb eb lb y (by have := hb.le; omega) (f0 := .sp 0 1) (f1 := .sp 0 2) rfl rfl
 have nx : ∀ d, (sortI (mvs la x d)).length ≤ 12 := fun d => by rw [sortI_len]; exact Nat.le_trans mvs_len ha.ll
 have ny : ∀ d, (sortI (mvs lb y d)).length ≤ 12 := fun d => by rw [sortI_len]; exact Nat.le_trans mvs_len hb.ll
 have w1 := ok287 (sortI (mvs la x true)) (sortI (mvs lb y false)) (by have := nx true; omega) (by have := ny false; omega) (f0 := .sp 0 0) (f1 := .sp 1 0) rfl rfl
 have w2 := ok287 (sortI (mvs lb y true)) (sortI (mvs la x false)) (by have := ny true; omega) (by have := nx false; omega) (f0 := .sp 0 0) (f1 := .sp 1 0) rfl rfl
 have kn := ok382 sa sb ea eb la lb x y ha hb (f0 := .sp 0 1) (f1 := .sp 0 2) (f2 := .sp 1 1) (f3 := .sp 1 2) rfl rfl rfl rfl
 have kxt := kx true
 have kxf := kx false
 have kyt := ky true
 have kyf := ky false
 clear kx ky nx ny
 generalize hr : (⟨_, [], none⟩ : Ret) = r
 obtain ⟨e1, he1⟩ := nm (row fMove la)
 obtain ⟨e2, he2⟩ := nm (row fB ea)
 obtain ⟨e3, he3⟩ := nm (row fMove lb)
 obtain ⟨e4, he4⟩ := nm (row fB eb)
 obtain ⟨ns, hns⟩ := nm (row fI (sortI (mvs la x true)))
 obtain ⟨nr, hnr⟩ := nm (row fI (sortI (mvs la x false)))
 obtain ⟨os, hos⟩ := nm (row fI (sortI (mvs lb y true)))
 obtain ⟨or', hor'⟩ := nm (row fI (sortI (mvs lb y false)))
 obtain ⟨l1, hl1⟩ := nm (row fI (sel (notIn (sortI (mvs lb y false))) idI (sortI (mvs la x true))))
 obtain ⟨l2, hl2⟩ := nm (row fI (sel (notIn (sortI (mvs la x false))) idI (sortI (mvs lb y true))))
 obtain ⟨l3, hl3⟩ := nm (row fR (nxV Bool.not la lb x y))
 rw [← he1, ← he2] at kxt kxf kex kn
 rw [← he3, ← he4] at kyt kyf key kn
 rw [← hns] at kxt
 rw [← hnr] at kxf
 rw [← hos] at kyt
 rw [← hor'] at kyf
 rw [← hl1, ← hns, ← hor'] at w1
 rw [← hl2, ← hnr, ← hos] at w2
 rw [← hl3] at kn
 rw [← he1, ← he2, ← he3, ← he4]
 obtain ⟨b1, hb1⟩ := nm (lack (sortI (mvs la x true)) (sortI (mvs lb y false)))
 obtain ⟨b2, hb2⟩ := nm (lack (sortI (mvs lb y true)) (sortI (mvs la x false)))
 obtain ⟨b3, hb3⟩ := nm (decide ((nxV Bool.not la lb x y).length = 0))
 obtain ⟨b7, hb7⟩ := nm (endOf ea x)
 obtain ⟨b8, hb8⟩ := nm (endOf eb y)
 unfold trV at hT
 rw [← hb1, ← hb2, ← hb3, ← hb7, ← hb8] at hT
 rw [← hb7] at kex
 rw [← hb8] at key
 have fin : ∀ v, T = v → some (⟨[I v], [], none⟩ : Ret) = some r := fun v e => by rw [← e, hr]
 refine fix_fn2 (fn := ir372) tb_372 rfl rfl (by decide) rfl ?_; intro Q hQ; simp only [shutArgs, shutS, List.map_cons, List.map_nil, ir372, shut_in h0, shut_in h1, shut_in h2, shut_in h3, List.head?_nil, reduceCtorEq, if_false, sExt, sHello, sAnswer, sEdit, sDeal, sBox, sDialed, sKnown, sMach, sMove]
 intro add sub mul arith eq ne lt le gt ge neg conv mn mx not beq len at' ln bd cut app allS isNil mks set o hP F ho
 rw [← ho] at kxt kxf kyt kyf kex key w1 w2 kn
 have g1 : gt (len l1) 0 = b1 := by rw [F.gt, show len l1 = _ from F.len_at hl1, hb1]; unfold lack; simp
 have g2 : gt (len l2) 0 = b2 := by rw [F.gt, show len l2 = _ from F.len_at hl2, hb2]; unfold lack; simp
 have g3 : eq (len l3) 0 = b3 := by rw [F.eq, show len l3 = _ from F.len_at hl3, hb3]; simp
 have gn : ∀ b, not b = !b := F.not
 clear hb1 hb2 hb3 hb7 hb8
 cbv
 rw [kxt]; cbv
 rw [kyf]; cbv
 rw [w1]; cbv
 rw [g1]
 refine both (fun d => ?_) (fun d => ?_) <;> rw [d] at hT ⊢ <;> cbv
 ·rw [hQ]; cbv
  exact fin _ (by rw [hT]; rfl)
 rw [kyt]; cbv
 rw [kxf]; cbv
 rw [w2]; cbv
 rw [g2]
 refine both (fun d => ?_) (fun d => ?_) <;> rw [d] at hT ⊢ <;> cbv
 ·rw [hQ]; cbv
  exact fin _ (by rw [hT]; rfl)
 rw [kn]; cbv
 rw [g3]
 cases b3
 ·cbv
  rw [hQ]; cbv
  exact fin _ (by rw [hT]; rfl)
 cbv
 rw [kex]; cbv
 cases b7
 ·cbv
  rw [gn]; cbv
  rw [hQ]; cbv
  exact fin _ (by rw [hT]; rfl)
 ·cbv
  rw [key]; cbv
  rw [gn]
  cases b8
  ·cbv
   rw [hQ]; cbv
   exact fin _ (by rw [hT]; rfl)
  ·cbv
   rw [hQ]; cbv
   exact fin _ (by rw [hT]; rfl)
def noTr (ea eb : List Bool) (la lb : List Move) (x y : Int) : Bool := decide (trV ea eb la lb x y = 0)
open Classical in
theorem ok329 (sa sb : Int) (ea eb : List Bool) (la lb : List Move) (ma : mchO sa ea la = true) (mb : mchO sb eb lb = true) {f0 f1 f2 f3 : Fl} (h0 : inFl f0 = true) (h1 : inFl f1 = true) (h2 : inFl f2 = true) (h3 : inFl f3 = true) :
  ∃ r, fix Tb md 329 [sMach sa (row fB ea) (row fMove la) f0 f1, sMach sb (row fB eb) (row fMove lb) f2 f3] = some r ∧ ∃ q f, r = ⟨[R q f], [], none⟩ ∧ (f = .nl ∨ f = .ow false ∨ f = .no) ∧ decide (q.length = 0) = decide (∀ x y, Reach (nxV Bool.not la lb) [x, y] → noTr ea eb la lb x y = true) := by
 have ha := mch_mc ma
 have hb := mch_mc mb
 obtain ⟨_, k1, L, f, rfl, hf, hL⟩ := ok371 sa sb ea eb la lb ma mb (f0 := .sp 0 1) (f1 := .sp 0 2) (f2 := .sp 1 1) (f3 := .sp 1 2) rfl rfl rfl rfl
 obtain ⟨bf, rfl⟩ := flO_ex hf
 have k2 := fun x y => ok372 sa sb ea eb la lb x y ha hb (f0 := .sp 0 1) (f1 := .sp 0 2) (f2 := .sp 1 1) (f3 := .sp 1 2) rfl rfl rfl rfl
 rw [← all_reach hL]
 obtain ⟨T, hT⟩ := nm (L.all (onP (noTr ea eb la lb)))
 rw [← hT]
 obtain ⟨e1, he1⟩ := nm (row fMove la)
 obtain ⟨e2, he2⟩ := nm (row fB ea)
 obtain ⟨e3, he3⟩ := nm (row fMove lb)
 obtain ⟨e4, he4⟩ := nm (row fB eb)
 obtain ⟨el, hel⟩ := nm (row fR L)
 rw [← he1, ← he2, ← he3, ← he4] at k1 k2 ⊢
 rw [← hel] at k1
 refine fix_fnE (fn := ir329) tb_329 rfl rfl (by decide) rfl ?_; intro Q W hW hQ; simp only [shutArgs, shutS, List.map_cons, List.map_nil, ir329, shut_in h0, shut_in h1, shut_in h2, shut_in h3, List.head?_nil, reduceCtorEq, if_false, sMach] at hQ ⊢
 have hW0 : T = true → W (some ⟨[R [] .nl], [], none⟩) := fun q => hW _ ⟨[], _, rfl, .inl rfl, by rw [q]; rfl⟩
 have hW1 : ∀ x y : Int, T = false → W (some ⟨[R [[.int .i64 x], [.int .i64 y]] (.ow false)], [], none⟩) := fun x y q => hW _ ⟨_, _, rfl, .inr (.inl rfl), by rw [q]; rfl⟩
 have hW2 : ∀ x y : Int, T = false → W (some ⟨[R [[.int .i64 x], [.int .i64 y]] .no], [], none⟩) := fun x y q => hW _ ⟨_, _, rfl, .inr (.inr rfl), by rw [q]; rfl⟩
 clear hW
 intro add sub mul arith eq ne lt le gt ge neg conv mn mx not beq len at' ln bd cut app allS isNil mks set o hP F ho
 rw [← ho] at k1 k2
 have ll := F.len_at hel
 have pl := hL.len
 have p2 : ∀ a b, at' 1 [[.int .i64 a], [.int .i64 b]] 0 = some (0, [.int .i64 a]) := fun a b => by rw [F.at']; rfl
 have p3 : ∀ a b, at' 1 [[.int .i64 a], [.int .i64 b]] 1 = some (1, [.int .i64 b]) := fun a b => by rw [F.at']; rfl
 cases bf
 ·cbv
  rw [k1]; cbv
  refine loop_ind2 hP (σ := List (List Int) × List (List Int) × Int × Option (List (List V))) (fun s => match s.2.2.2 with
   | none => [(0, sMach sa e2 e1 .sh .sh), (1, sMach sb e4 e3 .sh .sh), (2, ⟨.ptr 29 0, []⟩), (3, ⟨.ptr 30 0, []⟩), (4, R [] .nl), (9, R el (.ow false)), (10, I (len el)), (11, I s.2.2.1), (29, ⟨.box (), [⟨.int .i64 sa, .sc⟩, ⟨.row () e2, .sh⟩, ⟨.row () e1, .sh⟩]⟩), (30, ⟨.box (), [⟨.int .i64 sb, .sc⟩, ⟨.row () e4, .sh⟩, ⟨.row () e3, .sh⟩]⟩)]
   | some q => [(0, sMach sa e2 e1 .sh .sh), (1, sMach sb e4 e3 .sh .sh), (2, ⟨.ptr 29 0, []⟩), (3, ⟨.ptr 30 0, []⟩), (4, R [] .nl), (6, R q .fr), (9, R el (.ow false)), (10, I (len el)), (11, I s.2.2.1), (29, ⟨.box (), [⟨.int .i64 sa, .sc⟩, ⟨.row () e2, .sh⟩, ⟨.row () e1, .sh⟩]⟩), (30, ⟨.box (), [⟨.int .i64 sb, .sc⟩, ⟨.row () e4, .sh⟩, ⟨.row () e3, .sh⟩]⟩)])
   (fun s => At s.2.2.1 s.2.1.length ∧ L = s.2.1 ++ s.1 ∧ s.1.all (onP (noTr ea eb la lb)) = T) (fun s => s.1.length) (L, [], 0, none) rfl ⟨rfl, rfl, hT.symm⟩ ?_
  intro c9 Q1 hc9 hQ1
  rintro ⟨suf, pre, i, j⟩ ⟨hi, hl', hb'⟩ ih
  simp only at hi hl' hb' ih
  cases suf with
  | nil =>
   have gl : lt i (len el) = false := F.lt_f hi ll (by simp [hl'])
   have hT2 : T = true := by rw [← hb']; rfl
   clear ih
   rcases j with _ | q
   all_goals
    cbv
    rw [gl]; cbv
    rw [hQ1]; cbv
    rw [hQ]; cbv
    exact hW0 hT2
  | cons p suf =>
   have gl : lt i (len el) = true := F.lt_t hi ll (by simp [hl'])
   obtain ⟨x, y, hxy, _⟩ := hL.pr p (by rw [hl']; simp)
   obtain ⟨ix, hix⟩ := nm (pre.length * 1)
   have r1 : at' 1 el i = some (ix, [.row () [[.int .i64 x], [.int .i64 y]]]) := by rw [hix, F.get hi hel hl' (fun _ => rfl) (by decide), hxy]; rfl
   obtain ⟨v, hv⟩ := nm (trV ea eb la lb x y)
   have c2 := k2 x y
   rw [← hv] at c2
   have g0 : ne v 0 = !decide (v = 0) := by rw [F.ne]; simp
   obtain ⟨z, hz⟩ := nm (decide (v = 0))
   rw [← hz] at g0
   have hb2 : (z && suf.all (onP (noTr ea eb la lb))) = T := by rw [← hb', List.all_cons, hxy, hz, hv]; rfl
   have hi' : At (add .i64 i 1) (pre ++ [p]).length := at_len (F.inc hi (by rw [hl'] at pl; simp at pl; omega)) (by simp)
   have ihT : ∀ j, z = true → _ := fun j q => ih (suf, pre ++ [p], add .i64 i 1, j) ⟨hi', by rw [hl']; simp, by rw [q] at hb2; exact hb2⟩ (by simp)
   have hF : z = false → T = false := fun q => by rw [q] at hb2; exact hb2.symm
   clear ih
   rcases j with _ | q
   all_goals
    cbv
    rw [gl]; cbv
    rw [r1]; cbv
    rw [p2]; cbv
    rw [p3]; cbv
    rw [c2]; cbv
    rw [g0]
    refine both (fun d => ?_) (fun d => ?_) <;> rw [d] <;> cbv
    ·rw [hQ1]; cbv
     rw [hQ]; cbv
     exact hW1 x y (hF (by simpa using d))
    ·exact ihT (some _) (by simpa using d)
 ·cbv
  rw [k1]; cbv
  refine loop_ind2 hP (σ := List (List Int) × List (List Int) × Int × Option (List (List V))) (fun s => match s.2.2.2 with
   | none => [(0, sMach sa e2 e1 .sh .sh), (1, sMach sb e4 e3 .sh .sh), (2, ⟨.ptr 29 0, []⟩), (3, ⟨.ptr 30 0, []⟩), (4, R [] .nl), (9, R el (.os false)), (10, I (len el)), (11, I s.2.2.1), (29, ⟨.box (), [⟨.int .i64 sa, .sc⟩, ⟨.row () e2, .sh⟩, ⟨.row () e1, .sh⟩]⟩), (30, ⟨.box (), [⟨.int .i64 sb, .sc⟩, ⟨.row () e4, .sh⟩, ⟨.row () e3, .sh⟩]⟩)]
   | some q => [(0, sMach sa e2 e1 .sh .sh), (1, sMach sb e4 e3 .sh .sh), (2, ⟨.ptr 29 0, []⟩), (3, ⟨.ptr 30 0, []⟩), (4, R [] .nl), (6, R q .no), (9, R el (.os false)), (10, I (len el)), (11, I s.2.2.1), (29, ⟨.box (), [⟨.int .i64 sa, .sc⟩, ⟨.row () e2, .sh⟩, ⟨.row () e1, .sh⟩]⟩), (30, ⟨.box (), [⟨.int .i64 sb, .sc⟩, ⟨.row () e4, .sh⟩, ⟨.row () e3, .sh⟩]⟩)])
   (fun s => At s.2.2.1 s.2.1.length ∧ L = s.2.1 ++ s.1 ∧ s.1.all (onP (noTr ea eb la lb)) = T) (fun s => s.1.length) (L, [], 0, none) rfl ⟨rfl, rfl, hT.symm⟩ ?_
  intro c9 Q1 hc9 hQ1
  rintro ⟨suf, pre, i, j⟩ ⟨hi, hl', hb'⟩ ih
  simp only at hi hl' hb' ih
  cases suf with
  | nil =>
   have gl : lt i (len el) = false := F.lt_f hi ll (by simp [hl'])
   have hT2 : T = true := by rw [← hb']; rfl
   clear ih
   rcases j with _ | q
   all_goals
    cbv
    rw [gl]; cbv
    rw [hQ1]; cbv
    rw [hQ]; cbv
    exact hW0 hT2
  | cons p suf =>
   have gl : lt i (len el) = true := F.lt_t hi ll (by simp [hl'])
   obtain ⟨x, y, hxy, _⟩ := hL.pr p (by rw [hl']; simp)
   obtain ⟨ix, hix⟩ := nm (pre.length * 1)
   have r1 : at' 1 el i = some (ix, [.row () [[.int .i64 x], [.int .i64 y]]]) := by rw [hix, F.get hi hel hl' (fun _ => rfl) (by decide), hxy]; rfl
   obtain ⟨v, hv⟩ := nm (trV ea eb la lb x y)
   have c2 := k2 x y
   rw [← hv] at c2
   have g0 : ne v 0 = !decide (v = 0) := by rw [F.ne]; simp
   obtain ⟨z, hz⟩ := nm (decide (v = 0))
   rw [← hz] at g0
   have hb2 : (z && suf.all (onP (noTr ea eb la lb))) = T := by rw [← hb', List.all_cons, hxy, hz, hv]; rfl
   have hi' : At (add .i64 i 1) (pre ++ [p]).length := at_len (F.inc hi (by rw [hl'] at pl; simp at pl; omega)) (by simp)
   have ihT : ∀ j, z = true → _ := fun j q => ih (suf, pre ++ [p], add .i64 i 1, j) ⟨hi', by rw [hl']; simp, by rw [q] at hb2; exact hb2⟩ (by simp)
   have hF : z = false → T = false := fun q => by rw [q] at hb2; exact hb2.symm
   clear ih
   rcases j with _ | q
   all_goals
    cbv
    rw [gl]; cbv
    rw [r1]; cbv
    rw [p2]; cbv
    rw [p3]; cbv
    rw [c2]; cbv
    rw [g0]
    refine both (fun d => ?_) (fun d => ?_) <;> rw [d] <;> cbv
    ·rw [hQ1]; cbv
     rw [hQ]; cbv
     exact hW2 x y (hF (by simpa using d))
    ·exact ihT (some _) (by simpa using d)
open Classical in
noncomputable def safV (sa : Int) (ea : List Bool) (la : List Move) (sb : Int) (eb : List Bool) (lb : List Move) : Bool := mchO sa ea la && mchO sb eb lb && decide (∀ x y, Reach (nxV Bool.not la lb) [x, y] → noTr ea eb la lb x y = true)
theorem ok216 (sa sb : Int) (ea eb : List Bool) (la lb : List Move) (hea : ea.length ≤ 1073741824) (hla : la.length ≤ 1073741824) (heb : eb.length ≤ 1073741824) (hlb : lb.length ≤ 1073741824) {f0 f1 f2 f3 : Fl} (h0 : inFl f0 = true) (h1 : inFl f1 = true) (h2 : inFl f2 = true) (h3 : inFl f3 = true) :
  fix Tb md 216 [sMach sa (row fB ea) (row fMove la) f0 f1, sMach sb (row fB eb) (row fMove lb) f2 f3] = some ⟨[B (safV sa ea la sb eb lb)], [], none⟩ := by
 obtain ⟨T, hT⟩ := nm (safV sa ea la sb eb lb)
 rw [← hT]
 have ka := ok214 sa ea la hea hla (f0 := .sp 0 1) (f1 := .sp 0 2) rfl rfl
 have kb := ok214 sb eb lb heb hlb (f0 := .sp 0 1) (f1 := .sp 0 2) rfl rfl
 obtain ⟨ma, hma⟩ := nm (mchO sa ea la)
 obtain ⟨mb, hmb⟩ := nm (mchO sb eb lb)
 have hPP : ma = true → mb = true → ∃ q f, fix Tb md 329 [sMach sa (row fB ea) (row fMove la) (.sp 0 1) (.sp 0 2), sMach sb (row fB eb) (row fMove lb) (.sp 1 1) (.sp 1 2)] = some ⟨[R q f], [], none⟩ ∧ (f = .nl ∨ f = .ow false ∨ f = .no) ∧ T = decide (q.length = 0) := fun qa qb => by
  rw [hma] at qa
  rw [hmb] at qb
  obtain ⟨_, k, q, f, rfl, hf, hq⟩ := ok329 sa sb ea eb la lb qa qb (f0 := .sp 0 1) (f1 := .sp 0 2) (f2 := .sp 1 1) (f3 := .sp 1 2) rfl rfl rfl rfl
  exact ⟨q, f, k, hf, by rw [hq, hT, safV, qa, qb]; rfl⟩
 have hT1 : (ma && mb) = false → T = false := fun q => by rw [hT, safV, ← hma, ← hmb, q]; rfl
 rw [← hma] at ka
 rw [← hmb] at kb
 generalize hr : (⟨_, [], none⟩ : Ret) = r
 obtain ⟨e1, he1⟩ := nm (row fMove la)
 obtain ⟨e2, he2⟩ := nm (row fB ea)
 obtain ⟨e3, he3⟩ := nm (row fMove lb)
 obtain ⟨e4, he4⟩ := nm (row fB eb)
 rw [← he1, ← he2] at ka hPP
 rw [← he3, ← he4] at kb hPP
 rw [← he1, ← he2, ← he3, ← he4]
 have fin : ∀ v, T = v → some (⟨[B v], [], none⟩ : Ret) = some r := fun v e => by rw [← e, hr]
 clear hma hmb hT he1 he2 he3 he4
 refine fix_fn2 (fn := ir216) tb_216 rfl rfl (by decide) rfl ?_; intro Q hQ; simp only [shutArgs, shutS, List.map_cons, List.map_nil, ir216, shut_in h0, shut_in h1, shut_in h2, shut_in h3, List.head?_nil, reduceCtorEq, if_false, sExt, sHello, sAnswer, sEdit, sDeal, sBox, sDialed, sKnown, sMach, sMove]
 intro add sub mul arith eq ne lt le gt ge neg conv mn mx not beq len at' ln bd cut app allS isNil mks set o hP F ho
 rw [← ho] at ka kb hPP
 cbv
 rw [ka]; cbv
 cases ma
 ·cbv
  rw [hQ]; cbv
  exact fin _ (hT1 rfl)
 cbv
 rw [kb]; cbv
 cases mb
 ·cbv
  rw [hQ]; cbv
  exact fin _ (hT1 rfl)
 cbv
 obtain ⟨q, f, k1, hf, hTq⟩ := hPP rfl rfl
 have g1 : eq (len q) 0 = T := by rw [F.eq, F.len, hTq]; simp
 clear hPP hT1 ka kb
 rcases hf with rfl | rfl | rfl
 all_goals
  rw [k1]; cbv
  rw [g1, hQ]; cbv
  exact fin _ rfl
end Go.Vm
