/- What the functions answer. -/
import Derived.Test.YtmojgceacpclpaaGLTab
import Derived.Test.YtmojgceacpclpaaGLFA
import Derived.Test.YtmojgceacpclpaaGLFB
import Derived.Test.YtmojgceacpclpaaGLFD
import Derived.Test.YtmojgceacpclpaaGLFE
import Derived.Test.YtmojgceacpclpaaGLFF
import Derived.Test.YtmojgceacpclpaaGLFH
import Derived.Test.YtmojgceacpclpaaGLFK
import Derived.Test.YtmojgceacpclpaaGLFM
import Derived.Test.YtmojgceacpclpaaGLFO
import Derived.Test.YtmojgceacpclpaaGLFP
set_option maxHeartbeats 4000000
set_option maxRecDepth 10000
set_option linter.unusedVariables false
set_option linter.unusedSimpArgs false
namespace Go.Vm
theorem dr3330 {Bs : List Int} {i : Int} (w : CW Bs i) (h : Int) :
  ∃ r, fix Tb md 3330 [sCur (row fU Bs) (.sp 0 0) i h] = some r ∧ ∃ st es l st' es' l' i' h', r = ⟨[sMach st (row fB es) (row fMove l) (.ow false) (.ow false), sMach st' (row fB es') (row fMove l') (.ow false) (.ow false)], [], some (vCur (row fU Bs) i' h')⟩ ∧ CW Bs i' ∧ (es.length ≤ 5 ∧ l.length ≤ 12) ∧ (es'.length ≤ 5 ∧ l'.length ≤ 12) := by
 obtain ⟨_, k1, st, es, l, l', i1, h1, rfl, w1, b1, b2, b3⟩ := dr3373 w h
 obtain ⟨sw, i2, h2, k2, w2, _, _⟩ := below_dr w1 h1 6 (by decide) (by decide)
 obtain ⟨_, k3, st3, es3, l3, i3, h3, rfl, w3, c1, c2, _⟩ := dr3365 w2 h2
 obtain ⟨eb, heb⟩ := nm (row fU Bs)
 obtain ⟨ee, hee⟩ := nm (row fB es)
 obtain ⟨em, hem⟩ := nm (row fMove l)
 obtain ⟨em', hem'⟩ := nm (row fMove l')
 obtain ⟨ee3, hee3⟩ := nm (row fB es3)
 obtain ⟨em3, hem3⟩ := nm (row fMove l3)
 rw [← heb] at k1 k2 k3 ⊢
 rw [← hee, ← hem, ← hem'] at k1
 rw [← hee3, ← hem3] at k3
 refine fix_bxE (fn := ir3330) tb_3330 rfl rfl rfl (by decide) ?_; intro Q W hW hQ; simp only [List.map_nil, ir3330]
 have hA : W (some ⟨[sMach st ee em (.ow false) (.ow false), sMach st3 ee3 em3 (.ow false) (.ow false)], [], some (vCur eb i3 h3)⟩) := hW _ ⟨st, es, l, st3, es3, l3, i3, h3, by rw [hee, hem, hee3, hem3], w3, ⟨b1, b2⟩, ⟨c1, by omega⟩⟩
 have hB : W (some ⟨[sMach st3 ee3 em3 (.ow false) (.ow false), sMach st ee em' (.ow false) (.ow false)], [], some (vCur eb i3 h3)⟩) := hW _ ⟨st3, es3, l3, st, es, l', i3, h3, by rw [hee, hem', hee3, hem3], w3, ⟨c1, by omega⟩, ⟨b1, b3⟩⟩
 have hC : W (some ⟨[sMach st ee em (.ow false) (.ow false), sMach st ee em' (.ow false) (.ow false)], [], some (vCur eb i2 h2)⟩) := hW _ ⟨st, es, l, st, es, l', i2, h2, by rw [hee, hem, hem'], w2, ⟨b1, b2⟩, ⟨b1, b3⟩⟩
 clear hW
 intro add sub mul arith eq ne lt le gt ge neg conv mn mx not beq len at' ln bd cut app allS isNil mks set o hP F ho
 rw [← ho] at k1 k2 k3
 cbv
 rw [k1]; cbv
 rw [k2]; cbv
 refine both (fun e => ?_) (fun e => ?_) <;> rw [e] <;> cbv
 ·rw [k3]; cbv
  rw [hQ]; cbv
  exact hA
 refine both (fun e => ?_) (fun e => ?_) <;> rw [e] <;> cbv
 ·rw [k3]; cbv
  rw [hQ]; cbv
  exact hB
 ·rw [hQ]; cbv
  exact hC
theorem dr218 (Bs : List Int) (hl : Bs.length ≤ 1048576) :
  ∃ r, fix Tb md 218 [R (row fU Bs) (.sp 0 0)] = some r ∧ ∃ st es l st' es' l', r = ⟨[sMach st (row fB es) (row fMove l) (.ow false) (.ow false), sMach st' (row fB es') (row fMove l') (.ow false) (.ow false)], [], none⟩ ∧ (es.length ≤ 5 ∧ l.length ≤ 12) ∧ (es'.length ≤ 5 ∧ l'.length ≤ 12) := by
 have k1 := ok246 Bs hl
 obtain ⟨h, hh⟩ := nm (newC Bs).h
 rw [← hh] at k1
 obtain ⟨_, k2, st, es, l, st', es', l', i1, h1, rfl, w1, b1, b2⟩ := dr3330 (CW.new hl) h
 obtain ⟨eb, heb⟩ := nm (row fU Bs)
 obtain ⟨ee, hee⟩ := nm (row fB es)
 obtain ⟨em, hem⟩ := nm (row fMove l)
 obtain ⟨ee', hee'⟩ := nm (row fB es')
 obtain ⟨em', hem'⟩ := nm (row fMove l')
 rw [← heb] at k1 k2 ⊢
 rw [← hee, ← hem, ← hee', ← hem'] at k2
 refine fix_fnE (fn := ir218) tb_218 rfl rfl (by decide) rfl ?_; intro Q W hW hQ
 simp only [shutArgs, shutS, List.map_cons, List.map_nil, ir218, shut_in (show inFl (.sp 0 0) = true from rfl), List.head?_nil, reduceCtorEq, if_false] at hQ ⊢
 have hA : W (some ⟨[sMach st ee em (.ow false) (.ow false), sMach st' ee' em' (.ow false) (.ow false)], [], none⟩) := hW _ ⟨st, es, l, st', es', l', by rw [hee, hem, hee', hem'], b1, b2⟩
 clear hW
 intro add sub mul arith eq ne lt le gt ge neg conv mn mx not beq len at' ln bd cut app allS isNil mks set o hP F ho
 rw [← ho] at k1 k2
 cbv
 rw [k1]; cbv
 rw [k2]; cbv
 rw [hQ]; cbv
 exact hA
theorem fitL_U {vs : List V} (h : FitL [.int .u8] vs) : ∃ n, vs = fU n ∧ True := by
 obtain ⟨v, vs', rfl, h1, h2⟩ := fitL_cons h
 obtain ⟨n, rfl, h3⟩ := fit_int h1
 exact ⟨n, by rw [fitL_nil h2]; rfl, trivial⟩
theorem reach_rx {f : Bool → Bool} {same : Bool} (hf : ∀ d, f d = if same then d else !d) {la lb : List Move} (ha : okM la) (hb : okM lb) {x y : Int} : Reach (nxV f la lb) [x, y] ↔ RX same la lb x y := by
 constructor
 ·have key : ∀ p, Reach (nxV f la lb) p → ∃ x y, p = [x, y] ∧ RX same la lb x y := by
   intro p hp
   induction hp with
   | zero => exact ⟨0, 0, rfl, .zero⟩
   | step hr hm ih =>
    rename_i a b q
    obtain ⟨x, y, e, hx⟩ := ih
    injection e with e1 e2
    injection e2 with e2
    subst e1; subst e2
    obtain ⟨d, m, s, t, rfl, h1, h2⟩ := (nxV_mem ha hb).1 hm
    exact ⟨s, t, rfl, .step hx h1 (by rw [← hf]; exact h2)⟩
  intro h
  obtain ⟨x', y', e, h'⟩ := key _ h
  injection e with e1 e2
  injection e2 with e2
  subst e1; subst e2
  exact h'
 ·intro h
  induction h with
  | zero => exact .zero
  | step hr h1 h2 ih => exact .step ih ((nxV_mem ha hb).2 ⟨_, _, _, _, rfl, h1, by rw [hf]; exact h2⟩)
theorem lack_f {l l' : List Move} {s s' : Int} {d d' : Bool} : lack (sortI (mvs l s d)) (sortI (mvs l' s' d')) = false ↔ ∀ m, has l s d m → has l' s' d' m := by
 rw [lack_all, Bool.not_eq_false', List.all_eq_true]
 constructor
 ·intro h m hm
  exact mvs_mem.1 (sortI_mem.1 (hasI_in.1 (h m (sortI_mem.2 (mvs_mem.2 hm)))))
 ·intro h m hm
  exact hasI_in.2 (sortI_mem.2 (mvs_mem.2 (h m (mvs_mem.1 (sortI_mem.1 hm)))))
theorem pos_has {l : List Move} {s : Int} {d : Bool} : 0 < (sortI (mvs l s d)).length ↔ ∃ m, has l s d m := by
 constructor
 ·intro h
  obtain ⟨m, hm⟩ := List.exists_mem_of_length_pos h
  exact ⟨m, mvs_mem.1 (sortI_mem.1 hm)⟩
 ·rintro ⟨m, hm⟩
  exact List.length_pos_of_mem (sortI_mem.2 (mvs_mem.2 hm))
theorem fAt_iff {ea eb : List Bool} {la lb : List Move} {x y : Int} : fAtV ea eb la lb x y = true ↔ FAt la lb (fun s => endOf ea s = true) (fun s => endOf eb s = true) x y := by
 unfold fAtV
 simp only [Bool.and_eq_true, Bool.not_eq_true', Bool.or_eq_false_iff, Bool.not_eq_false', Bool.or_eq_true, beq_iff_eq, Bool.and_eq_false_iff, decide_eq_false_iff_not]
 rw [lack_f, lack_f]
 constructor
 ·rintro ⟨⟨h1, h2⟩, ⟨h3, h4⟩, h5⟩
  have h3' := decide_eq_decide.1 h3
  rw [pos_has, pos_has] at h3'
  refine ⟨h1, h2, h3'.1, fun h => ?_, fun h => ?_⟩
  ·rcases h4 with h4 | h4
   ·exact pos_has.1 (by omega)
   ·exact absurd (pos_has.2 h) h4
  ·rcases h5 with h5 | h5
   ·exact h5
   ·rw [h] at h5; cases h5
 ·intro h
  refine ⟨⟨h.rc, h.sd⟩, ⟨?_, ?_⟩, ?_⟩
  ·rw [decide_eq_decide, pos_has, pos_has]
   exact ⟨h.some_s, fun ⟨m, hm⟩ => ⟨m, h.sd m hm⟩⟩
  ·by_cases c : 0 < (sortI (mvs la x false)).length
   ·exact .inl (by have := pos_has.2 (h.some_r (pos_has.1 c)); omega)
   ·exact .inr c
  ·cases e : endOf eb y with
   | false => exact .inr rfl
   | true => exact .inl (h.en e)
theorem nx_some {la lb : List Move} (ha : okM la) (hb : okM lb) {x y : Int} : (nxV Bool.not la lb x y).length = 0 ↔ ¬ ∃ d m, has la x d m ∧ has lb y (!d) m := by
 constructor
 ·rintro h ⟨d, m, ⟨s, h1⟩, ⟨t, h2⟩⟩
  have := List.length_pos_of_mem ((nxV_mem (f := Bool.not) ha hb).2 ⟨d, m, s, t, rfl, h1, h2⟩)
  omega
 ·intro h
  rw [List.length_eq_zero_iff]
  refine List.eq_nil_iff_forall_not_mem.2 fun p hp => h ?_
  obtain ⟨d, m, s, t, _, h1, h2⟩ := (nxV_mem ha hb).1 hp
  exact ⟨d, m, ⟨s, h1⟩, ⟨t, h2⟩⟩
theorem noTr_iff {ea eb : List Bool} {la lb : List Move} (ha : okM la) (hb : okM lb) {x y : Int} : noTr ea eb la lb x y = true ↔ Fine la lb (fun s => endOf ea s = true) (fun s => endOf eb s = true) x y := by
 unfold noTr trV
 rw [decide_eq_true_eq]
 constructor
 ·intro h
  split at h
  ·cases h
  ·rename_i c1
   split at h
   ·cases h
   ·rename_i c2
    rw [Bool.or_eq_true, not_or, Bool.not_eq_true, Bool.not_eq_true, lack_f, lack_f] at c1
    refine ⟨c1.1, c1.2, ?_⟩
    rw [Bool.and_eq_true, decide_eq_true_eq, Bool.not_eq_true', Bool.and_eq_false_iff] at c2
    by_cases q : (nxV Bool.not la lb x y).length = 0
    ·right
     cases e1 : endOf ea x with
     | false => exact absurd ⟨q, .inl e1⟩ c2
     | true => cases e2 : endOf eb y with
      | false => exact absurd ⟨q, .inr e2⟩ c2
      | true => exact ⟨rfl, rfl⟩
    ·left
     rw [nx_some ha hb] at q
     exact Classical.not_not.1 q
 ·intro h
  rw [if_neg (by rw [lack_f.2 h.ab, lack_f.2 h.ba]; decide)]
  rw [if_neg]
  rw [Bool.and_eq_true, decide_eq_true_eq, nx_some ha hb]
  rintro ⟨q1, q2⟩
  rcases h.go with h | ⟨h1, h2⟩
  ·exact q1 h
  ·rw [h1, h2] at q2; cases q2
open Classical in
theorem folV_iff {sa sb : Int} {ea eb : List Bool} {la lb : List Move} : folV sa ea la sb eb lb = true ↔ mchO sa ea la = true ∧ mchO sb eb lb = true ∧ ∀ x y, RX true la lb x y → FAt la lb (fun s => endOf ea s = true) (fun s => endOf eb s = true) x y := by
 unfold folV
 rw [Bool.and_eq_true, Bool.and_eq_true, decide_eq_true_eq, and_assoc]
 refine and_congr_right fun h1 => and_congr_right fun h2 => ?_
 have ha := (mch_mc h1).ok
 have hb := (mch_mc h2).ok
 constructor
 ·intro h x y hr
  exact fAt_iff.1 (h x y ((reach_rx (same := true) (fun _ => rfl) ha hb).2 hr))
 ·intro h x y hr
  exact fAt_iff.2 (h x y ((reach_rx (same := true) (fun _ => rfl) ha hb).1 hr))
open Classical in
theorem safV_iff {sa sb : Int} {ea eb : List Bool} {la lb : List Move} : safV sa ea la sb eb lb = true ↔ mchO sa ea la = true ∧ mchO sb eb lb = true ∧ ∀ x y, RX false la lb x y → Fine la lb (fun s => endOf ea s = true) (fun s => endOf eb s = true) x y := by
 unfold safV
 rw [Bool.and_eq_true, Bool.and_eq_true, decide_eq_true_eq, and_assoc]
 refine and_congr_right fun h1 => and_congr_right fun h2 => ?_
 have ha := (mch_mc h1).ok
 have hb := (mch_mc h2).ok
 constructor
 ·intro h x y hr
  exact (noTr_iff ha hb).1 (h x y ((reach_rx (same := false) (fun _ => rfl) ha hb).2 hr))
 ·intro h x y hr
  exact (noTr_iff ha hb).2 (h x y ((reach_rx (same := false) (fun _ => rfl) ha hb).1 hr))
theorem fol_saf {sn so sm : Int} {en eo em : List Bool} {ln lo lm : List Move} (hF : folV sn en ln so eo lo = true) (hS : safV so eo lo sm em lm = true) : safV sn en ln sm em lm = true := by
 obtain ⟨f1, f2, f3⟩ := folV_iff.1 hF
 obtain ⟨s1, s2, s3⟩ := safV_iff.1 hS
 exact safV_iff.2 ⟨f1, s2, follow_safe f3 s3⟩
theorem fol_self {so : Int} {eo : List Bool} {lo : List Move} : folV so eo lo so eo lo = mchO so eo lo := by
 rw [Bool.eq_iff_iff, folV_iff]
 exact ⟨fun h => h.1, fun h => ⟨h, h, follow_self (mch_mc h).ok⟩⟩
end Go.Vm
