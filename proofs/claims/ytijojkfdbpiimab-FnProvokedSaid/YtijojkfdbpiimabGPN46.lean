/- What the law answers. -/
import Derived.Test.YtijojkfdbpiimabGPTab
import Derived.Test.YtijojkfdbpiimabGPFA
import Derived.Test.YtijojkfdbpiimabGPFB
import Derived.Test.YtijojkfdbpiimabGPFH
import Derived.Test.YtijojkfdbpiimabGPFL
import Derived.Test.YtijojkfdbpiimabGPFO
set_option maxHeartbeats 4000000
set_option maxRecDepth 10000
set_option linter.unusedVariables false
set_option linter.unusedSimpArgs false
namespace Go.Vm
theorem law46 (code : List Int) :
  fix Tb md 46 [R (row fU code) (.sp 0 0)] = some ⟨[B true], [], none⟩ := by
 have h0 : inFl (.sp 0 0) = true := rfl
 have k1 := ok108 code (f0 := .sp 0 0) rfl
 obtain ⟨v, hv⟩ := nm (decide (1048576 < code.length))
 rw [← hv] at k1
 generalize hr : (⟨_, [], none⟩ : Ret) = r
 cases v with
 | true =>
  obtain ⟨eb, heb⟩ := nm (row fU code)
  rw [← heb] at k1 ⊢
  refine fix_fn2 (fn := ir46) tb_46 rfl rfl (by decide) rfl ?_; intro Q hQ; simp only [shutArgs, shutS, List.map_cons, List.map_nil, ir46, shut_in h0, List.head?_nil, reduceCtorEq, if_false, sExt, sHello, sAnswer, sEdit, sDeal, sBox, sDialed, sKnown]
  intro add sub mul arith eq ne lt le gt ge neg conv mn mx not beq len at' ln bd cut app allS isNil mks set o hP F ho
  rw [← ho] at k1
  cbv
  rw [k1]; cbv
  rw [hQ]; cbv
  exact congrArg some hr
 | false =>
 have hl : code.length ≤ 1048576 := by
  have : ¬ 1048576 < code.length := of_decide_eq_false hv.symm
  omega
 obtain ⟨_, k2, l, x, p, vs, tg, k, n, rfl, hl', hx, hp, hvs, htg, hk1, hk2, hn64⟩ := dr202 code hl
 have mh : (⟨l, x⟩ : Hello).Mid := ⟨by have := hl'.1; simp only; omega, by have := hx.1; simp only; omega, fun y hy => by have := (hx.2 y hy).2.1; show y.body.length ≤ _; omega⟩
 have m1 : (⟨l, x⟩ : Hello).versions.length ≤ 1048576 := by have := hl'.1; simp only; omega
 have m2 : (⟨l, x⟩ : Hello).exts.length ≤ 1048576 := by have := hx.1; simp only; omega
 have pl : p.length ≤ 1073741824 := by have := hp.1; omega
 have pm : ∀ y ∈ p, y.Mid := fun y hy => ⟨by have := (hp.2 y hy).2.1.1; omega, by have := (hp.2 y hy).2.2.1; omega⟩
 have lv : vs.length ≤ 1073741824 := by have := hvs.1; omega
 have lt' : tg.length ≤ 1073741824 := by have := htg.1; omega
 have k3 := ok203 ⟨l, x⟩ p vs tg k n mh m1 m2 pl pm lv lt' (f0 := .sp 0 0) (f1 := .sp 0 1) (f2 := .sp 1 0) (f3 := .sp 2 0) (f4 := .sp 3 0) rfl rfl rfl rfl rfl
 have k4 := ok204 ⟨l, x⟩ p vs tg k mh m1 m2 pl pm lv lt' (f0 := .sp 0 0) (f1 := .sp 0 1) (f2 := .sp 1 0) (f3 := .sp 2 0) (f4 := .sp 3 0) rfl rfl rfl rfl rfl
 have hw : (diV ⟨l, x⟩ p vs tg k).Mid := diV_mid mh m1 m2
 have htr := diV_tries ⟨l, x⟩ p vs tg k
 have fa := @diA_no ⟨l, x⟩ p vs tg k
 have fb := @diB_no ⟨l, x⟩ p vs tg k
 obtain ⟨W, hW⟩ := nm (diV ⟨l, x⟩ p vs tg k)
 obtain ⟨a, ha⟩ := nm (diA ⟨l, x⟩ p vs tg k)
 obtain ⟨b, hb⟩ := nm (hfOk ⟨l, x⟩ p)
 have hab : a = true → b = true := fun e => by
  rw [ha] at e
  unfold diA at e
  simp only [Bool.and_eq_true] at e
  rw [hb]; exact e.1
 have hd3 : 3 ≤ n → dpV ⟨l, x⟩ p vs tg k n = ⟨⟨false, 0, []⟩, 3, []⟩ ∧ dpA ⟨l, x⟩ p vs tg k n = false ∧ dpB ⟨l, x⟩ p n = false := fun e => ⟨by unfold dpV; rw [if_pos e], by unfold dpA; rw [decide_eq_true e]; rfl, by unfold dpB; rw [decide_eq_true e]; rfl⟩
 have hd2 : ¬ 3 ≤ n → dpV ⟨l, x⟩ p vs tg k n = ⟨W.deal, mn3 W.tries n, W.up⟩ ∧ dpA ⟨l, x⟩ p vs tg k n = a ∧ dpB ⟨l, x⟩ p n = b := fun e => ⟨by unfold dpV; rw [if_neg e, ← hW], by unfold dpA; rw [decide_eq_false e, ← ha]; rfl, by unfold dpB; rw [decide_eq_false e, ← hb]; rfl⟩
 rw [← hW] at k4 hw htr fa fb
 rw [← ha, ← hb] at k4
 rw [← ha] at fa
 rw [← hb] at fb
 clear ha hb hW
 obtain ⟨⟨ok, ver, tags⟩, tries, up⟩ := W
 have wt : tags.length ≤ 1099511627776 := Nat.le_trans hw.1 (by decide)
 have wu : up.length ≤ 1099511627776 := Nat.le_trans hw.2 (by decide)
 simp only at k3 k4 htr fa fb hd2
 by_cases e3 : 3 ≤ n
 ·obtain ⟨y1, y2, y3⟩ := hd3 e3
  rw [y1, y2, y3] at k3
  clear hd2 hd3
  simp only [tF] at k3
  rw [show row fI [] = [] from rfl] at k3
  obtain ⟨eb, heb⟩ := nm (row fU code)
  obtain ⟨el, hel⟩ := nm (row fI l)
  obtain ⟨ex, hex⟩ := nm (row fExt x)
  obtain ⟨ep, hep⟩ := nm (row fBox p)
  obtain ⟨ev, hev⟩ := nm (row fI vs)
  obtain ⟨et, het⟩ := nm (row fI tg)
  obtain ⟨e1, he1⟩ := nm (row fI tags)
  obtain ⟨e2, he2⟩ := nm (row fI up)
  rw [← heb] at k1 k2 ⊢
  rw [← hel, ← hex, ← hep, ← hev, ← het] at k2 k3 k4
  rw [← he1, ← he2] at k4
  refine fix_fn2 (fn := ir46) tb_46 rfl rfl (by decide) rfl ?_; intro Q hQ; simp only [shutArgs, shutS, List.map_cons, List.map_nil, ir46, shut_in h0, List.head?_nil, reduceCtorEq, if_false, sExt, sHello, sAnswer, sEdit, sDeal, sBox, sDialed, sKnown]
  intro add sub mul arith eq ne lt le gt ge neg conv mn mx not beq len at' ln bd cut app allS isNil mks set o hP F ho
  rw [← ho] at k1 k2 k3 k4
  have g1 : gt 3 3 = false := by rw [F.gt]; rfl
  have g2 : lt n 3 = false := by rw [F.lt]; simp; omega
  have g3 : le n 0 = false := by rw [F.le]; simp; omega
  have g4 : not false = true := by rw [F.not]; rfl
  have g5 : eq (len []) 0 = true := by rw [F.eq, F.len]; rfl
  have k4' : (o 204 [sHello el ex (.sp 0 0) (.sp 0 1), R ep (.sp 1 0), R ev (.sp 2 0), R et (.sp 3 0), I k] = some ⟨[sDialed ok ver e1 tries e2 (.ow false) (.ow false)], [], none⟩) ∨ (o 204 [sHello el ex (.sp 0 0) (.sp 0 1), R ep (.sp 1 0), R ev (.sp 2 0), R et (.sp 3 0), I k] = some ⟨[sDialed ok ver [] tries e2 .nl (.ow false)], [], none⟩) ∨ (o 204 [sHello el ex (.sp 0 0) (.sp 0 1), R ep (.sp 1 0), R ev (.sp 2 0), R et (.sp 3 0), I k] = some ⟨[sDialed ok ver [] tries [] .nl .nl], [], none⟩) := by
   cases b with
   | true =>
    cases a with
    | true => exact .inl k4
    | false => rw [show e1 = [] by rw [he1, fa rfl]; rfl] at k4; exact .inr (.inl k4)
   | false =>
    cases a with
    | true => cases hab rfl
    | false => rw [show e1 = [] by rw [he1, fa rfl]; rfl, show e2 = [] by rw [he2, fb rfl]; rfl] at k4; exact .inr (.inr k4)
  clear k4
  rcases k4' with k4 | k4 | k4
  all_goals
   cbv
   rw [k1]; cbv
   rw [k2]; cbv
   rw [k3]; cbv
   rw [k4]; cbv
   rw [g1]; cbv
   rw [g2]; cbv
   rw [g3]; cbv
   rw [g2]; cbv
   rw [g4]; cbv
   rw [g5]; cbv
   rw [hQ]; cbv
   exact congrArg some hr
 ·obtain ⟨y1, y2, y3⟩ := hd2 e3
  rw [y1, y2, y3] at k3
  clear hd2 hd3
  simp only at k3
  obtain ⟨t3, ht3⟩ := nm (mn3 tries n)
  have b3 : t3 ≤ 3 := by rw [ht3]; unfold mn3; split <;> (try split) <;> omega
  have b0 : n ≤ 0 → t3 = tries := fun e => by rw [ht3]; unfold mn3; rw [if_neg (by omega)]
  rw [← ht3] at k3
  have k64 := fun {f g : Fl} (q : inFl f = true) (p : inFl g = true) => ok64 ⟨ok, ver, tags⟩ ⟨ok, ver, tags⟩ wt q p
  have k94 := fun {f f' g g' : Fl} (q : inFl f = true) (q' : inFl f' = true) (p : inFl g = true) (p' : inFl g' = true) => ok94 ⟨⟨ok, ver, tags⟩, tries, up⟩ ⟨⟨ok, ver, tags⟩, tries, up⟩ wt wu q q' p p'
  have k177 := fun {f g : Fl} (q : inFl f = true) (p : inFl g = true) => ok177 up up wu q p
  rw [decide_eq_true rfl] at k64 k94 k177
  simp only at k64 k94
  obtain ⟨eb, heb⟩ := nm (row fU code)
  obtain ⟨el, hel⟩ := nm (row fI l)
  obtain ⟨ex, hex⟩ := nm (row fExt x)
  obtain ⟨ep, hep⟩ := nm (row fBox p)
  obtain ⟨ev, hev⟩ := nm (row fI vs)
  obtain ⟨et, het⟩ := nm (row fI tg)
  obtain ⟨e1, he1⟩ := nm (row fI tags)
  obtain ⟨e2, he2⟩ := nm (row fI up)
  rw [← heb] at k1 k2 ⊢
  rw [← hel, ← hex, ← hep, ← hev, ← het] at k2 k3 k4
  rw [← he1, ← he2] at k3 k4 k94
  rw [← he1] at k64
  rw [← he2] at k177
  have all : ((fix Tb md 203 [sHello el ex (.sp 0 0) (.sp 0 1), R ep (.sp 1 0), R ev (.sp 2 0), R et (.sp 3 0), I k, I n] = some ⟨[sDialed ok ver e1 t3 e2 (.ow false) (.ow false)], [], none⟩) ∧ (fix Tb md 204 [sHello el ex (.sp 0 0) (.sp 0 1), R ep (.sp 1 0), R ev (.sp 2 0), R et (.sp 3 0), I k] = some ⟨[sDialed ok ver e1 tries e2 (.ow false) (.ow false)], [], none⟩) ∧ (fix Tb md 64 [sDeal ok ver e1 (.sp 0 2), sDeal ok ver e1 (.sp 1 2)] = some ⟨[B true], [], none⟩) ∧ (fix Tb md 94 [sDialed ok ver e1 tries e2 (.sp 0 2) (.sp 0 4), sDialed ok ver e1 tries e2 (.sp 1 2) (.sp 1 4)] = some ⟨[B true], [], none⟩) ∧ (fix Tb md 177 [R e2 (.sp 0 0), R e2 (.sp 1 0)] = some ⟨[B true], [], none⟩))
    ∨ ((fix Tb md 203 [sHello el ex (.sp 0 0) (.sp 0 1), R ep (.sp 1 0), R ev (.sp 2 0), R et (.sp 3 0), I k, I n] = some ⟨[sDialed ok ver [] t3 e2 .nl (.ow false)], [], none⟩) ∧ (fix Tb md 204 [sHello el ex (.sp 0 0) (.sp 0 1), R ep (.sp 1 0), R ev (.sp 2 0), R et (.sp 3 0), I k] = some ⟨[sDialed ok ver [] tries e2 .nl (.ow false)], [], none⟩) ∧ (fix Tb md 64 [sDeal ok ver [] .nl, sDeal ok ver [] .nl] = some ⟨[B true], [], none⟩) ∧ (fix Tb md 94 [sDialed ok ver [] tries e2 .nl (.sp 0 4), sDialed ok ver [] tries e2 .nl (.sp 1 4)] = some ⟨[B true], [], none⟩) ∧ (fix Tb md 177 [R e2 (.sp 0 0), R e2 (.sp 1 0)] = some ⟨[B true], [], none⟩))
    ∨ ((fix Tb md 203 [sHello el ex (.sp 0 0) (.sp 0 1), R ep (.sp 1 0), R ev (.sp 2 0), R et (.sp 3 0), I k, I n] = some ⟨[sDialed ok ver [] t3 [] .nl .nl], [], none⟩) ∧ (fix Tb md 204 [sHello el ex (.sp 0 0) (.sp 0 1), R ep (.sp 1 0), R ev (.sp 2 0), R et (.sp 3 0), I k] = some ⟨[sDialed ok ver [] tries [] .nl .nl], [], none⟩) ∧ (fix Tb md 64 [sDeal ok ver [] .nl, sDeal ok ver [] .nl] = some ⟨[B true], [], none⟩) ∧ (fix Tb md 94 [sDialed ok ver [] tries [] .nl .nl, sDialed ok ver [] tries [] .nl .nl] = some ⟨[B true], [], none⟩) ∧ (fix Tb md 177 [R [] .nl, R [] .nl] = some ⟨[B true], [], none⟩)) := by
   cases b with
   | true =>
    cases a with
    | true => exact .inl ⟨k3, k4, k64 rfl rfl, k94 rfl rfl rfl rfl, k177 rfl rfl⟩
    | false =>
     rw [show e1 = [] by rw [he1, fa rfl]; rfl] at k3 k4 k64 k94
     exact .inr (.inl ⟨k3, k4, k64 rfl rfl, k94 rfl rfl rfl rfl, k177 rfl rfl⟩)
   | false =>
    cases a with
    | true => cases hab rfl
    | false =>
     rw [show e1 = [] by rw [he1, fa rfl]; rfl] at k3 k4 k64 k94
     rw [show e2 = [] by rw [he2, fb rfl]; rfl] at k3 k4 k94 k177
     exact .inr (.inr ⟨k3, k4, k64 rfl rfl, k94 rfl rfl rfl rfl, k177 rfl rfl⟩)
  clear k3 k4 k64 k94 k177
  refine fix_fn2 (fn := ir46) tb_46 rfl rfl (by decide) rfl ?_; intro Q hQ; simp only [shutArgs, shutS, List.map_cons, List.map_nil, ir46, shut_in h0, List.head?_nil, reduceCtorEq, if_false, sExt, sHello, sAnswer, sEdit, sDeal, sBox, sDialed, sKnown]
  intro add sub mul arith eq ne lt le gt ge neg conv mn mx not beq len at' ln bd cut app allS isNil mks set o hP F ho
  rw [← ho] at k1 k2 all
  have g1 : gt t3 3 = false := by rw [F.gt]; simp; omega
  have g2 : lt n 3 = true := by rw [F.lt]; simp; omega
  have g3 : le n 0 = decide (n ≤ 0) := F.le ..
  have g4 : not true = false := by rw [F.not]; rfl
  rcases all with ⟨k3, k4, k64, k94, k177⟩ | ⟨k3, k4, k64, k94, k177⟩ | ⟨k3, k4, k64, k94, k177⟩
  all_goals
   cbv
   rw [k1]; cbv
   rw [k2]; cbv
   rw [k3]; cbv
   rw [k4]; cbv
   cases ok with
   | true =>
    cbv
    rw [k64]; cbv
    rw [g4]; cbv
    rw [g1]; cbv
    rw [g2]; cbv
    rw [k64]; cbv
    rw [g4]; cbv
    rw [k177]; cbv
    rw [g4]; cbv
    refine both (fun d => ?_) (fun d => ?_) <;> rw [d] <;> cbv
    ·rw [g3, decide_eq_true_eq] at d
     rw [b0 d]
     rw [k94]; cbv
     rw [g4]; cbv
     rw [g2]; cbv
     rw [hQ]; cbv
     exact congrArg some hr
    ·rw [g2]; cbv
     rw [hQ]; cbv
     exact congrArg some hr
   | false =>
    cbv
    rw [g1]; cbv
    rw [g2]; cbv
    rw [k64]; cbv
    rw [g4]; cbv
    rw [k177]; cbv
    rw [g4]; cbv
    refine both (fun d => ?_) (fun d => ?_) <;> rw [d] <;> cbv
    ·rw [g3, decide_eq_true_eq] at d
     rw [b0 d]
     rw [k94]; cbv
     rw [g4]; cbv
     rw [g2]; cbv
     rw [hQ]; cbv
     exact congrArg some hr
    ·rw [g2]; cbv
     rw [hQ]; cbv
     exact congrArg some hr
theorem ans46 : Answers Tb md 46 [(false, [.row [.int .u8]])] := answers_of (by
 intro vs h
 obtain ⟨_, _, rfl, h1, h⟩ := fitL_cons h
 cases fitL_nil h
 obtain ⟨l, rfl, wl⟩ := fit_row (fun _ => fitL_U) h1
 exact law46 l)
end Go.Vm
