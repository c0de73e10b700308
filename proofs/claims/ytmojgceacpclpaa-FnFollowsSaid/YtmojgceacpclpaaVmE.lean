/- The value machine, part 5: code read as work on values, and its soundness over memory. -/
import Derived.Test.YtmojgceacpclpaaVmD
set_option maxHeartbeats 4000000
set_option maxRecDepth 10000
set_option linter.unusedVariables false
set_option linter.unusedSimpArgs false
section
namespace Go.Vm
structure CompIo (cx : Cx) (inRow : Nat → Bool) (ops : Array Oper) (io : Io) (o : Oper) : Prop where
 dst : io.dst = o.dst
 op : io.op = (cOp cx inRow o).getD .bad
 guard : (o.guard = none ∧ io.guard = none) ∨ ∃ j b d, o.guard = some (j, b) ∧ io.guard = some (d, b) ∧ d < cx.nt ∧ (ops[j]?).bind (·.dst) = some d
section
variable {E : Env} {cx : Cx} {S : StA} {X : List (Cell Tg)} {C : Nat → Nat → Prop} {a : Act} {w w' : World} {inRow : Nat → Bool} {ops : Array Oper}
theorem wantF_lift (hf : Fits E cx) (h : Inv E S X C a w) {io : Io} {o : Oper} (hc : CompIo cx inRow ops io o) {b : Bool} {st1 : St} (hr : (wantF io).run (erS S) = some (b, st1)) :
  st1 = erS S ∧ Region.wanted o (yielded ops a.tmps) = b := by
 unfold wantF at hr
 rcases hc.guard with ⟨h1, h2⟩ | ⟨j, b', d, h1, h2, h3, h4⟩
 ·rw [h2] at hr
  obtain ⟨rfl, rfl⟩ := ret_run hr
  exact ⟨rfl, by simp [Region.wanted, h1]⟩
 ·rw [h2] at hr
  obtain ⟨s, st2, h5, h6⟩ := FM.bind_some hr
  clear hr
  obtain ⟨h7, rfl⟩ := getS_run h5
  obtain ⟨sA, hs, rfl⟩ := erS_some h7
  have hd : d < E.nt := hf.nt ▸ h3
  have hv := h.slv d sA hd hs
  have hd' : d < a.tmps.size := by rw [h.tsz]; exact hd
  have hget : a.tmps[d]? = some (a.tmps.getD d undef) := by simp [hd']
  have hy : yielded ops a.tmps j = match (a.tmps.getD d undef) with | .bool b => some b | _ => none := by
   unfold yielded
   rw [h4]
   simp only [Option.bind_some, hget]
   cases a.tmps.getD d undef <;> rfl
  split at h6
  ·rename_i c hk hcs
   have hkv : sA.k = .val := by
    rw [er_kind] at hk
    cases hk' : sA.k <;> rw [hk'] at hk <;> simp [Kd.er] at hk ⊢
   split at h6
   ·rename_i x hx
    obtain ⟨rfl, rfl⟩ := ret_run h6
    unfold SlV at hv; rw [hkv] at hv
    obtain ⟨z, hz, hv⟩ := hv
    rw [er_cells, hz] at hcs
    simp only [List.map_cons, List.map_nil, List.cons.injEq, and_true] at hcs
    rw [← hcs] at hx
    have hzb := er_bool hx
    rw [hv, hzb] at hy
    refine ⟨rfl, ?_⟩
    simp only [Region.wanted, h1, hy, VA.val]
    cases x <;> cases b' <;> rfl
   ·exact (fail_run h6).elim
  ·rename_i hk
   have hkv : sA.k = .und := by
    rw [er_kind] at hk
    cases hk' : sA.k <;> rw [hk'] at hk <;> simp [Kd.er] at hk ⊢
   obtain ⟨rfl, rfl⟩ := ret_run h6
   unfold SlV at hv; rw [hkv] at hv
   rw [hv] at hy
   refine ⟨rfl, ?_⟩
   simp only [Region.wanted, h1, hy]
   rfl
  ·exact (fail_run h6).elim
theorem skipF_lift (hf : Fits E cx) (h : Inv E S [] C a w) {io : Io} {u : Unit} {st1 : St} (hr : (skipF cx.nt io).run (erS S) = some (u, st1)) :
  ∃ S1, erS S1 = st1 ∧ Inv E S1 [] C (a.put io.dst undef) w := by
 unfold skipF at hr
 split at hr
 ·rename_i d hd
  obtain ⟨old, st2, h1, h2⟩ := FM.bind_some hr
  clear hr
  obtain ⟨h3, rfl⟩ := getS_run h1
  obtain ⟨o, ho, rfl⟩ := erS_some h3
  split at h2
  ·rename_i hh
   obtain ⟨hfr, hdn⟩ := hh
   obtain ⟨_, rfl⟩ := setS_run h2
   rw [hd]
   refine ⟨S.set d ⟨.und, []⟩, by rw [erS_set]; rfl, ?_⟩
   exact Inv.put (zs := []) h (hf.nt ▸ hdn) ho (freeS_free h ho hfr) rfl (by simp) rfl (by simp) (by simp)
  ·exact (fail_run h2).elim
 ·rename_i hd
  obtain ⟨rfl, rfl⟩ := ret_run hr
  rw [hd]
  exact ⟨S, rfl, h⟩
theorem wp_value {o : Oper} {v : Value} {K : Act → World → Prop} {Q : Exit → Act → World → Prop} (h : (execOp a.eval o).run E.P w = .ok (.value v) w') (hK : K (a.put o.dst v) w') : o.wp E.P a w K Q := by
 unfold Oper.wp; rw [h]; exact hK
theorem wp_skip {o : Oper} {K : Act → World → Prop} {Q : Exit → Act → World → Prop} (h : (execOp a.eval o).run E.P w = .ok .skip w') (hK : K (a.put o.dst undef) w') : o.wp E.P a w K Q := by
 unfold Oper.wp; rw [h]; exact hK
theorem wp_enter {o : Oper} {f : FuncId} {args : Array Value} {K : Act → World → Prop} {Q : Exit → Act → World → Prop} {R : Ending → World → Prop} (h : (execOp a.eval o).run E.P w = .ok (.enter f args) w) (hc : Calls E.P f args w R)
  (hK : ∀ e w', R e w' → ∃ v, e = .returned v ∧ K (a.put o.dst v) w') : o.wp E.P a w K Q := by
 unfold Oper.wp
 rw [h, Oper.upon_enter]
 refine Calls.mono hc fun e w' hR => ?_
 obtain ⟨v, rfl, hk⟩ := hK e w' hR
 exact hk
theorem evalIo_lift {orac : Orac} {modes : Modes} (hf : Fits E cx) (h : Inv E S [] C a w) (hb : E.base ≤ w.heap.size) (hO : ∀ g, Keeps' E.P E.sid orac g) {io : Io} {o : Oper} (hc : CompIo cx inRow ops io o)
  {u : Unit} {st1 : St} (hr : (evalIo orac modes cx.nt io).run (erS S) = some (u, st1)) {K : Act → World → Prop} {Q : Exit → Act → World → Prop}
  (hK : ∀ S1 C1 a1 w1, erS S1 = st1 → Inv E S1 [] C1 a1 w1 → Frame E w w1 → K a1 w1) : o.wp E.P a w K Q := by
 have hdst := hc.dst
 cases hop : cOp cx inRow o with
 | none =>
  have hb' : io.op = .bad := by rw [hc.op, hop]; rfl
  unfold evalIo at hr
  rw [hb'] at hr
  split at hr
  ·rename_i h1 _; cases h1
  ·rename_i h1 _; cases h1
  ·obtain ⟨s, st2, h1, _⟩ := FM.bind_some hr
   exact (fail_run h1).elim
  ·obtain ⟨s, st2, h1, _⟩ := FM.bind_some hr
   exact (fail_run h1).elim
 | some ir =>
  have hir : io.op = ir := by rw [hc.op, hop]; rfl
  have gen : ∀ {d : Option Nat}, io.dst = d → ((∃ d', d = some d' ∧ ((evalCall orac modes cx.nt ir).bind fun s => putS cx.nt d' s).run (erS S) = some (u, st1)) ∨ (d = none ∧ ((evalCall orac modes cx.nt ir).bind fun _ => FM.ret ()).run (erS S) = some (u, st1))) → o.wp E.P a w K Q := by
   intro d hd hcase
   rcases hcase with ⟨d', rfl, hr⟩ | ⟨rfl, hr⟩
   ·obtain ⟨s, st2, h1, h2⟩ := FM.bind_some hr
    rw [hf.nt] at h2
    rcases sound_evalCall hf h hb hO hop h1 with ⟨v, w', S1, C1, sA, e1, e2, e3, e4, e5⟩ | ⟨f, args, e1, e2⟩
    ·subst e2; subst e3
     obtain ⟨S2, q1, q2⟩ := put_lift e4 h2
     refine wp_value e1 (hK S2 C1 _ w' q1 ?_ e5)
     rw [← hdst, hd]; exact q2
    ·refine wp_enter e1 e2 fun e w' hR => ?_
     obtain ⟨v, S1, C1, sA, rfl, e2, e3, e4, e5⟩ := hR
     subst e2; subst e3
     obtain ⟨S2, q1, q2⟩ := put_lift e4 h2
     refine ⟨v, rfl, hK S2 C1 _ w' q1 ?_ e5⟩
     rw [← hdst, hd]; exact q2
   ·obtain ⟨s, st2, h1, h2⟩ := FM.bind_some hr
    obtain ⟨_, rfl⟩ := ret_run h2
    rcases sound_evalCall hf h hb hO hop h1 with ⟨v, w', S1, C1, sA, e1, e2, e3, e4, e5⟩ | ⟨f, args, e1, e2⟩
    ·refine wp_value e1 (hK S1 C1 _ w' e2 ?_ e5)
     rw [← hdst, hd]; exact e4.drop
    ·refine wp_enter e1 e2 fun e w' hR => ?_
     obtain ⟨v, S1, C1, sA, rfl, e2, e3, e4, e5⟩ := hR
     refine ⟨v, rfl, hK S1 C1 _ w' e2 ?_ e5⟩
     rw [← hdst, hd]; exact e4.drop
  unfold evalIo at hr
  rw [hir] at hr
  split at hr
  ·rename_i x d hx hd
   rcases cOp_inv hop with ⟨ox, x', ho, hcx, heq⟩ | ⟨_, heq⟩ | ⟨t, oa, ox, i, x', y', _, _, _, _, heq | heq⟩ | ⟨k, ho, hk⟩ | hp
   ·simp only [Ir.assign.injEq] at heq
    subst heq
    rw [hf.nt] at hr
    obtain ⟨S1, C1, e1, e2, e3⟩ := assign_lift hf h ho hcx hr
    refine wp_value e1 (hK S1 C1 _ w e2 ?_ (Frame.refl E w))
    rw [← hdst, hd]; exact e3
   ·cases heq
   ·cases heq
   ·cases heq
   ·rcases cCall_inv hk with ⟨f, g, xs, _, _, _, heq⟩ | ⟨f, xf, xs, _, _, _, heq⟩ | hp
    ·cases heq
    ·cases heq
    ·simp [plain] at hp
   ·simp [plain] at hp
  ·rename_i n xa x hx hd
   rcases cOp_inv hop with ⟨ox, x', ho, hcx, heq⟩ | ⟨_, heq⟩ | ⟨t, oa, ox, i, x', y', q1, q2, q3, q4, heq | heq⟩ | ⟨k, ho, hk⟩ | hp
   ·cases heq
   ·cases heq
   ·cases heq
   ·simp only [Ir.store.injEq] at heq
    obtain ⟨rfl, rfl, rfl⟩ := heq
    rw [hf.P] at q2
    obtain ⟨w', S1, C1, e1, e2, e3, e4⟩ := store_lift hf h q1 q2 q3 q4 hr
    refine wp_skip e1 (hK S1 C1 _ w' e2 ?_ e4)
    rw [← hdst, hd]; exact e3
   ·rcases cCall_inv hk with ⟨f, g, xs, _, _, _, heq⟩ | ⟨f, xf, xs, _, _, _, heq⟩ | hp
    ·cases heq
    ·cases heq
    ·simp [plain] at hp
   ·simp [plain] at hp
  ·rename_i d h1 h2 hd
   exact gen hd (.inl ⟨_, rfl, hr⟩)
  ·rename_i h1 h2 hd
   exact gen hd (.inr ⟨rfl, hr⟩)
theorem stepEff_lift {orac : Orac} {modes : Modes} (hf : Fits E cx) (h : Inv E S [] C a w) (hb : E.base ≤ w.heap.size) (hO : ∀ g, Keeps' E.P E.sid orac g) {io : Io} {o : Oper} (hc : CompIo cx inRow ops io o)
  {st1 : St} (hr : stepEff orac modes cx.nt io (erS S) = some st1) {K : Act → World → Prop} {Q : Exit → Act → World → Prop}
  (hK : ∀ S1 C1 a1 w1, erS S1 = st1 → Inv E S1 [] C1 a1 w1 → Frame E w w1 → K a1 w1) : o.wp E.P a w K Q := by
 have hdst := hc.dst
 cases hop : cOp cx inRow o with
 | none =>
  have hb' : io.op = .bad := by rw [hc.op, hop]; rfl
  have hn : stepEff orac modes cx.nt io (erS S) = none := by
   unfold stepEff
   rw [hb']
  rw [hn] at hr
  cases hr
 | some ir =>
  have hir : io.op = ir := by rw [hc.op, hop]; rfl
  unfold stepEff at hr
  rw [hir] at hr
  split at hr
  ·rename_i d hd
   rcases cOp_inv hop with ⟨ox, x', ho, hcx, heq⟩ | ⟨ho, _⟩ | ⟨t, oa, ox, i, x', y', _, _, _, _, heq | heq⟩ | ⟨k, ho, hk⟩ | hp
   ·cases heq
   ·split at hr
    ·rename_i old hold
     split at hr
     ·rename_i hh
      obtain ⟨hfr, hdn⟩ := hh
      simp only [Option.some.injEq] at hr
      subst hr
      obtain ⟨o1, ho1, rfl⟩ := erS_some hold
      obtain ⟨v, hex⟩ : ∃ v, (execOp a.eval o).run E.P w = .ok (.value v) w := by
       rcases ho with ho | ho <;> exact ⟨_, by unfold execOp; rw [ho]; rfl⟩
      refine wp_value hex (hK (S.set d ⟨.dead, []⟩) C _ w (by rw [erS_set]; rfl) ?_ (Frame.refl E w))
      rw [← hdst, hd]
      exact Inv.put (zs := []) h (hf.nt ▸ hdn) ho1 (freeS_free h ho1 hfr) rfl (by simp) trivial (by simp) (by simp)
     ·cases hr
    ·cases hr
   ·cases heq
   ·cases heq
   ·rcases cCall_inv hk with ⟨f, g, xs, _, _, _, heq⟩ | ⟨f, xf, xs, _, _, _, heq⟩ | hp
    ·cases heq
    ·cases heq
    ·simp [plain] at hp
   ·simp [plain] at hp
  ·rename_i n xa x hx hd
   rcases cOp_inv hop with ⟨ox, x', ho, hcx, heq⟩ | ⟨_, heq⟩ | ⟨t, oa, ox, i, x', y', q1, q2, q3, q4, heq | heq⟩ | ⟨k, ho, hk⟩ | hp
   ·cases heq
   ·cases heq
   ·simp only [Ir.rstore.injEq] at heq
    obtain ⟨rfl, rfl, rfl⟩ := heq
    rw [hf.P] at q2
    obtain ⟨w', S1, C1, e1, e2, e3, e4⟩ := rstore_lift hf h q1 q2 q3 q4 hr
    refine wp_skip e1 (hK S1 C1 _ w' e2 ?_ e4)
    rw [← hdst, hd]; exact e3
   ·cases heq
   ·rcases cCall_inv hk with ⟨f, g, xs, _, _, _, heq⟩ | ⟨f, xf, xs, _, _, _, heq⟩ | hp
    ·cases heq
    ·cases heq
    ·simp [plain] at hp
   ·simp [plain] at hp
  ·rename_i g args hx
   rcases cOp_inv hop with ⟨ox, x', ho, hcx, heq⟩ | ⟨_, heq⟩ | ⟨t, oa, ox, i, x', y', q1, q2, q3, q4, heq | heq⟩ | ⟨k, ho, hk⟩ | hp
   ·cases heq
   ·cases heq
   ·cases heq
   ·cases heq
   ·rcases cCall_inv hk with ⟨f, g', xs, q1, q2, q3, heq⟩ | ⟨f, xf, xs, _, _, _, heq⟩ | hp
    ·simp only [Ir.call.injEq] at heq
     obtain ⟨rfl, rfl⟩ := heq
     rw [hf.nt, hdst] at hr
     obtain ⟨fn, av, e1, e2⟩ := callM_lift hf h hb hO ho q1 q2 q3 hr
     refine wp_enter e1 e2 fun e w' hR => ?_
     obtain ⟨v, S1, C1, rfl, k1, k2, k3⟩ := hR
     exact ⟨v, rfl, hK S1 C1 _ w' k1 k2 k3⟩
    ·cases heq
    ·simp [plain] at hp
   ·simp [plain] at hp
  ·cases hr
theorem step_lift {orac : Orac} {modes : Modes} (hf : Fits E cx) (h : Inv E S [] C a w) (hb : E.base ≤ w.heap.size) (hO : ∀ g, Keeps' E.P E.sid orac g) {i : Nat} {io : Io} {o : Oper} (hi : ops[i]? = some o) (hc : CompIo cx inRow ops io o)
  {st1 : St} (hr : stepIo orac modes cx.nt io (erS S) = some st1) {K : Act → World → Prop} {Q : Exit → Act → World → Prop}
  (hK : ∀ S1 C1 a1 w1, erS S1 = st1 → Inv E S1 [] C1 a1 w1 → Frame E w w1 → K a1 w1) : wpOp E.P ops Q i K a w := by
 unfold wpOp
 rw [hi]
 have skip : ∀ {u : Unit}, (skipF cx.nt io).run (erS S) = some (u, st1) → K (a.put o.dst undef) w := by
  intro u hr
  obtain ⟨S1, e1, e2⟩ := skipF_lift hf h hr
  rw [hc.dst] at e2
  exact hK S1 C _ w e1 e2 (Frame.refl E w)
 unfold stepIo at hr
 split at hr
 ·unfold effF at hr
  obtain ⟨b, st2, h1, h2⟩ := runFM_some hr
  obtain ⟨rfl, hw⟩ := wantF_lift hf h hc h1
  simp only [hw]
  cases b with
  | true =>
   simp only [if_true] at h2 ⊢
   exact .inl (stepEff_lift hf h hb hO hc h2 hK)
  | false =>
   simp only [Bool.false_eq_true, if_false] at h2 ⊢
   obtain ⟨u, st3, h3, h4⟩ := runFM_some h2
   simp only [Option.some.injEq] at h4
   subst h4
   exact skip h3
 ·obtain ⟨u, st2, h1, h2⟩ := runFM_some hr
  simp only [Option.some.injEq] at h2
  subst h2
  unfold ioF at h1
  obtain ⟨b, st3, h3, h4⟩ := FM.bind_some h1
  obtain ⟨rfl, hw⟩ := wantF_lift hf h hc h3
  simp only [hw]
  cases b with
  | true =>
   simp only [if_true] at h4 ⊢
   exact .inl (evalIo_lift hf h hb hO hc h4 hK)
  | false =>
   simp only [Bool.false_eq_true, if_false] at h4 ⊢
   exact skip h4
end
end Go.Vm
end
section
namespace Go.Vm
theorem FM.local {α : Type} : ∀ (p : FM α) {st st' st2 : St} {r : α}, p.run st = some (r, st') → (∀ k ∈ (p.log st).1, st2[k]? = st[k]?) → st2.length = st.length →
  ∃ st2', p.run st2 = some (r, st2') ∧ p.log st2 = p.log st ∧ st2'.length = st2.length ∧ st'.length = st.length ∧ (∀ k ∈ (p.log st).2, st2'[k]? = st'[k]?) ∧ (∀ k, k ∉ (p.log st).2 → st2'[k]? = st2[k]?) ∧ (∀ k, k ∉ (p.log st).2 → st'[k]? = st[k]?) ∧ ∀ k ∈ (p.log st).2, k ∈ (p.log st).1
 | .ret a, st, st', st2, r, hr, _, _ => by
  obtain ⟨rfl, rfl⟩ := ret_run hr
  exact ⟨st2, rfl, rfl, rfl, rfl, by simp [FM.log], fun _ _ => rfl, fun _ _ => rfl, by simp [FM.log]⟩
 | .get i k, st, st', st2, r, hr, hag, hl => by
  simp only [FM.run] at hr
  cases hs : st[i]? with
  | none => rw [hs] at hr; cases hr
  | some s =>
   rw [hs] at hr
   simp only at hr
   have hlog : (FM.get i k).log st = (i :: ((k s).log st).1, ((k s).log st).2) := by simp only [FM.log, hs]
   rw [hlog] at hag ⊢
   have hs2 : st2[i]? = some s := by rw [hag i (List.mem_cons_self ..), hs]
   obtain ⟨st2', h1, h2, h3, h4, h5, h6, h7, h8⟩ := FM.local (k s) hr (fun j hj => hag j (List.mem_cons_of_mem _ hj)) hl
   refine ⟨st2', by simp only [FM.run, hs2]; exact h1, by simp only [FM.log, hs2, h2], h3, h4, h5, h6, h7, fun j hj => List.mem_cons_of_mem _ (h8 j hj)⟩
 | .set i s k, st, st', st2, r, hr, hag, hl => by
  simp only [FM.run] at hr
  split at hr
  ·rename_i hi
   have hlog : (FM.set i s k).log st = (i :: (k.log (st.set i s)).1, i :: (k.log (st.set i s)).2) := by simp only [FM.log, hi, if_true]
   rw [hlog] at hag ⊢
   have hi2 : i < st2.length := by rw [hl]; exact hi
   obtain ⟨st2', h1, h2, h3, h4, h5, h6, h7, h8⟩ := FM.local k (st2 := st2.set i s) hr (fun j hj => by
    by_cases hji : i = j
    ·subst hji
     rw [List.getElem?_set_self hi2, List.getElem?_set_self hi]
    ·rw [List.getElem?_set_ne hji, List.getElem?_set_ne hji]
     exact hag j (List.mem_cons_of_mem _ hj)) (by simp [hl])
   refine ⟨st2', by simp only [FM.run, hi2, if_true]; exact h1, by simp only [FM.log, hi2, if_true, h2], by simpa using h3, by simpa using h4, fun j hj => ?_, fun j hj => ?_, fun j hj => ?_, fun j hj => ?_⟩
   ·by_cases hjm : j ∈ (k.log (st.set i s)).2
    ·exact h5 j hjm
    ·have hji : j = i := (List.mem_cons.1 hj).resolve_right hjm
     subst hji
     rw [h6 j hjm, h7 j hjm, List.getElem?_set_self hi2, List.getElem?_set_self hi]
   ·rw [h6 j (fun h => hj (List.mem_cons_of_mem _ h)), List.getElem?_set_ne (fun e => hj (by rw [← e]; exact List.mem_cons_self ..))]
   ·rw [h7 j (fun h => hj (List.mem_cons_of_mem _ h)), List.getElem?_set_ne (fun e => hj (by rw [← e]; exact List.mem_cons_self ..))]
   ·rcases List.mem_cons.1 hj with rfl | hj
    ·exact List.mem_cons_self ..
    ·exact List.mem_cons_of_mem _ (h8 j hj)
  ·cases hr
 | .fail, st, st', st2, r, hr, _, _ => (fail_run hr).elim
theorem disj_spec {a b : List Nat} (h : disj a b = true) : ∀ k ∈ a, k ∉ b := by
 intro k hk hb
 simp only [disj, List.all_eq_true] at h
 have := h k hk
 simp [hb] at this
theorem FM.swap {α β : Type} {p : FM α} {q : FM β} {st st1 st2 : St} {x : α} {y : β} (hp : p.run st = some (x, st1)) (hq : q.run st1 = some (y, st2)) (h1 : ∀ k ∈ (p.log st).2, k ∉ (q.log st1).1) (h2 : ∀ k ∈ (q.log st1).2, k ∉ (p.log st).1) :
  ∃ st1', q.run st = some (y, st1') ∧ p.run st1' = some (x, st2) ∧ q.log st = q.log st1 ∧ p.log st1' = p.log st := by
 obtain ⟨_, _, _, _, pl, _, _, poff, psub⟩ := FM.local p hp (fun _ _ => rfl) rfl
 obtain ⟨_, _, _, _, ql, _, _, qoff, qsub⟩ := FM.local q hq (fun _ _ => rfl) rfl
 obtain ⟨st1', a1, a2, a3, a4, a5, a6, a7, a8⟩ := FM.local q (st2 := st) hq (fun k hk => (poff k (fun hw => h1 k hw hk)).symm) pl.symm
 obtain ⟨st2', b1, b2, b3, b4, b5, b6, b7, b8⟩ := FM.local p (st2 := st1') hp (fun k hk => a6 k (fun hw => h2 k hw hk)) a3
 refine ⟨st1', a1, ?_, a2, b2⟩
 have : st2' = st2 := by
  apply List.ext_getElem?
  intro k
  by_cases hkp : k ∈ (p.log st).2
  ·rw [b5 k hkp]
   have hkq : k ∉ (q.log st1).2 := fun hw => h1 k hkp (qsub k hw)
   exact (qoff k hkq).symm
  ·rw [b6 k hkp]
   by_cases hkq : k ∈ (q.log st1).2
   ·exact a5 k hkq
   ·rw [a6 k hkq, qoff k hkq, poff k hkp]
 rw [← this]; exact b1
section
variable {orac : Orac} {modes : Modes} {nt : Nat}
theorem stepIo_log {io : Io} {st st1 : St} {l : List Nat × List Nat} (hr : stepIo orac modes nt io st = some st1) (hl : logIo orac modes nt io st = some l) :
  effect modes io.op = false ∧ (∃ u, (ioF orac modes nt io).run st = some (u, st1)) ∧ (ioF orac modes nt io).log st = l := by
 unfold logIo at hl
 split at hl
 ·cases hl
 ·rename_i he
  simp only [Option.some.injEq] at hl
  unfold stepIo at hr
  rw [if_neg he] at hr
  obtain ⟨u, st2, h1, h2⟩ := runFM_some hr
  simp only [Option.some.injEq] at h2
  subst h2
  exact ⟨by simpa using he, ⟨u, h1⟩, hl⟩
theorem stepIo_of {io : Io} {st st1 : St} {u : Unit} (he : effect modes io.op = false) (hr : (ioF orac modes nt io).run st = some (u, st1)) : stepIo orac modes nt io st = some st1 ∧ logIo orac modes nt io st = some ((ioF orac modes nt io).log st) := by
 unfold stepIo logIo runFM
 rw [hr]
 simp [he]
theorem stepIo_swap {p q : Io} {st st1 st2 : St} (hp : stepIo orac modes nt p st = some st1) (hq : stepIo orac modes nt q st1 = some st2) (hs : swaps (logIo orac modes nt p st) (logIo orac modes nt q st1) = true) :
  ∃ st1', stepIo orac modes nt q st = some st1' ∧ stepIo orac modes nt p st1' = some st2 ∧ logIo orac modes nt q st = logIo orac modes nt q st1 ∧ logIo orac modes nt p st1' = logIo orac modes nt p st := by
 cases hlp : logIo orac modes nt p st with
 | none => rw [hlp] at hs; simp [swaps] at hs
 | some lp =>
  cases hlq : logIo orac modes nt q st1 with
  | none => rw [hlp, hlq] at hs; simp [swaps] at hs
  | some lq =>
   rw [hlp, hlq] at hs
   simp only [swaps, Bool.and_eq_true] at hs
   obtain ⟨e1, ⟨u1, r1⟩, rfl⟩ := stepIo_log hp hlp
   obtain ⟨e2, ⟨u2, r2⟩, rfl⟩ := stepIo_log hq hlq
   obtain ⟨st1', k1, k2, k3, k4⟩ := FM.swap r1 r2 (disj_spec hs.1) (disj_spec hs.2)
   obtain ⟨m1, m2⟩ := stepIo_of e2 k1
   obtain ⟨m3, m4⟩ := stepIo_of e1 k2
   exact ⟨st1', m1, m3, by rw [m2, k3], by rw [m4, k4]⟩
inductive Runs (orac : Orac) (modes : Modes) (nt : Nat) : List (Nat × Io × Lg) → St → St → Prop
 | nil (st : St) : Runs orac modes nt [] st st
 | cons (i : Nat) (io : Io) (l : Lg) (r : List (Nat × Io × Lg)) (st st1 fin : St) (h : stepIo orac modes nt io st = some st1) (hl : l = logIo orac modes nt io st) (hr : Runs orac modes nt r st1 fin) : Runs orac modes nt ((i, io, l) :: r) st fin
theorem Runs.front : ∀ {pre : List (Nat × Io × Lg)} {i : Nat} {io : Io} {l : Lg} {post : List (Nat × Io × Lg)} {st fin : St}, Runs orac modes nt (pre ++ (i, io, l) :: post) st fin → (∀ z ∈ pre, swaps z.2.2 l = true) → Runs orac modes nt ((i, io, l) :: (pre ++ post)) st fin
 | [], i, io, l, post, st, fin, h, _ => h
 | (j, jo, m) :: pre, i, io, l, post, st, fin, h, hs => by
  cases h with
  | cons _ _ _ _ _ st1 _ h1 h2 h3 =>
   have hf := Runs.front h3 (fun z hz => hs z (List.mem_cons_of_mem _ hz))
   cases hf with
   | cons _ _ _ _ _ st2 _ k1 k2 k3 =>
    have hsw := hs (j, jo, m) (List.mem_cons_self ..)
    simp only at hsw
    rw [h2, k2] at hsw
    obtain ⟨st1', a1, a2, a3, a4⟩ := stepIo_swap h1 k1 hsw
    exact .cons i io l _ st st1' fin a1 (by rw [k2, a3]) (.cons j jo m _ st1' st2 fin a2 (by rw [h2, a4]) k3)
def PairOk (z : List (Nat × Io × Lg)) : Prop := z.Pairwise fun x y => y.2.1.anc.contains x.1 = true ∨ swaps x.2.2 y.2.2 = true
theorem runs_of : ∀ {os : List Io} {st fin : St} (n : Nat), stepIos orac modes nt os st = some fin →
  (logs orac modes nt os st).length = os.length ∧ Runs orac modes nt ((os.zip (logs orac modes nt os st)).zipIdx n |>.map fun x => (x.2, x.1.1, x.1.2)) st fin
 | [], st, fin, n, h => by
  simp only [stepIos, Option.some.injEq] at h
  subst h
  exact ⟨rfl, .nil st⟩
 | o :: os, st, fin, n, h => by
  simp only [stepIos] at h
  split at h
  ·rename_i st1 h1
   obtain ⟨k1, k2⟩ := runs_of (n + 1) h
   have hl : logs orac modes nt (o :: os) st = logIo orac modes nt o st :: logs orac modes nt os st1 := by simp only [logs, h1]
   rw [hl]
   refine ⟨by simp [k1], ?_⟩
   simp only [List.zip_cons_cons, List.zipIdx_cons, List.map_cons]
   exact .cons n o _ _ st st1 fin h1 rfl k2
  ·cases h
theorem drawOk_pairs : ∀ {os : List Io} {ls before : List Lg}, ls.length = os.length → drawOk os ls before = true →
  (∀ (i : Nat) (m : Lg), before[i]? = some m → ∀ x ∈ os.zip ls, x.1.anc.contains i = true ∨ swaps m x.2 = true) ∧
  PairOk ((os.zip ls).zipIdx before.length |>.map fun x => (x.2, x.1.1, x.1.2))
 | [], ls, before, _, _ => ⟨by simp, by simp [PairOk]⟩
 | o :: os, [], before, hl, _ => by simp at hl
 | o :: os, l :: ls, before, hl, h => by
  simp only [drawOk, Bool.and_eq_true, List.all_eq_true] at h
  obtain ⟨h1, h2⟩ := h
  obtain ⟨k1, k2⟩ := drawOk_pairs (before := before ++ [l]) (by simpa using hl) h2
  have hhead : ∀ (i : Nat) (m : Lg), before[i]? = some m → o.anc.contains i = true ∨ swaps m l = true := by
   intro i m hm
   have := h1 (m, i) (by
    rw [List.mem_iff_getElem?]
    exact ⟨i, by rw [List.getElem?_zipIdx, hm]; simp⟩)
   simpa using this
  refine ⟨fun i m hm x hx => ?_, ?_⟩
  ·simp only [List.zip_cons_cons, List.mem_cons] at hx
   rcases hx with rfl | hx
   ·exact hhead i m hm
   ·refine k1 i m ?_ x hx
    rw [List.getElem?_append_left (List.getElem?_eq_some_iff.1 hm).1]; exact hm
  ·simp only [List.zip_cons_cons, List.zipIdx_cons, List.map_cons, PairOk, List.pairwise_cons]
   refine ⟨fun z hz => ?_, ?_⟩
   ·simp only [List.mem_map] at hz
    obtain ⟨y, hy, rfl⟩ := hz
    have hy' : y.1 ∈ os.zip ls := by
     have := List.mem_zipIdx hy
     obtain ⟨_, _, h3⟩ := this
     rw [h3]; exact List.getElem_mem ..
    exact k1 before.length l (by rw [List.getElem?_append_right (Nat.le_refl _)]; simp) y.1 hy'
   ·have : (before ++ [l]).length = before.length + 1 := by simp
    rw [this] at k2
    exact k2
end
end Go.Vm
end
section
namespace Go.Vm
def settleCellA (x : Cell Tg) : Cell Tg :=
 match x.f with
 | .cp m _ _ _ => ⟨x.v, ckFl m⟩
 | .ap _ _ _ => ⟨x.v, .dd⟩
 | .nw g => ⟨x.v, .ow g⟩
 | .os _ => ⟨x.v, .os false⟩
 | _ => x
def settleSA (s : SA) : SA := ⟨match s.k with | .ept t _ ix => .ept t none ix | k => k, s.cs.map settleCellA⟩
def cutRefA (ks : List Nat) (s : SA) : SA := match s.k with
 | .ptr r _ => if ks.contains r then ⟨.dead, []⟩ else s
 | .clo _ rs => if rs.any ks.contains then ⟨.dead, []⟩ else s
 | _ => s
def killInA (ks : List Nat) : Nat → StA → StA
 | _, [] => []
 | i, s :: r => (if ks.contains i then ⟨.dead, []⟩ else cutRefA ks (settleSA s)) :: killInA ks (i + 1) r
theorem settleCellA_er (x : Cell Tg) : (settleCellA x).er = settleCell x.er := by
 obtain ⟨v, f⟩ := x
 cases f <;> rfl
theorem settleCellA_v (x : Cell Tg) : (settleCellA x).v = x.v := by
 obtain ⟨v, f⟩ := x
 cases f <;> rfl
theorem settleCellA_own (x : Cell Tg) : (settleCellA x).own = x.own := by
 obtain ⟨v, f⟩ := x
 cases f with
 | cp m s c ix => cases m <;> rfl
 | _ => rfl
theorem settleSA_er (s : SA) : (settleSA s).er = settleS s.er := by
 obtain ⟨k, cs⟩ := s
 have : (cs.map settleCellA).map Cell.er = (cs.map Cell.er).map settleCell := by
  simp only [List.map_map]
  exact List.map_congr_left fun x _ => settleCellA_er x
 cases k <;> simp only [settleSA, settleS, Sl.er, Kd.er, this]
theorem cutRefA_er (ks : List Nat) (s : SA) : (cutRefA ks s).er = cutRef ks s.er := by
 obtain ⟨k, cs⟩ := s
 cases k with
 | ptr r o =>
  show (if ks.contains r then (⟨.dead, []⟩ : SA) else ⟨.ptr r o, cs⟩).er = if ks.contains r then dead else ⟨.ptr r o, cs.map Cell.er⟩
  split <;> rfl
 | clo g rs =>
  show (if rs.any ks.contains then (⟨.dead, []⟩ : SA) else ⟨.clo g rs, cs⟩).er = if rs.any ks.contains then dead else ⟨.clo g rs, cs.map Cell.er⟩
  split <;> rfl
 | _ => rfl
theorem killInA_er (ks : List Nat) : ∀ (S : StA) (i : Nat), erS (killInA ks i S) = killIn ks i (erS S)
 | [], _ => rfl
 | s :: r, i => by
  have ih := killInA_er ks r (i + 1)
  simp only [erS] at ih ⊢
  simp only [killInA, List.map_cons, killIn, ih]
  congr 1
  split
  ·rfl
  ·rw [cutRefA_er, settleSA_er]
theorem killInA_get (ks : List Nat) : ∀ (S : StA) (n i : Nat), (killInA ks n S)[i]? = (S[i]?).map fun s => if ks.contains (n + i) then ⟨.dead, []⟩ else cutRefA ks (settleSA s)
 | [], _, _ => rfl
 | s :: r, n, 0 => rfl
 | s :: r, n, i + 1 => by
  simp only [killInA, List.getElem?_cons_succ]
  rw [killInA_get ks r (n + 1) i, show n + 1 + i = n + (i + 1) by omega]
section
variable {E : Env} {cx : Cx} {S : StA} {X : List (Cell Tg)} {C : Nat → Nat → Prop} {a : Act} {w w' : World}
theorem kill_slot {ks : List Nat} {i : Nat} {s' : SA} (h : (killInA ks 0 S)[i]? = some s') :
  ∃ s, S[i]? = some s ∧ ((s'.k = .dead ∧ s'.cs = []) ∨ (ks.contains i = false ∧ s'.cs = s.cs.map settleCellA ∧ s'.k = (match s.k with | .ept t _ ix => .ept t none ix | k => k) ∧
   (∀ r o, s.k = .ptr r o → ks.contains r = false) ∧ ∀ g rs, s.k = .clo g rs → ∀ r ∈ rs, ks.contains r = false)) := by
 rw [killInA_get, Option.map_eq_some_iff] at h
 obtain ⟨s, hs, rfl⟩ := h
 refine ⟨s, hs, ?_⟩
 rw [Nat.zero_add]
 split
 ·exact .inl ⟨rfl, rfl⟩
 ·rename_i hn
  have hn : ks.contains i = false := by simpa using hn
  obtain ⟨k, cs⟩ := s
  cases k with
  | ptr r o =>
   simp only [cutRefA, settleSA]
   split
   ·exact .inl ⟨rfl, rfl⟩
   ·rename_i hr
    refine .inr ⟨hn, rfl, rfl, ?_, by simp⟩
    rintro r' o' e
    simp only [Kd.ptr.injEq] at e
    obtain ⟨rfl, rfl⟩ := e
    simpa using hr
  | clo g rs =>
   simp only [cutRefA, settleSA]
   split
   ·exact .inl ⟨rfl, rfl⟩
   ·rename_i hr
    refine .inr ⟨hn, rfl, rfl, by simp, ?_⟩
    rintro g' rs' e r hrm
    simp only [Kd.clo.injEq] at e
    obtain ⟨rfl, rfl⟩ := e
    simp only [List.any_eq_true, not_exists, not_and] at hr
    have := hr r hrm
    simpa using this
  | _ => exact .inr ⟨hn, rfl, rfl, by simp, by simp⟩
theorem COk.settle {x : Cell Tg} (h : COk E w C S X x) {S' : StA} {X' : List (Cell Tg)} : COk E w C S' X' (settleCellA x) := by
 obtain ⟨v, f⟩ := x
 cases f with
 | cp m s c ix =>
  cases m with
  | own => exact ⟨h.1, h.2.1, h.2.2.2 rfl⟩
  | grn => exact ⟨h.1, h.2.1⟩
  | chg => exact ⟨h.1, h.2.1⟩
  | spn => exact ⟨h.1, h.2.1⟩
 | ap s c ix => trivial
 | _ => exact h
theorem settle_noap (x : Cell Tg) : ∀ p q r, (settleCellA x).f ≠ .ap p q r := by
 obtain ⟨v, f⟩ := x
 cases f with
 | cp m s c ix => cases m <;> simp [settleCellA, ckFl]
 | _ => simp [settleCellA]
theorem kill_own (ks : List Nat) (s : SA) (b : Nat) : (cutRefA ks (settleSA s)).own.count b ≤ s.own.count b := by
 have hs : (settleSA s).own = s.own := by
  unfold Sl.own
  have h1 : (settleSA s).boxOwn = s.boxOwn := by
   obtain ⟨k, cs⟩ := s
   cases k <;> rfl
  have h2 : (settleSA s).cs.flatMap Cell.own = s.cs.flatMap Cell.own := by
   show (s.cs.map settleCellA).flatMap Cell.own = _
   induction s.cs with
   | nil => rfl
   | cons x xs ih => simp only [List.map_cons, List.flatMap_cons, ih, settleCellA_own]
  rw [h1, h2]
 rw [← hs]
 unfold cutRefA
 split
 ·split
  ·simp [Sl.own, Sl.boxOwn]
  ·exact Nat.le_refl _
 ·split
  ·simp [Sl.own, Sl.boxOwn]
  ·exact Nat.le_refl _
 ·exact Nat.le_refl _
theorem kill_count (ks : List Nat) (b : Nat) : ∀ (S : StA) (n : Nat), ((killInA ks n S).flatMap Sl.own).count b ≤ (S.flatMap Sl.own).count b
 | [], _ => Nat.le_refl _
 | s :: r, n => by
  have ih := kill_count ks b r (n + 1)
  simp only [killInA, List.flatMap_cons, List.count_append]
  have : (if ks.contains n then (⟨.dead, []⟩ : SA) else cutRefA ks (settleSA s)).own.count b ≤ s.own.count b := by
   split
   ·simp [Sl.own, Sl.boxOwn]
   ·exact kill_own ks s b
  omega
theorem Inv.kill (h : Inv E S [] C a w) (ks : List Nat) : Inv E (killInA (lockS E.nt :: ks) 0 S) [] C a w ∧ erS (killInA (lockS E.nt :: ks) 0 S) = killAll E.nt ks (erS S) := by
 refine ⟨?_, killInA_er _ S 0⟩
 have hlen : (killInA (lockS E.nt :: ks) 0 S).length = S.length := by
  have : ∀ (ks : List Nat) (S : StA) (n : Nat), (killInA ks n S).length = S.length := by
   intro ks S
   induction S with
   | nil => intro n; rfl
   | cons s r ih => intro n; simp [killInA, ih]
  exact this _ _ _
 have hcount : ∀ b, (ownAll (killInA (lockS E.nt :: ks) 0 S) []).count b ≤ (ownAll S []).count b := by
  intro b
  simp only [ownAll, List.flatMap_nil, List.append_nil]
  exact kill_count _ b S 0
 have hmem : ∀ b ∈ ownAll (killInA (lockS E.nt :: ks) 0 S) [], b ∈ ownAll S [] := by
  intro b hb
  have h1 := hcount b
  have h2 := List.count_pos_iff.2 hb
  exact List.count_pos_iff.1 (by omega)
 have hbox : ∀ r x, (lockS E.nt :: ks).contains r = false → boxAddr S r = some x → boxAddr (killInA (lockS E.nt :: ks) 0 S) r = some x := by
  intro r x hr hx
  unfold boxAddr at hx ⊢
  rw [killInA_get]
  cases hs : S[r]? with
  | none => rw [hs] at hx; cases hx
  | some s =>
   rw [hs] at hx
   obtain ⟨k, cs⟩ := s
   simp only [Option.map_some, Nat.zero_add, hr, Bool.false_eq_true, if_false]
   cases k <;> simp at hx ⊢
   simpa [cutRefA, settleSA] using hx
 have hmv : ∀ cs : List (Cell Tg), (cs.map settleCellA).map (·.v) = cs.map (·.v) := by
  intro cs
  simp only [List.map_map]
  exact List.map_congr_left fun x _ => settleCellA_v x
 refine ⟨hlen.trans h.len, h.tsz, h.nodef, ?_, ?_, ?_, ?_, ?_, ?_, ?_, ?_, by simp, fun b => Nat.le_trans (hcount b) (h.cnt b), h.olt, h.clt, h.cbase, fun b hb => h.ownlt b (hmem b hb)⟩
 ·intro i s' hi hs'
  obtain ⟨s, hs, ⟨hk, hc⟩ | ⟨hn, hc, hk, hp, hcl⟩⟩ := kill_slot hs'
  ·unfold SlV; rw [hk]; trivial
  ·have hv := h.slv i s hi hs
   obtain ⟨k, cs⟩ := s
   obtain ⟨k', cs'⟩ := s'
   simp only at hc hk
   subst hc
   cases k with
   | ept t src ix => simp only at hk; subst hk; exact hv
   | ptr r o =>
    simp only at hk; subst hk
    obtain ⟨b, h1, h2⟩ := hv
    exact ⟨b, hbox r _ (hp r o rfl) h1, h2⟩
   | clo g rs =>
    simp only at hk; subst hk
    obtain ⟨h1, h2⟩ := hv
    refine ⟨fun r hr => ?_, ?_⟩
    ·obtain ⟨b, hb⟩ := h1 r hr
     exact ⟨b, hbox r _ (hcl g rs rfl r hr) hb⟩
    ·have h2 : a.tmps.getD i undef = _ := h2
     rw [h2]
     congr 2
     refine List.map_congr_left fun r hr => ?_
     obtain ⟨b, hb⟩ := h1 r hr
     rw [hb, hbox r _ (hcl g rs rfl r hr) hb]
   | val =>
    simp only at hk; subst hk
    obtain ⟨c, h1, h2⟩ := hv
    simp only at h1; subst h1
    exact ⟨settleCellA c, rfl, by rw [settleCellA_v]; exact h2⟩
   | agg =>
    simp only at hk; subst hk
    simp only [SlV] at hv ⊢
    rw [map_val (hmv cs)]; exact hv
   | tup sh =>
    simp only at hk; subst hk
    simp only [SlV] at hv ⊢
    rw [map_val (hmv cs)]; exact hv
   | dead => simp only at hk; subst hk; trivial
   | und => simp only at hk; subst hk; exact hv
   | box t => exact hv.elim
 ·intro i s' hi hs'
  obtain ⟨s, hs, ⟨hk, hc⟩ | ⟨hn, hc, hk, _⟩⟩ := kill_slot hs'
  ·exact .inl hk
  ·rcases h.high i s hi hs with h1 | h1 | ⟨t, h1, h2⟩ <;> rw [h1] at hk
   ·exact .inl hk
   ·exact .inr (.inl hk)
   ·exact .inr (.inr ⟨t, hk, h2⟩)
 ·intro i s' hs' hk'
  obtain ⟨s, hs, ⟨hk, hc⟩ | ⟨hn, hc, hk, _⟩⟩ := kill_slot hs'
  ·exact hc
  ·have : s.cs = [] := by
    refine h.emp i s hs ?_
    rw [hk] at hk'
    obtain ⟨k, cs⟩ := s
    cases k <;> simp_all
   rw [hc, this]; rfl
 ·intro i s' hi hs' hk'
  obtain ⟨s, hs, ⟨hk, hc⟩ | ⟨hn, hc, hk, _⟩⟩ := kill_slot hs'
  ·rw [hk] at hk'; cases hk'
  ·refine h.lock i s hi hs ?_
   rw [hk] at hk'
   obtain ⟨k, cs⟩ := s
   cases k <;> simp_all
 ·intro l _ _
  refine ⟨fun i s' hs' x hx => ?_, by simp⟩
  obtain ⟨s, hs, ⟨hk, hc⟩ | ⟨hn, hc, hk, _⟩⟩ := kill_slot hs'
  ·rw [hc] at hx; simp at hx
  ·rw [hc] at hx
   obtain ⟨y, _, rfl⟩ := List.mem_map.1 hx
   exact settle_noap y
 ·intro i s' t hs' hk'
  obtain ⟨s, hs, ⟨hk, hc⟩ | ⟨hn, hc, hk, _⟩⟩ := kill_slot hs'
  ·rw [hk] at hk'; cases hk'
  ·have hks : s.k = .box t := by
    rw [hk] at hk'
    obtain ⟨k, cs⟩ := s
    cases k <;> simp_all
   rw [hc]
   exact box_same (h.box i s t hs hks) (hmv s.cs)
 ·intro i s' t src ix hs' hk'
  obtain ⟨s, hs, ⟨hk, hc⟩ | ⟨hn, hc, hk, _⟩⟩ := kill_slot hs'
  ·rw [hk] at hk'; cases hk'
  ·have hks : src = none ∧ ∃ src0, s.k = .ept t src0 ix := by
    rw [hk] at hk'
    obtain ⟨k, cs⟩ := s
    cases k <;> simp_all
   obtain ⟨rfl, src0, hks⟩ := hks
   rw [hc]
   obtain ⟨b, o, h1, h2, _⟩ := h.ept i s t src0 ix hs hks
   exact ept_same ⟨b, o, h1, h2, trivial⟩ (hmv s.cs)
 ·intro i s' hs' x hx
  obtain ⟨s, hs, ⟨hk, hc⟩ | ⟨hn, hc, hk, _⟩⟩ := kill_slot hs'
  ·rw [hc] at hx; simp at hx
  ·rw [hc] at hx
   obtain ⟨y, hy, rfl⟩ := List.mem_map.1 hx
   exact (h.cells i s hs y hy).settle
end
end Go.Vm
end
section
namespace Go.Vm
theorem cIos_spec {cx : Cx} {ops : Array Oper} {draw : Bool} : ∀ {os : List Oper} {an : List (List Nat)} {ios : List Io}, cIos cx ops.toList draw os an = some ios →
  ios.length = os.length ∧ ∀ (i : Nat) (o : Oper), os[i]? = some o → ∃ io, ios[i]? = some io ∧ CompIo cx (rowPtrs ops.toList []).contains ops io o ∧ (draw = true → io.anc = an.getD i [])
 | [], an, ios, h => by
  simp only [cIos, Option.some.injEq] at h; subst h
  exact ⟨rfl, by simp⟩
 | o :: os, an, ios, h => by
  unfold cIos at h
  simp only at h
  split at h
  ·rename_i g r hg hr
   simp only [Option.some.injEq] at h; subst h
   obtain ⟨h1, h2⟩ := cIos_spec hr
   refine ⟨by simp [h1], fun i o' ho' => ?_⟩
   cases i with
   | zero =>
    simp only [List.getElem?_cons_zero, Option.some.injEq] at ho'
    subst ho'
    refine ⟨_, rfl, ⟨rfl, rfl, ?_⟩, fun hd => ?_⟩
    ·split at hg
     ·rename_i hgu
      simp only [Option.some.injEq] at hg
      exact .inl ⟨hgu, hg.symm⟩
     ·rename_i j b hgu
      split at hg
      ·rename_i d hd
       split at hg
       ·rename_i hlt
        simp only [Option.some.injEq] at hg
        refine .inr ⟨j, b, d, hgu, hg.symm, hlt, ?_⟩
        rw [← hd, Array.getElem?_toList]
       ·cases hg
      ·cases hg
    ·simp only [hd, if_true]
     cases an <;> rfl
   | succ i =>
    obtain ⟨io, k1, k2, k3⟩ := h2 i o' (by simpa using ho')
    refine ⟨io, by simpa using k1, k2, fun hd => ?_⟩
    rw [k3 hd]
    cases an <;> simp
  ·cases h
def ancStep (acc : List (List Nat)) (o : Oper) : List Nat := (o.after.toList.flatMap fun e => match e.ground with
 | .textOnly _ | .gcOnly _ => []
 | _ => e.on :: acc.getD e.on []).eraseDups
theorem ancOf_eq (ops : List Oper) : ancOf ops = ops.foldl (fun acc o => acc ++ [ancStep acc o]) [] := rfl
theorem anc_fold : ∀ (ops : List Oper) (acc : List (List Nat)), (∃ r, ops.foldl (fun acc o => acc ++ [ancStep acc o]) acc = acc ++ r ∧ r.length = ops.length) ∧
  ∀ (i : Nat) (o : Oper), ops[i]? = some o → (ops.foldl (fun acc o => acc ++ [ancStep acc o]) acc)[acc.length + i]? = some (ancStep ((ops.foldl (fun acc o => acc ++ [ancStep acc o]) acc).take (acc.length + i)) o)
 | [], acc => ⟨⟨[], by simp, rfl⟩, by simp⟩
 | o :: os, acc => by
  obtain ⟨⟨r, h1, h2⟩, h3⟩ := anc_fold os (acc ++ [ancStep acc o])
  simp only [List.foldl_cons]
  refine ⟨⟨ancStep acc o :: r, by rw [h1]; simp, by simp [h2]⟩, fun i o' ho' => ?_⟩
  cases i with
  | zero =>
   simp only [List.getElem?_cons_zero, Option.some.injEq] at ho'
   subst ho'
   rw [h1]
   simp
  | succ i =>
   have := h3 i o' (by simpa using ho')
   rw [List.length_append] at this
   simp only [List.length_cons, List.length_nil] at this
   rw [show acc.length + (i + 1) = acc.length + (0 + 1) + i by omega]
   exact this
theorem mem_eraseDups' {α : Type} [BEq α] [LawfulBEq α] {x : α} {l : List α} (h : x ∈ l.eraseDups) : x ∈ l := List.mem_eraseDups.1 h
theorem ancOf_mem {ops : List Oper} {i j : Nat} {o : Oper} (ho : ops[i]? = some o) (hj : j ∈ (ancOf ops).getD i []) : ∃ e ∈ o.after, (∀ md, Region.binds md e = true) ∧ (j = e.on ∨ j ∈ (ancOf ops).getD e.on []) := by
 obtain ⟨_, h2⟩ := anc_fold ops []
 have h3 := h2 i o ho
 simp only [List.length_nil, Nat.zero_add] at h3
 rw [← ancOf_eq] at h3
 rw [List.getD_eq_getElem?_getD, h3] at hj
 simp only [Option.getD_some] at hj
 obtain ⟨e, he, hje⟩ := List.mem_flatMap.1 (mem_eraseDups' hj)
 refine ⟨e, by simpa using he, ?_⟩
 have key : (∀ md, Region.binds md e = true) → j ∈ e.on :: ((ancOf ops).take i).getD e.on [] → (∀ md, Region.binds md e = true) ∧ (j = e.on ∨ j ∈ (ancOf ops).getD e.on []) := by
  intro hb hm
  refine ⟨hb, ?_⟩
  rcases List.mem_cons.1 hm with h | h
  ·exact .inl h
  ·refine .inr ?_
   rw [List.getD_eq_getElem?_getD, List.getElem?_take] at h
   rw [List.getD_eq_getElem?_getD]
   split at h
   ·exact h
   ·simp at h
 split at hje
 ·simp at hje
 ·simp at hje
 ·rename_i h4 h5
  refine key (fun md => ?_) hje
  unfold Region.binds
  split
  ·exact absurd ‹_› (h4 _)
  ·exact absurd ‹_› (h5 _)
  ·rfl
theorem edgesOk_spec : ∀ {os : List Oper} {n : Nat}, edgesOk n os = true → ∀ (i : Nat) (o : Oper), os[i]? = some o → ∀ e ∈ o.after, Region.binds .any e = true → e.on < n + i
 | [], n, _, i, o, ho, _, _, _ => by simp at ho
 | o' :: os, n, h, i, o, ho, e, he, hbe => by
  simp only [edgesOk, Bool.and_eq_true, List.all_eq_true] at h
  cases i with
  | zero =>
   simp only [List.getElem?_cons_zero, Option.some.injEq] at ho
   subst ho
   have := h.1 e (by simpa using he)
   split at this
   ·rename_i hg
    simp [Region.binds, hg] at hbe
   ·rename_i hg
    simp [Region.binds, hg] at hbe
   ·simpa using this
  | succ i =>
   have := edgesOk_spec h.2 i o (by simpa using ho) e he hbe
   omega
section
variable {E : Env} {cx : Cx} {S : StA} {X : List (Cell Tg)} {C : Nat → Nat → Prop} {a : Act} {w w' : World} {inRow : Nat → Bool} {ops : Array Oper} {orac : Orac} {modes : Modes}
theorem wpAny_runs (hf : Fits E cx) (hO : ∀ g, Keeps' E.P E.sid orac g) {md : Region.Mode} {Q : Exit → Act → World → Prop} {anc : Nat → List Nat} {fin : St}
  (hanc : ∀ (i : Nat) (o : Oper) (j : Nat), ops[i]? = some o → j ∈ anc i → ∃ e ∈ o.after, Region.binds md e = true ∧ (j = e.on ∨ j ∈ anc e.on)) (hedge : ∀ (i : Nat) (o : Oper), ops[i]? = some o → ∀ e ∈ o.after, Region.binds md e = true → e.on < i) :
  ∀ (fuel : Nat) (Z : List (Nat × Io × Lg)) (listed : Array Bool) {S : StA} {C : Nat → Nat → Prop} (a : Act) (w : World), Z.length = fuel → Inv E S [] C a w → E.base ≤ w.heap.size → Runs orac modes cx.nt Z (erS S) fin → PairOk Z →
   (∀ z ∈ Z, (∃ o, ops[z.1]? = some o ∧ CompIo cx inRow ops z.2.1 o) ∧ z.2.1.anc = anc z.1) → (Z.map (·.1)).Pairwise (· < ·) → listed.size = ops.size → (∀ i, i < ops.size → (listed.getD i true = false ↔ i ∈ Z.map (·.1))) →
   (∀ i, listed.getD i false = true → ∀ j ∈ anc i, listed.getD j false = true) →
   (∀ S1 C1 a1 w1, erS S1 = fin → Inv E S1 [] C1 a1 w1 → Frame E w w1 → Q .normal a1 w1) → wpAny E.P md ops Q fuel listed a w := by
 intro fuel
 induction fuel with
 | zero =>
  intro Z listed S C a w hl h hb hr hp hz hs hsz hli hcl hQ
  have hZ : Z = [] := List.eq_nil_of_length_eq_zero hl
  subst hZ
  refine ⟨?_, ?_⟩
  ·rw [List.eq_nil_iff_forall_not_mem]
   intro i hi
   obtain ⟨h0, o, ho, _⟩ := mem_ready.1 hi
   have hlt : i < ops.size := (Array.getElem?_eq_some_iff.1 ho).1
   have := (hli i hlt).1 h0
   simp at this
  ·cases hr with
   | nil => exact hQ S C a w rfl h (Frame.refl E w)
 | succ fuel ih =>
  intro Z listed S C a w hl h hb hr hp hz hs hsz hli hcl hQ
  have hlt_of : ∀ {i : Nat} {o : Oper}, ops[i]? = some o → i < ops.size := fun ho => (Array.getElem?_eq_some_iff.1 ho).1
  have hdef : ∀ {k : Nat}, k < ops.size → listed.getD k true = listed.getD k false := by
   intro k hk
   have : k < listed.size := by rw [hsz]; exact hk
   simp [this]
  refine ⟨fun hnil => ?_, fun i hi => ?_⟩
  ·exfalso
   cases Z with
   | nil => simp at hl
   | cons z0 Z =>
    obtain ⟨⟨o, ho, _⟩, _⟩ := hz z0 (List.mem_cons_self ..)
    have hin : z0.1 ∈ Region.ready md ops listed := by
     rw [mem_ready]
     refine ⟨(hli z0.1 (hlt_of ho)).2 (by simp), o, ho, fun e he hbe => ?_⟩
     have hlt := hedge z0.1 o ho e he hbe
     have hes : e.on < ops.size := Nat.lt_trans hlt (hlt_of ho)
     rw [← hdef hes]
     cases hv : listed.getD e.on true with
     | true => rfl
     | false =>
      exfalso
      have hm := (hli e.on hes).1 hv
      simp only [List.map_cons, List.pairwise_cons] at hs
      simp only [List.map_cons, List.mem_cons] at hm
      rcases hm with hm | hm
      ·omega
      ·have := hs.1 _ hm; omega
    rw [hnil] at hin
    cases hin
  ·obtain ⟨h0, o, ho, hall⟩ := mem_ready.1 hi
   have hisz := hlt_of ho
   have him := (hli i hisz).1 h0
   obtain ⟨z, hzm, hzi⟩ := List.mem_map.1 him
   obtain ⟨i', io, l⟩ := z
   simp only at hzi
   subst hzi
   obtain ⟨pre, post, rfl⟩ := List.append_of_mem hzm
   obtain ⟨⟨o', ho', hcomp⟩, hanci⟩ := hz _ hzm
   simp only at ho' hcomp hanci
   rw [ho] at ho'
   obtain rfl := Option.some.inj ho'
   have hancl : ∀ j ∈ anc i', listed.getD j false = true := by
    intro j hj
    obtain ⟨e, he, hbe, hje⟩ := hanc i' o j ho hj
    have hle := hall e he hbe
    rcases hje with rfl | hje
    ·exact hle
    ·exact hcl e.on hle j hje
   have hsw : ∀ z ∈ pre, swaps z.2.2 l = true := by
    intro z hzp
    unfold PairOk at hp
    rw [List.pairwise_append] at hp
    have := hp.2.2 z hzp (i', io, l) (List.mem_cons_self ..)
    rcases this with hc | hc
    ·exfalso
     have hzj : z.1 ∈ anc i' := by
      rw [← hanci]
      simpa using hc
     have h1 := hancl z.1 hzj
     obtain ⟨⟨oz, hoz, _⟩, _⟩ := hz z (List.mem_append.2 (.inl hzp))
     have h2 := (hli z.1 (hlt_of hoz)).2 (List.mem_map.2 ⟨z, List.mem_append.2 (.inl hzp), rfl⟩)
     rw [hdef (hlt_of hoz), h1] at h2
     cases h2
    ·exact hc
   have hfront := hr.front hsw
   cases hfront with
   | cons _ _ _ _ _ st1 _ q1 q2 q3 =>
    refine step_lift hf h hb hO ho hcomp q1 (fun S1 C1 a1 w1 e1 e2 e3 => ?_)
    have hsub : (pre ++ post).Sublist (pre ++ (i', io, l) :: post) := List.Sublist.append_left (List.sublist_cons_self ..) pre
    have hnotin : i' ∉ (pre ++ post).map (·.1) := by
     intro hm
     rw [List.map_append, List.map_cons] at hs
     rw [List.map_append, List.mem_append] at hm
     rw [List.pairwise_append] at hs
     rcases hm with hm | hm
     ·have := hs.2.2 i' hm i' (List.mem_cons_self ..); omega
     ·have := (List.pairwise_cons.1 hs.2.1).1 i' hm; omega
    refine ih (pre ++ post) (listed.setIfInBounds i' true) a1 w1 (by simp only [List.length_append, List.length_cons] at hl ⊢; omega) e2 (Nat.le_trans hb e3.size) (by rw [e1]; exact q3) (List.Pairwise.sublist hsub hp) (fun z hz' => hz z (hsub.subset hz')) (List.Pairwise.sublist (hsub.map _) hs) (by simp [hsz]) (fun k hk => ?_) (fun k hk j hj => ?_) (fun S2 C2 a2 w2 f1 f2 f3 => hQ S2 C2 a2 w2 f1 f2 (e3.trans f3))
    ·by_cases hki : i' = k
     ·subst hki
      have : i' < listed.size := by rw [hsz]; exact hk
      simp only [Array.getD_eq_getD_getElem?, Array.getElem?_setIfInBounds_self_of_lt this, Option.getD_some, Bool.true_eq_false, false_iff]
      exact hnotin
     ·rw [getD_set_ne true hki, hli k hk]
      simp only [List.map_append, List.map_cons, List.mem_append, List.mem_cons]
      constructor
      ·rintro (h1 | h1 | h1)
       ·exact .inl h1
       ·exact absurd h1.symm hki
       ·exact .inr h1
      ·rintro (h1 | h1)
       ·exact .inl h1
       ·exact .inr (.inr h1)
    ·by_cases hki : i' = k
     ·subst hki
      exact getD_set_true (hancl j hj)
     ·rw [getD_set_ne false hki] at hk
      exact getD_set_true (hcl k hk j hj)
theorem wpOps_text (hf : Fits E cx) (hO : ∀ g, Keeps' E.P E.sid orac g) {Q : Exit → Act → World → Prop} {fin : St} : ∀ (n k : Nat) (ios : List Io) {S : StA} {C : Nat → Nat → Prop} (a : Act) (w : World), ios.length = n → (∀ (i : Nat) (io : Io), ios[i]? = some io → ∃ o, ops[k + i]? = some o ∧ CompIo cx inRow ops io o) →
  Inv E S [] C a w → E.base ≤ w.heap.size → stepIos orac modes cx.nt ios (erS S) = some fin → (∀ S1 C1 a1 w1, erS S1 = fin → Inv E S1 [] C1 a1 w1 → Frame E w w1 → Q .normal a1 w1) → wpOps E.P ops Q (List.range' k n) a w
 | 0, k, ios, S, C, a, w, hl, hc, h, hb, hr, hQ => by
  have : ios = [] := List.eq_nil_of_length_eq_zero hl
  subst this
  simp only [stepIos, Option.some.injEq] at hr
  exact hQ S C a w hr h (Frame.refl E w)
 | n + 1, k, ios, S, C, a, w, hl, hc, h, hb, hr, hQ => by
  cases ios with
  | nil => simp at hl
  | cons io ios =>
   simp only [stepIos] at hr
   split at hr
   ·rename_i st1 h1
    obtain ⟨o, ho, hcomp⟩ := hc 0 io rfl
    rw [List.range'_succ, wpOps_cons]
    refine step_lift hf h hb hO (by simpa using ho) hcomp h1 (fun S1 C1 a1 w1 e1 e2 e3 => ?_)
    refine wpOps_text hf hO n (k + 1) ios a1 w1 (by simpa using hl) (fun i io' hio => ?_) e2 (Nat.le_trans hb e3.size) (by rw [e1]; exact hr) (fun S2 C2 a2 w2 f1 f2 f3 => hQ S2 C2 a2 w2 f1 f2 (e3.trans f3))
    have := hc (i + 1) io' (by simpa using hio)
    rwa [show k + (i + 1) = k + 1 + i by omega] at this
   ·cases hr
theorem drew_inv (h : Inv E S X C a w) : Inv E S X C a { w with drawn := w.drawn + 1 } := h.grow ⟨Nat.le_refl _, fun _ _ => rfl⟩
theorem region_lift (hf : Fits E cx) (hO : ∀ g, Keeps' E.P E.sid orac g) (h : Inv E S [] C a w) (hb : E.base ≤ w.heap.size) {id : Nat} {draw : Bool} {ios : List Io} {k0 k1 : List Nat} (hed : draw = true → edgesOk 0 ops.toList = true)
  (hc : cIos cx ops.toList draw ops.toList (if draw then ancOf ops.toList else []) = some ios) {fin : St} (hd : draw = true → drawOk ios (logs orac modes cx.nt ios (killAll cx.nt k0 (erS S))) [] = true) (hr : region orac modes cx.nt k0 k1 ios (erS S) = some fin)
  {Q : Exit → Act → World → Prop} (hQ : ∀ S1 C1 a1 w1, erS S1 = fin → Inv E S1 [] C1 a1 w1 → Frame E w w1 → Q .normal a1 w1) : (Code.region id ops draw).wp E.P Q a w := by
 obtain ⟨hi0, he0⟩ := h.kill k0
 generalize killInA (lockS E.nt :: k0) 0 S = S0 at hi0 he0
 unfold region at hr
 rw [hf.nt] at hr hd
 split at hr
 ·rename_i st1 h1
  simp only [Option.some.injEq] at hr
  subst hr
  rw [← he0] at h1 hd
  rw [← hf.nt] at h1 hd
  obtain ⟨hlen, hspec⟩ := cIos_spec hc
  have hlen' : ios.length = ops.size := by rw [hlen]; simp
  have hcomp : ∀ (i : Nat) (io : Io), ios[i]? = some io → ∃ o, ops[i]? = some o ∧ CompIo cx (rowPtrs ops.toList []).contains ops io o ∧ (draw = true → io.anc = (ancOf ops.toList).getD i []) := by
   intro i io hio
   have hlt : i < ops.toList.length := by rw [← hlen]; exact (List.getElem?_eq_some_iff.1 hio).1
   obtain ⟨io', q1, q2, q3⟩ := hspec i _ (List.getElem?_eq_getElem hlt)
   rw [hio] at q1
   obtain rfl := Option.some.inj q1
   refine ⟨_, by rw [← Array.getElem?_toList]; exact List.getElem?_eq_getElem hlt, q2, fun hd => ?_⟩
   have := q3 hd
   simpa [hd] using this
  have hQ' : ∀ {w0 : World}, Frame E w w0 → ∀ S1 C1 a1 w1, erS S1 = st1 → Inv E S1 [] C1 a1 w1 → Frame E w0 w1 → Q .normal a1 w1 := by
   intro w0 hw0 S1 C1 a1 w1 e1 e2 e3
   obtain ⟨q1, q2⟩ := e2.kill k1
   exact hQ _ C1 a1 w1 (by rw [q2, e1]) q1 (hw0.trans e3)
  cases draw with
  | false =>
   refine wp_region ?_
   rw [List.range_eq_range']
   refine wpOps_text (inRow := (rowPtrs ops.toList []).contains) hf hO ops.size 0 ios a w hlen' (fun i io hio => ?_) hi0 hb h1 (hQ' (Frame.refl E w))
   obtain ⟨o, ho, q2, _⟩ := hcomp i io hio
   exact ⟨o, by rw [Nat.zero_add]; exact ho, q2⟩
  | true =>
   refine wp_region_draw fun t => ?_
   have hany : wpAny E.P .any ops Q ops.size (Array.replicate ops.size false) a { w with drawn := w.drawn + 1 } := by
    obtain ⟨hll, hruns⟩ := runs_of 0 h1
    have hpair := (drawOk_pairs (before := []) hll (hd rfl)).2
    simp only [List.length_nil] at hpair
    have hZ : ∀ z ∈ ((ios.zip (logs orac modes cx.nt ios (erS S0))).zipIdx 0).map (fun x => (x.2, x.1.1, x.1.2)), ios[z.1]? = some z.2.1 := by
     intro z hz
     obtain ⟨y, hy, rfl⟩ := List.mem_map.1 hz
     obtain ⟨_, h3, h4⟩ := List.mem_zipIdx hy
     simp only [Nat.zero_add, Nat.sub_zero] at h3 h4
     have : (ios.zip (logs orac modes cx.nt ios (erS S0)))[y.2]? = some y.1 := by
      rw [h4]; exact List.getElem?_eq_getElem _
     rw [List.getElem?_zip_eq_some] at this
     exact this.1
    have hll' : (ios.zip (logs orac modes cx.nt ios (erS S0))).length = ops.size := by
     rw [List.length_zip, hll, hlen']; simp
    have hidx : (((ios.zip (logs orac modes cx.nt ios (erS S0))).zipIdx 0).map (fun x => (x.2, x.1.1, x.1.2))).map (·.1) = List.range ops.size := by
     rw [List.map_map]
     have : ((fun x : Nat × Io × Lg => x.1) ∘ fun x : (Io × Lg) × Nat => (x.2, x.1.1, x.1.2)) = Prod.snd := rfl
     rw [this, List.zipIdx_map_snd, hll', List.range_eq_range']
    refine wpAny_runs (inRow := (rowPtrs ops.toList []).contains) (anc := fun i => (ancOf ops.toList).getD i []) hf hO (fun i o j ho hj => ?_) (fun i o ho e he hbe => ?_) ops.size _ _ a _ (by rw [List.length_map, List.length_zipIdx, hll']) (drew_inv hi0) hb hruns hpair (fun z hz => ?_) (by rw [hidx]; exact List.pairwise_lt_range) (by simp) (fun i hi => ?_) (fun i hi => ?_) (hQ' (drew_frame E w))
    ·obtain ⟨e, he, hbe, hje⟩ := ancOf_mem (by rw [Array.getElem?_toList]; exact ho) hj
     exact ⟨e, he, hbe .any, hje⟩
    ·have := edgesOk_spec (hed rfl) i o (by rw [Array.getElem?_toList]; exact ho) e he hbe
     omega
    ·obtain ⟨o, ho, q2, q3⟩ := hcomp z.1 z.2.1 (hZ z hz)
     exact ⟨⟨o, ho, q2⟩, q3 rfl⟩
    ·rw [hidx, List.mem_range]
     simp [hi]
    ·exfalso
     by_cases hlt : i < ops.size
     ·simp [hlt] at hi
     ·simp [hlt] at hi
   simp only [Region.schedule, hf.mixed, Bool.true_or, if_true]
   exact wpAny_sound ops.size t _ a _ hany
 ·cases hr
end
end Go.Vm
end
section
namespace Go.Vm
def exitOf : Ex → Exit
 | .normal => .normal
 | .exit id => .exit id
 | .ret => .ret
theorem wp_rounds {P : Program} {Q : Exit → Act → World → Prop} {c : Code} {a : Act} {w : World} (W : Act → World → Prop)
  (hW : ∀ a w, W a w → ∃ W' : Act → World → Prop, c.wp P (Exit.then W' Q) a w ∧ ∀ a' w', W' a' w' → ∀ (b : Go.Frame) (k : List Item) (cs : List Go.Frame), ∃ e a2 w2, Q e a2 w2 ∧ Arrives P (lone (b.at a' (.code c :: .inLoop c :: k)) cs w') b k cs e a2 w2) (h : W a w) :
  ∀ (b : Go.Frame) (k : List Item) (cs : List Go.Frame), ∃ e a' w', Q e a' w' ∧ Arrives P (lone (b.at a (.code c :: .inLoop c :: k)) cs w) b k cs e a' w' := by
 intro b k cs
 obtain ⟨W', h1, h2⟩ := hW a w h
 obtain ⟨e, a₁, w₁, hq, harr⟩ := h1 b (.inLoop c :: k) cs
 cases e with
 | normal =>
  obtain ⟨e₂, a₂, w₂, hq₂, harr₂⟩ := h2 a₁ w₁ hq b k cs
  exact ⟨e₂, a₂, w₂, hq₂, .of_steps (Steps.trans harr (.one step_inLoop)) harr₂⟩
 | exit id => exact ⟨_, a₁, w₁, hq, .pass (x := .inLoop c) rfl (fun _ _ => .inl (by simp)) harr⟩
 | goto l => exact ⟨_, a₁, w₁, hq, .pass (x := .inLoop c) rfl (fun _ _ => .inl (by simp)) harr⟩
 | ret => exact ⟨_, a₁, w₁, hq, .pass (x := .inLoop c) rfl (fun _ _ => .inl (by simp)) harr⟩
 | panic ch => exact ⟨_, a₁, w₁, hq, .pass (x := .inLoop c) rfl (fun _ _ => .inl (by simp)) harr⟩
 | outgrown => exact ⟨_, a₁, w₁, hq, .pass (x := .inLoop c) rfl (fun _ _ => .inl (by simp)) harr⟩
section
variable {E : Env} {cx : Cx} {S : StA} {X : List (Cell Tg)} {C : Nat → Nat → Prop} {a : Act} {w w' : World} {orac : Orac} {modes : Modes}
theorem put_same (h : a.tmps.size = E.nt) {d : Nat} (hd : d < E.nt) : a.put (some d) (a.tmps.getD d undef) = a := by
 obtain ⟨tmps, defers⟩ := a
 simp only [Act.put, Act.mk.injEq, and_true]
 apply Array.ext_getElem?
 intro i
 rw [Array.getElem?_setIfInBounds]
 split
 ·rename_i e; subst e
  have : d < tmps.size := by rw [h]; exact hd
  simp [this]
 ·rfl
theorem cond_lift (hf : Fits E cx) (h : Inv E S [] C a w) {c : Operand} {x : Opd} (hc : cOpd cx c = some x) {b : Bool} {st1 : St} (hr : condS x (erS S) = some (b, st1)) :
  ∃ S1, erS S1 = st1 ∧ Inv E S1 [] C a w ∧ a.eval c = .bool b := by
 unfold condS at hr
 split at hr
 ·rename_i i
  have hct : c = .tmp i ∧ i < cx.nt := by
   cases c with
   | tmp t =>
    simp only [cOpd] at hc
    split at hc
    ·rename_i ht
     simp only [Option.some.injEq, Opd.t.injEq] at hc
     subst hc; exact ⟨rfl, ht⟩
    ·cases hc
   | const v =>
    cases v <;> simp [cOpd] at hc
   | global g => simp [cOpd] at hc
   | func f => simp [cOpd] at hc
  obtain ⟨rfl, hi⟩ := hct
  rw [hf.nt] at hi
  split at hr
  ·rename_i s hs
   obtain ⟨sA, hsA, rfl⟩ := erS_some hs
   split at hr
   ·rename_i z hk hcs
    have hkv : sA.k = .val := by
     rw [er_kind] at hk
     cases hk' : sA.k <;> rw [hk'] at hk <;> simp [Kd.er] at hk ⊢
    split at hr
    ·rename_i b' hb
     simp only [Option.some.injEq, Prod.mk.injEq] at hr
     obtain ⟨rfl, rfl⟩ := hr
     have hv := h.slv i sA hi hsA
     have hv0 := hv
     unfold SlV at hv; rw [hkv] at hv
     obtain ⟨cc, hcc, hv⟩ := hv
     rw [er_cells, hcc] at hcs
     simp only [List.map_cons, List.map_nil, List.cons.injEq, and_true] at hcs
     have hbb : cc.v = .bool b' := er_bool (by rw [← hb, ← hcs]; rfl)
     have hk := h.cells i sA hsA cc (by rw [hcc]; exact List.mem_singleton.2 rfl)
     have hfree : Free sA := by
      refine ⟨by rw [hkv]; simp, fun x hx => ?_⟩
      rw [hcc, List.mem_singleton] at hx
      subst hx
      refine ⟨by rw [hbb]; rfl, ?_⟩
      obtain ⟨v, f⟩ := x
      simp only at hbb; subst hbb
      cases f with
      | ow g => exact absurd hk.1 (by simp [isRow])
      | nw g => exact absurd hk.1 (by simp [isRow])
      | os n => exact absurd hk.1 (by simp [isRow])
      | mp i =>
       obtain ⟨_, ⟨t, es, e1, _⟩, _⟩ := hk
       have e1 : (VA.bool b' : A) = .row t es := e1
       cases e1
      | _ => rfl
     refine ⟨S.set i ⟨.dead, []⟩, by rw [erS_set]; rfl, ?_, ?_⟩
     ·have := Inv.put (zs := []) (s := ⟨.dead, []⟩) (v := a.tmps.getD i undef) h hi hsA hfree rfl (by simp) trivial (by simp) (by simp)
      rwa [put_same h.tsz hi] at this
     ·show a.tmps.getD i undef = _
      rw [hv, hbb]; rfl
    ·cases hr
   ·cases hr
  ·cases hr
 ·rename_i b'
  simp only [Option.some.injEq, Prod.mk.injEq] at hr
  obtain ⟨rfl, rfl⟩ := hr
  refine ⟨S, rfl, h, ?_⟩
  cases c with
  | tmp t => simp only [cOpd] at hc; split at hc <;> simp at hc
  | const v =>
   cases v with
   | bool b => simp [cOpd, constV] at hc; subst hc; rfl
   | agg cs => simp [cOpd] at hc
   | slice ad l cp =>
    simp only [cOpd, Option.map_eq_some_iff] at hc
    obtain ⟨u, h1, h2⟩ := hc
    simp only [Opd.c.injEq, List.cons.injEq, and_true, true_and] at h2
    subst h2
    have := (constV_cA (sid := fun _ => 0) h1).2.1
    simp [cA, VA.val] at this
   | _ => simp [cOpd, constV] at hc
  | global g => simp [cOpd] at hc
  | func f => simp [cOpd] at hc
 ·cases hr
theorem code_lift (hf : Fits E cx) (hO : ∀ g, Keeps' E.P E.sid orac g) {all : List Nat} {n : Nat} : ∀ (c : Code) {S : StA} {C : Nat → Nat → Prop} {a : Act} {w : World} {ex : Ex} {fin : St} {Q : Exit → Act → World → Prop}, Inv E S [] C a w → E.base ≤ w.heap.size →
  code orac modes cx.nt n (cCode cx all c) (erS S) = some (ex, fin) → (∀ S1 C1 a1 w1, erS S1 = fin → Inv E S1 [] C1 a1 w1 → Frame E w w1 → Q (exitOf ex) a1 w1) → c.wp E.P Q a w := by
 intro c
 induction c with
 | skip =>
  intro S C a w ex fin Q h hb hr hQ
  simp only [cCode, code, Option.some.injEq, Prod.mk.injEq] at hr
  obtain ⟨rfl, rfl⟩ := hr
  exact Go.wp_skip (hQ S C a w rfl h (Frame.refl E w))
 | region id ops draw =>
  intro S C a w ex fin Q h hb hr hQ
  simp only [cCode] at hr
  split at hr
  ·simp [code] at hr
  ·rename_i hed
   split at hr
   ·rename_i ios hios
    simp only [code] at hr
    split at hr
    ·cases hr
    ·rename_i hdr
     split at hr
     ·rename_i st1 hreg
      simp only [Option.some.injEq, Prod.mk.injEq] at hr
      obtain ⟨rfl, rfl⟩ := hr
      refine region_lift hf hO h hb (fun hd => ?_) hios (fun hd => ?_) hreg hQ
      ·rw [hd] at hed
       simpa using hed
      ·rw [hd] at hdr
       simpa using hdr
     ·cases hr
   ·simp [code] at hr
 | seq x y ihx ihy =>
  intro S C a w ex fin Q h hb hr hQ
  simp only [cCode, code] at hr
  refine wp_seq ?_
  split at hr
  ·rename_i st1 h1
   refine ihx h hb h1 (fun S1 C1 a1 w1 e1 e2 e3 => ?_)
   show y.wp E.P Q a1 w1
   refine ihy e2 (Nat.le_trans hb e3.size) (by rw [e1]; exact hr) (fun S2 C2 a2 w2 f1 f2 f3 => hQ S2 C2 a2 w2 f1 f2 (e3.trans f3))
  ·rename_i hne
   refine ihx h hb hr (fun S1 C1 a1 w1 e1 e2 e3 => ?_)
   have := hQ S1 C1 a1 w1 e1 e2 e3
   cases ex with
   | normal => exact absurd hr (by intro hh; exact hne _ hh)
   | exit id => exact this
   | ret => exact this
 | cond c x y ihx ihy =>
  intro S C a w ex fin Q h hb hr hQ
  simp only [cCode] at hr
  split at hr
  ·rename_i xo hxo
   simp only [code] at hr
   split at hr
   ·rename_i st1 h1
    obtain ⟨S1, e1, e2, e3⟩ := cond_lift hf h hxo h1
    exact wp_cond_true e3 (ihx e2 hb (by rw [e1]; exact hr) hQ)
   ·rename_i st1 h1
    obtain ⟨S1, e1, e2, e3⟩ := cond_lift hf h hxo h1
    exact wp_cond_false e3 (ihy e2 hb (by rw [e1]; exact hr) hQ)
   ·cases hr
  ·simp [code] at hr
 | block id c ih =>
  intro S C a w ex fin Q h hb hr hQ
  simp only [cCode, code] at hr
  refine wp_block ?_
  split at hr
  ·rename_i id' st1 h1
   refine ih h hb h1 (fun S1 C1 a1 w1 e1 e2 e3 => ?_)
   simp only [exitOf, Exit.inBlock]
   split at hr
   ·rename_i hid
    simp only [Option.some.injEq, Prod.mk.injEq] at hr
    obtain ⟨rfl, rfl⟩ := hr
    rw [if_pos hid]
    exact hQ S1 C1 a1 w1 e1 e2 e3
   ·rename_i hid
    simp only [Option.some.injEq, Prod.mk.injEq] at hr
    obtain ⟨rfl, rfl⟩ := hr
    rw [if_neg hid]
    exact hQ S1 C1 a1 w1 e1 e2 e3
  ·rename_i hne
   refine ih h hb hr (fun S1 C1 a1 w1 e1 e2 e3 => ?_)
   have := hQ S1 C1 a1 w1 e1 e2 e3
   cases ex with
   | normal => exact this
   | exit id' => exact absurd hr (by intro hh; exact hne _ _ hh)
   | ret => exact this
 | loop c ih =>
  intro S C a w ex fin Q h hb hr hQ
  simp only [cCode, code] at hr
  have key : ∀ (m : Nat) {S : StA} {C : Nat → Nat → Prop} {a : Act} {w0 : World}, Inv E S [] C a w0 → Frame E w w0 → loopN (code orac modes cx.nt n (cCode cx all c)) m (erS S) = some (ex, fin) →
    ∀ (b : Go.Frame) (k : List Item) (cs : List Go.Frame), ∃ e a' w', Q e a' w' ∧ Arrives E.P (lone (b.at a (.code c :: .inLoop c :: k)) cs w0) b k cs e a' w' := by
   intro m
   induction m with
   | zero => intro S C a w0 _ _ hr; simp [loopN] at hr
   | succ m ihm =>
    intro S C a w0 hi hfr hr
    simp only [loopN] at hr
    refine wp_rounds (fun a' w' => a' = a ∧ w' = w0) ?_ ⟨rfl, rfl⟩
    rintro a' w' ⟨rfl, rfl⟩
    split at hr
    ·rename_i st1 h1
     refine ⟨fun a1 w1 => ∃ S1 C1, erS S1 = st1 ∧ Inv E S1 [] C1 a1 w1 ∧ Frame E w w1, ih hi (Nat.le_trans hb hfr.size) h1 (fun S1 C1 a1 w1 e1 e2 e3 => ⟨S1, C1, e1, e2, hfr.trans e3⟩), ?_⟩
     rintro a1 w1 ⟨S1, C1, e1, e2, e3⟩
     exact ihm e2 e3 (by rw [e1]; exact hr)
    ·rename_i hne
     refine ⟨fun _ _ => False, ih hi (Nat.le_trans hb hfr.size) hr (fun S1 C1 a1 w1 e1 e2 e3 => ?_), fun _ _ hf => hf.elim⟩
     have := hQ S1 C1 a1 w1 e1 e2 (hfr.trans e3)
     cases ex with
     | normal => exact absurd hr (by intro hh; exact hne _ hh)
     | exit id => exact this
     | ret => exact this
  intro b k cs
  obtain ⟨e, a', w', hq, harr⟩ := key n h (Frame.refl E w) hr b k cs
  exact ⟨e, a', w', hq, .of_steps (.one step_loop) harr⟩
 | exit id =>
  intro S C a w ex fin Q h hb hr hQ
  simp only [cCode, code, Option.some.injEq, Prod.mk.injEq] at hr
  obtain ⟨rfl, rfl⟩ := hr
  exact wp_exit (hQ S C a w rfl h (Frame.refl E w))
 | ret =>
  intro S C a w ex fin Q h hb hr hQ
  simp only [cCode, code, Option.some.injEq, Prod.mk.injEq] at hr
  obtain ⟨rfl, rfl⟩ := hr
  exact wp_ret (hQ S C a w rfl h (Frame.refl E w))
 | _ =>
  intros
  rename_i hr _
  simp [cCode, code] at hr
end
end Go.Vm
end
section
namespace Go.Vm
def deadA : SA := ⟨.dead, []⟩
def lowA (n : Nat) : List SA → List SA
 | ⟨.box _, _⟩ :: r => ⟨.ptr (lockS n + 1) 0, []⟩ :: r
 | l => l
def topA : List SA → SA
 | ⟨.box t, cs⟩ :: _ => ⟨.box t, cs⟩
 | _ => deadA
def startA (n np : Nat) (args : List SA) : StA := (lowA n args ++ List.replicate (n - np) deadA) ++ (List.replicate (n + 1) deadA ++ [topA args])
def topTag : List SA → Tg
 | ⟨.box t, _⟩ :: _ => t
 | _ => ⟨none, 0, 0⟩
def startEnv (E : Env) (n : Nat) (args : List SA) : Env := { E with nt := n, chg := fun b => b ∈ args.flatMap Sl.own, pb := topTag args }
theorem startA_er (fn : FnIr) (args : List SA) : erS (startA fn.ntmps fn.np args) = start fn (args.map Sl.er) := by
 cases args with
 | nil => simp [startA, lowA, topA, start, erS]; rfl
 | cons s r =>
  obtain ⟨k, cs⟩ := s
  cases k <;> simp [startA, lowA, topA, start, erS, Sl.er, Kd.er, deadA, dead]
theorem lowA_len (n : Nat) (args : List SA) : (lowA n args).length = args.length := by
 cases args with
 | nil => rfl
 | cons s r =>
  obtain ⟨k, cs⟩ := s
  cases k <;> rfl
theorem lowA_get {n : Nat} {args : List SA} {i : Nat} {s : SA} (h : (lowA n args)[i]? = some s) :
  (args[i]? = some s ∧ (i = 0 → ∀ t, s.k ≠ .box t)) ∨ (i = 0 ∧ s = ⟨.ptr (lockS n + 1) 0, []⟩ ∧ args[0]? = some (topA args) ∧ (topA args).k = .box (topTag args)) := by
 cases args with
 | nil => simp [lowA] at h
 | cons s0 r =>
  obtain ⟨k, cs⟩ := s0
  cases i with
  | zero =>
   cases k with
   | box t =>
    simp only [lowA, List.getElem?_cons_zero, Option.some.injEq] at h
    exact .inr ⟨rfl, h.symm, rfl, rfl⟩
   | _ =>
    simp only [lowA, List.getElem?_cons_zero, Option.some.injEq] at h
    subst h
    exact .inl ⟨rfl, fun _ t => by simp⟩
  | succ i =>
   refine .inl ⟨?_, by simp⟩
   cases k <;> simpa [lowA] using h
theorem topA_cases (args : List SA) : topA args = deadA ∨ (args[0]? = some (topA args) ∧ (topA args).k = .box (topTag args)) := by
 cases args with
 | nil => exact .inl rfl
 | cons s0 r =>
  obtain ⟨k, cs⟩ := s0
  cases k <;> first | exact .inl rfl | exact .inr ⟨rfl, rfl⟩
theorem start_own (n : Nat) (args : List SA) (b : Nat) : ((lowA n args).flatMap Sl.own).count b + (topA args).own.count b = (args.flatMap Sl.own).count b := by
 cases args with
 | nil => simp [lowA, topA, deadA, Sl.own, Sl.boxOwn]
 | cons s0 r =>
  obtain ⟨k, cs⟩ := s0
  cases k <;> simp [lowA, topA, deadA, Sl.own, Sl.boxOwn, List.count_append] <;> omega
theorem startA_get {n np : Nat} {args : List SA} (hl : args.length = np) (hle : np ≤ n) {i : Nat} {s : SA} (h : (startA n np args)[i]? = some s) :
  (i < n ∧ ((lowA n args)[i]? = some s ∨ (np ≤ i ∧ s = deadA))) ∨ (n ≤ i ∧ i < lockS n + 1 ∧ s = deadA) ∨ (i = lockS n + 1 ∧ s = topA args) := by
 have hlen : (lowA n args ++ List.replicate (n - np) deadA).length = n := by rw [List.length_append, lowA_len, List.length_replicate]; omega
 unfold startA at h
 rw [List.getElem?_append] at h
 split at h
 ·rename_i hi
  rw [hlen] at hi
  refine .inl ⟨hi, ?_⟩
  rw [List.getElem?_append] at h
  split at h
  ·exact .inl h
  ·rename_i hi2
   rw [lowA_len] at hi2
   rw [List.getElem?_replicate] at h
   split at h
   ·simp only [Option.some.injEq] at h
    exact .inr ⟨by omega, h.symm⟩
   ·cases h
 ·rename_i hi
  rw [hlen] at hi h
  refine .inr ?_
  rw [List.getElem?_append] at h
  split at h
  ·rename_i hi2
   rw [List.length_replicate] at hi2
   rw [List.getElem?_replicate, if_pos hi2] at h
   simp only [Option.some.injEq] at h
   exact .inl ⟨by omega, by unfold lockS; omega, h.symm⟩
  ·rename_i hi2
   rw [List.length_replicate] at hi2 h
   cases hk : i - n - (n + 1) with
   | zero =>
    rw [hk] at h
    simp only [List.getElem?_cons_zero, Option.some.injEq] at h
    exact .inr ⟨by unfold lockS; omega, h.symm⟩
   | succ m =>
    rw [hk] at h
    simp at h
theorem COk.entry {E : Env} {w : World} {n : Nat} {args : List SA} (he : Entry E w args) {s : SA} (hs : s ∈ args) {x : Cell Tg} (hx : x ∈ s.cs) {S : StA} {X : List (Cell Tg)} : COk (startEnv E n args) w E.old S X x := by
 have hk := he.cells s hs x hx
 have hf := he.flags s hs x hx
 obtain ⟨v, f⟩ := x
 rcases hf with hf | ⟨p, q, hf⟩ | hf | hf | ⟨i, hf⟩
 ·simp only at hf; subst hf; exact hk
 ·simp only at hf; subst hf; exact hk
 ·simp only at hf; subst hf; exact hk
 ·simp only at hf; subst hf; exact hk
 ·simp only at hf; subst hf
  refine ⟨hk.1, hk.2.1, fun b hb => .inr ?_⟩
  refine List.mem_flatMap.2 ⟨s, hs, ?_⟩
  unfold Sl.own
  exact List.mem_append.2 (.inr (List.mem_flatMap.2 ⟨_, hx, own_of (x := ⟨v, .mp i⟩) rfl hb⟩))
theorem inv_start {E : Env} {w : World} {args : List SA} (he : Entry E w args) {n np : Nat} (hl : args.length = np) (hle : np ≤ n) :
  Inv (startEnv E n args) (startA n np args) [] E.old { tmps := (args.map (slVal E.sid)).toArray ++ Array.replicate (n - np) undef, defers := [] } w := by
 have hget := fun {i : Nat} {s : SA} (h : (startA n np args)[i]? = some s) => startA_get hl hle h
 have hlen : (startA n np args).length = 2 * n + 2 := by
  simp only [startA, List.length_append, lowA_len, List.length_replicate, List.length_cons, List.length_nil]
  omega
 have htop : (startA n np args)[lockS n + 1]? = some (topA args) := by
  have hlen1 : (lowA n args ++ List.replicate (n - np) deadA).length = n := by rw [List.length_append, lowA_len, List.length_replicate]; omega
  unfold startA
  rw [List.getElem?_append_right (by rw [hlen1]; unfold lockS; omega), hlen1, List.getElem?_append_right (by rw [List.length_replicate]; unfold lockS; omega), List.length_replicate]
  have : lockS n + 1 - n - (n + 1) = 0 := by unfold lockS; omega
  rw [this]; rfl
 have hmem : ∀ {i : Nat} {s : SA}, (startA n np args)[i]? = some s → s = deadA ∨ s = ⟨.ptr (lockS n + 1) 0, []⟩ ∨ s ∈ args := by
  intro i s h
  rcases hget h with ⟨_, h1 | ⟨_, h1⟩⟩ | ⟨_, _, h1⟩ | ⟨_, h1⟩
  ·rcases lowA_get h1 with ⟨h2, _⟩ | ⟨_, h2, _⟩
   ·exact .inr (.inr (List.mem_of_getElem? h2))
   ·exact .inr (.inl h2)
  ·exact .inl h1
  ·exact .inl h1
  ·rcases topA_cases args with h2 | ⟨h2, _⟩
   ·exact .inl (h1.trans h2)
   ·rw [h1]; exact .inr (.inr (List.mem_of_getElem? h2))
 have hkarg : ∀ s ∈ args, (s.k = .val ∧ ∃ c, s.cs = [c]) ∨ s.k = .agg ∨ ∃ t, s.k = .box t := by
  intro s hs
  obtain ⟨i, hi⟩ := List.mem_iff_getElem?.1 hs
  rcases he.kinds i s hi with h | h | ⟨_, h⟩
  ·exact .inl h
  ·exact .inr (.inl h)
  ·exact .inr (.inr h)
 have hown : ∀ b, (ownAll (startA n np args) []).count b = (args.flatMap Sl.own).count b := by
  intro b
  have hr : ∀ m, ((List.replicate m deadA).flatMap Sl.own).count b = 0 := by
   intro m
   rw [List.count_eq_zero]
   intro hm
   obtain ⟨s, hs, hb⟩ := List.mem_flatMap.1 hm
   rw [List.eq_of_mem_replicate hs] at hb
   simp [deadA, Sl.own, Sl.boxOwn] at hb
  have := start_own n args b
  simp only [ownAll, startA, List.flatMap_append, List.flatMap_nil, List.append_nil, List.count_append, hr, List.flatMap_cons]
  omega
 refine ⟨hlen, by simp [startEnv, hl]; omega, rfl, ?_, ?_, ?_, ?_, ?_, ?_, ?_, ?_, by simp, fun b => by rw [hown]; exact he.cnt b, fun _ _ => id, fun b j hj => he.olt b j hj, fun b j hj => .inr (.inl hj), fun b hb => ?_⟩
 ·intro i s hi hs
  have hi : i < n := hi
  rcases hget hs with ⟨_, h1 | ⟨_, h1⟩⟩ | ⟨h2, _⟩ | ⟨h2, _⟩
  ·have hil : i < args.length := by rw [← lowA_len n]; exact (List.getElem?_eq_some_iff.1 h1).1
   have hv : ∀ s0, args[i]? = some s0 → ((({ tmps := (args.map (slVal E.sid)).toArray ++ Array.replicate (n - np) undef, defers := [] } : Act).tmps).getD i undef) = slVal E.sid s0 := by
    intro s0 hs0
    have : (args.map (slVal E.sid))[i]? = some (slVal E.sid s0) := by simp [hs0]
    simp only [Array.getD_eq_getD_getElem?]
    rw [Array.getElem?_append_left (by simpa using hil)]
    rw [List.getElem?_toArray, this]; rfl
   rcases lowA_get h1 with ⟨h2, h3⟩ | ⟨rfl, rfl, h3, h4⟩
   ·rw [hv s h2]
    rcases he.kinds i s h2 with ⟨hk, c, hc⟩ | hk | ⟨h0, t, hk⟩
    ·unfold SlV; rw [hk]
     exact ⟨c, hc, by simp [slVal, hk, hc]; rfl⟩
    ·unfold SlV; rw [hk]
     simp only [slVal, hk]; rfl
    ·exact absurd hk (h3 h0 t)
   ·rw [hv _ h3]
    obtain ⟨b, T, q1, _⟩ := he.box (topA args) (List.mem_of_getElem? h3) _ h4
    refine ⟨b, ?_, by simp [slVal, h4, q1]⟩
    unfold boxAddr
    rw [htop]
    generalize topA args = z at h4
    obtain ⟨k, cs⟩ := z
    simp only at h4; subst h4
    exact q1
  ·rw [h1]; trivial
  ·omega
  ·unfold lockS at h2; omega
 ·intro i s hi hs
  have hi : n ≤ i := hi
  rcases hget hs with ⟨h2, _⟩ | ⟨_, _, h1⟩ | ⟨_, h1⟩
  ·omega
  ·rw [h1]; exact .inl rfl
  ·rcases topA_cases args with h2 | ⟨_, h2⟩
   ·rw [h1, h2]; exact .inl rfl
   ·rw [h1]; exact .inr (.inr ⟨_, h2, fun _ => rfl⟩)
 ·intro i s hs hk
  rcases hmem hs with h1 | h1 | h1
  ·rw [h1]; rfl
  ·rw [h1]
  ·exfalso
   rcases hkarg s h1 with ⟨h2, _⟩ | h2 | ⟨t, h2⟩ <;> rw [h2] at hk <;> simp at hk
 ·intro i s hi hs hk
  rcases hmem hs with h1 | h1 | h1
  ·rw [h1] at hk; simp [deadA] at hk
  ·rw [h1] at hk; simp at hk
  ·exfalso
   rcases hkarg s h1 with ⟨h2, _⟩ | h2 | ⟨t, h2⟩ <;> rw [h2] at hk <;> simp at hk
 ·intro l _ _
  refine ⟨fun i s hs x hx p q r hf => ?_, by simp⟩
  rcases hmem hs with h1 | h1 | h1
  ·rw [h1] at hx; simp [deadA] at hx
  ·rw [h1] at hx; simp at hx
  ·rcases he.flags s h1 x hx with h | ⟨_, _, h⟩ | h | h | ⟨_, h⟩ <;> rw [h] at hf <;> simp at hf
 ·intro i s t hs hk
  rcases hmem hs with h1 | h1 | h1
  ·rw [h1] at hk; simp [deadA] at hk
  ·rw [h1] at hk; simp at hk
  ·obtain ⟨b, T, q1, q2, q3, q4⟩ := he.box s h1 t hk
   refine ⟨b, T, q1, q2, q3, .inr ?_⟩
   refine List.mem_flatMap.2 ⟨s, h1, ?_⟩
   unfold Sl.own
   exact List.mem_append.2 (.inl (by simp [Sl.boxOwn, hk, q1]))
 ·intro i s t src ix hs hk
  exfalso
  rcases hmem hs with h1 | h1 | h1
  ·rw [h1] at hk; simp [deadA] at hk
  ·rw [h1] at hk; simp at hk
  ·rcases hkarg s h1 with ⟨h2, _⟩ | h2 | ⟨t, h2⟩ <;> rw [h2] at hk <;> simp at hk
 ·intro i s hs x hx
  rcases hmem hs with h1 | h1 | h1
  ·rw [h1] at hx; simp [deadA] at hx
  ·rw [h1] at hx; simp at hx
  ·exact COk.entry he h1 hx
 ·refine he.own b ?_
  have := hown b
  have h2 := List.count_pos_iff.2 hb
  exact List.count_pos_iff.1 (by omega)
theorem start_chg {E : Env} {w : World} {args : List SA} (he : Entry E w args) {b : Nat} (hb : b ∈ args.flatMap Sl.own) : E.chg b ∧ b < E.base := by
 have hlt := (he.own b hb).1
 obtain ⟨s, hs, hbs⟩ := List.mem_flatMap.1 hb
 rw [he.base]
 refine ⟨?_, hlt⟩
 unfold Sl.own at hbs
 rcases List.mem_append.1 hbs with h | h
 ·cases hk : s.k with
  | box t =>
   obtain ⟨b', T, q1, _, _, q4⟩ := he.box s hs t hk
   simp only [Sl.boxOwn, hk, q1, List.mem_singleton] at h
   subst h
   rcases q4 with q4 | q4
   ·rw [he.base] at q4; omega
   ·exact q4
  | _ => simp [Sl.boxOwn, hk] at h
 ·obtain ⟨x, hx, hbx⟩ := List.mem_flatMap.1 h
  have hk := he.cells s hs x hx
  have hf := he.flags s hs x hx
  obtain ⟨v, f⟩ := x
  rcases hf with hf | ⟨p, q, hf⟩ | hf | hf | ⟨i, hf⟩ <;> (simp only at hf; subst hf) <;> simp [Cell.own, Go.Vm.hold, isOs, owns] at hbx
  rcases hk.2.2 b hbx with h1 | h1
  ·rw [he.base] at h1; omega
  ·exact h1
end Go.Vm
end
section
namespace Go.Vm
inductive ResC (E : Env) (S : StA) (C : Nat → Nat → Prop) (w : World) : Cell Tg → List (Nat × Nat) → Bool → Prop
 | sc (v : A) (h : scal v = true) : ResC E S C w ⟨v, .sc⟩ [] false
 | nl (k : Nat) : ResC E S C w ⟨.row ⟨none, 0, k⟩ [], .nl⟩ [] false
 | own (v : A) (g : Bool) (p q : Nat) (y : Cell Tg) (hy : cellAt S p q = some y) (hf : y.f = .ow g ∨ y.f = .nw g) (hv : y.v = v) : ResC E S C w ⟨v, .ow g⟩ [(p, q)] false
 | os (v : A) (p q : Nat) (y : Cell Tg) (hy : cellAt S p q = some y) (hf : isOs y.f = true) (hv : y.v = v) : ResC E S C w ⟨v, .os false⟩ [(p, q)] false
 | loose (v : A) (hr : isRow v = true) (hf : Fst E w v) : ResC E S C w ⟨v, .ow false⟩ [] true
 | no (v : A) (hr : isRow v = true) (hrd : Rd E.sid w C v) : ResC E S C w ⟨v, .no⟩ [] false
def ResL (E : Env) (S : StA) (C : Nat → Nat → Prop) (w : World) (zs : List (Cell Tg)) (pl : List (Nat × Nat)) (n : Nat) : Prop :=
 ∃ ys : List (Cell Tg × List (Nat × Nat) × Bool), zs = ys.map (·.1) ∧ pl = ys.flatMap (·.2.1) ∧ n = (ys.filter (·.2.2)).length ∧ ∀ y ∈ ys, ResC E S C w y.1 y.2.1 y.2.2
theorem ite_some' {c : Bool} {α : Type} {a r : α} (h : (if c = true then some a else none) = some r) : c = true ∧ r = a := by
 cases c with
 | true => simp at h; exact ⟨rfl, h.symm⟩
 | false => simp at h
def packVal (vs : List Value) : Value :=
 match vs with
 | [v] => v
 | vs => .tuple vs.toArray
section
variable {E : Env} {cx : Cx} {S : StA} {X : List (Cell Tg)} {C : Nat → Nat → Prop} {a : Act} {w w' : World}
theorem resCell_lift (h : Inv E S [] C a w) {s c : Nat} {x : Cell Tg} (hx : cellAt S s c = some x) {r : Cell Unit × List (Nat × Nat) × Bool} (hr : resCell (erS S) s c x.er = some r) :
  ∃ z : Cell Tg, z.er = r.1 ∧ z.v = x.v ∧ ResC E S C w z r.2.1 r.2.2 := by
 obtain ⟨sl, hs, hc⟩ := cellAt_some hx
 have hk := h.cells s sl hs x (List.mem_of_getElem? hc)
 obtain ⟨v, f⟩ := x
 unfold resCell at hr
 cases f with
 | sc =>
  simp only [Cell.er, Option.some.injEq] at hr
  subst hr
  exact ⟨⟨v, .sc⟩, rfl, rfl, .sc v hk⟩
 | nl =>
  simp only [Cell.er, Option.some.injEq] at hr
  subst hr
  obtain ⟨k, hv⟩ := hk
  have hv : v = .row ⟨none, 0, k⟩ [] := hv
  subst hv
  exact ⟨_, rfl, rfl, .nl k⟩
 | ow g =>
  simp only [Cell.er, Option.some.injEq] at hr
  subst hr
  exact ⟨⟨v, .ow g⟩, rfl, rfl, .own v g s c _ hx (.inl rfl) rfl⟩
 | nw g =>
  simp only [Cell.er, Option.some.injEq] at hr
  subst hr
  exact ⟨⟨v, .ow g⟩, rfl, rfl, .own v g s c _ hx (.inr rfl) rfl⟩
 | os n =>
  simp only [Cell.er, Option.some.injEq] at hr
  subst hr
  exact ⟨⟨v, .os false⟩, rfl, rfl, .os v s c _ hx rfl rfl⟩
 | sp p q =>
  simp only [Cell.er] at hr
  obtain ⟨hrow, rfl⟩ := ite_some' hr
  rw [isRow_er] at hrow
  exact ⟨⟨v, .no⟩, rfl, rfl, .no v hrow (hk.2.1.mono h.olt (fun _ _ _ => rfl))⟩
 | sh =>
  simp only [Cell.er] at hr
  obtain ⟨hrow, rfl⟩ := ite_some' hr
  rw [isRow_er] at hrow
  exact ⟨⟨v, .no⟩, rfl, rfl, .no v hrow (Rd.mono hk h.olt (fun _ _ _ => rfl))⟩
 | no =>
  simp only [Cell.er] at hr
  obtain ⟨_, rfl⟩ := ite_some' hr
  exact ⟨⟨v, .no⟩, rfl, rfl, .no v hk.1 hk.2⟩
 | fr =>
  simp only [Cell.er, Option.some.injEq] at hr
  subst hr
  exact ⟨⟨v, .ow false⟩, rfl, rfl, .loose v hk.1 hk.2.2⟩
 | mp i => simp [Cell.er] at hr
 | ap p q i => simp [Cell.er] at hr
 | dd => simp [Cell.er] at hr
 | cp m p q ix =>
  have hno : ResC E S C w ⟨v, .no⟩ [] false := .no v hk.1 hk.2.1
  cases ix with
  | some i =>
   cases m with
   | own =>
    simp only [Cell.er, Option.some.injEq] at hr
    subst hr
    exact ⟨⟨v, .ow false⟩, rfl, rfl, .loose v hk.1 (hk.2.2.2 rfl)⟩
   | grn =>
    simp only [Cell.er] at hr
    obtain ⟨_, rfl⟩ := ite_some' hr
    exact ⟨⟨v, .no⟩, rfl, rfl, hno⟩
   | spn =>
    simp only [Cell.er] at hr
    obtain ⟨_, rfl⟩ := ite_some' hr
    exact ⟨⟨v, .no⟩, rfl, rfl, hno⟩
   | chg =>
    simp only [Cell.er, Option.some.injEq] at hr
    subst hr
    exact ⟨⟨v, .no⟩, rfl, rfl, hno⟩
  | none =>
   have gen : m ≠ .chg → (match ((erS S)[p]?).bind fun sl => flAt sl q with
     | some (.ow g) => some ((⟨v.er, .ow g⟩ : Cell Unit), [(p, q)], false)
     | some (.os false) => some ((⟨v.er, .os false⟩ : Cell Unit), [(p, q)], false)
     | _ => match m with
      | .own => some ((⟨v.er, .ow false⟩ : Cell Unit), [], true)
      | _ => some ((⟨v.er, .no⟩ : Cell Unit), [], false)) = some r → ∃ z : Cell Tg, z.er = r.1 ∧ z.v = v ∧ ResC E S C w z r.2.1 r.2.2 := by
    intro hm hr
    split at hr
    ·rename_i g hfl
     simp only [Option.some.injEq] at hr
     subst hr
     cases hsp : (erS S)[p]? with
     | none => rw [hsp] at hfl; simp at hfl
     | some slU =>
      rw [hsp] at hfl
      obtain ⟨slA, hA, rfl⟩ := erS_some hsp
      simp only [Option.bind_some, flAt, er_cells, List.getElem?_map, Option.map_map, Option.map_eq_some_iff] at hfl
      obtain ⟨y, hy, hyf⟩ := hfl
      have hyf : y.f = .ow g := hyf
      have hyat := cellAt_of hA hy
      have hyv : y.v = v := hk.2.2.1.2 y hyat (.inl ⟨g, hyf⟩)
      exact ⟨⟨v, .ow g⟩, rfl, rfl, .own v g p q y hyat (.inl hyf) hyv⟩
    ·rename_i hfl
     simp only [Option.some.injEq] at hr
     subst hr
     cases hsp : (erS S)[p]? with
     | none => rw [hsp] at hfl; simp at hfl
     | some slU =>
      rw [hsp] at hfl
      obtain ⟨slA, hA, rfl⟩ := erS_some hsp
      simp only [Option.bind_some, flAt, er_cells, List.getElem?_map, Option.map_map, Option.map_eq_some_iff] at hfl
      obtain ⟨y, hy, hyf⟩ := hfl
      have hyf : y.f = .os false := hyf
      have hyat := cellAt_of hA hy
      have hyv : y.v = v := hk.2.2.1.2 y hyat (.inr (.inr ⟨hyf, rfl⟩))
      exact ⟨⟨v, .os false⟩, rfl, rfl, .os v p q y hyat (by rw [hyf]; rfl) hyv⟩
    ·cases m with
     | own =>
      simp only [Option.some.injEq] at hr
      subst hr
      exact ⟨⟨v, .ow false⟩, rfl, rfl, .loose v hk.1 (hk.2.2.2 rfl)⟩
     | grn =>
      simp only [Option.some.injEq] at hr
      subst hr
      exact ⟨⟨v, .no⟩, rfl, rfl, hno⟩
     | chg => exact absurd rfl hm
     | spn =>
      simp only [Option.some.injEq] at hr
      subst hr
      exact ⟨⟨v, .no⟩, rfl, rfl, hno⟩
   cases m with
   | own => exact gen (by simp) hr
   | grn => exact gen (by simp) hr
   | spn => exact gen (by simp) hr
   | chg =>
    simp only [Cell.er, Option.some.injEq] at hr
    subst hr
    exact ⟨⟨v, .no⟩, rfl, rfl, hno⟩
theorem resCells_lift (h : Inv E S [] C a w) {s : Nat} : ∀ (cs : List (Cell Tg)) (c : Nat) {ys : List (Cell Unit × List (Nat × Nat) × Bool)}, (∀ j x, cs[j]? = some x → cellAt S s (c + j) = some x) → resCells (erS S) s c (cs.map Cell.er) = some ys →
  ∃ zs : List (Cell Tg × List (Nat × Nat) × Bool), zs.map (fun z => (z.1.er, z.2)) = ys ∧ zs.map (·.1.v) = cs.map (·.v) ∧ ∀ z ∈ zs, ResC E S C w z.1 z.2.1 z.2.2
 | [], c, ys, _, hr => by
  simp only [List.map_nil, resCells, Option.some.injEq] at hr
  subst hr
  exact ⟨[], rfl, rfl, by simp⟩
 | x :: cs, c, ys, hcs, hr => by
  simp only [List.map_cons, resCells] at hr
  split at hr
  ·rename_i y ys' h1 h2
   simp only [Option.some.injEq] at hr
   subst hr
   obtain ⟨z, e1, e2, e3⟩ := resCell_lift h (hcs 0 x rfl) h1
   obtain ⟨zs, k1, k2, k3⟩ := resCells_lift h cs (c + 1) (fun j x' hx' => by
    have := hcs (j + 1) x' (by simpa using hx')
    rwa [show c + 1 + j = c + (j + 1) by omega]) h2
   refine ⟨(z, y.2) :: zs, ?_, by simp [e2, k2], fun z' hz' => ?_⟩
   ·simp only [List.map_cons, k1, e1]
   ·rcases List.mem_cons.1 hz' with rfl | hz'
    ·exact e3
    ·exact k3 z' hz'
  ·cases hr
theorem finSl_lift (h : Inv E S [] C a w) {s : Nat} {sl : SA} (hs : S[s]? = some sl) {k : Kd Unit} {r : SU × List (Nat × Nat) × Nat} (hr : finSl (erS S) k s sl.er.cs = some r) :
  ∃ zs : List (Cell Tg), r.1 = ⟨k, zs.map Cell.er⟩ ∧ zs.map (·.v) = sl.cs.map (·.v) ∧ ResL E S C w zs r.2.1 r.2.2 := by
 unfold finSl at hr
 split at hr
 ·rename_i ys hys
  simp only [Option.some.injEq] at hr
  subst hr
  rw [er_cells] at hys
  obtain ⟨zs, k1, k2, k3⟩ := resCells_lift h sl.cs 0 (fun j x hx => by rw [Nat.zero_add]; exact cellAt_of hs hx) hys
  subst k1
  refine ⟨zs.map (·.1), ?_, by rw [List.map_map]; exact k2, zs, rfl, ?_, ?_, k3⟩
  ·simp only [List.map_map]; rfl
  ·simp only [List.flatMap_map]
  ·rw [List.filter_map, List.length_map]; rfl
 ·cases hr
def readVar (tmps : Array Value) : ResultVar → Sem Value
 | .tmp t => pure (tmps.getD t undef)
 | .cell a t => do loadVar t (← asAddr (tmps.getD a undef))
theorem results_run {P : Program} {fn : Func} {tmps : Array Value} {vs : List Value} (h : ∀ (i : Nat) (r : ResultVar), fn.results[i]? = some r → ∃ v, vs[i]? = some v ∧ (readVar tmps r).run P w = .ok v w) (hl : vs.length = fn.results.size) :
  (results fn tmps).run P w = .ok (packVal vs) w := by
 have key : ∀ (rs : List ResultVar) (vs : List Value), vs.length = rs.length → (∀ (i : Nat) (r : ResultVar), rs[i]? = some r → ∃ v, vs[i]? = some v ∧ (readVar tmps r).run P w = .ok v w) → (rs.mapM (readVar tmps)).run P w = .ok vs w := by
  intro rs
  induction rs with
  | nil =>
   intro vs hl _
   have : vs = [] := List.eq_nil_of_length_eq_zero hl
   subst this
   rfl
  | cons r rs ih =>
   intro vs hl hh
   cases vs with
   | nil => simp at hl
   | cons v vs =>
    obtain ⟨v', hv', hr⟩ := hh 0 r rfl
    simp only [List.getElem?_cons_zero, Option.some.injEq] at hv'
    subst hv'
    have := ih vs (by simpa using hl) (fun i r' hr' => by
     obtain ⟨u, hu, hru⟩ := hh (i + 1) r' (by simpa using hr')
     exact ⟨u, by simpa using hu, hru⟩)
    rw [List.mapM_cons]
    simp [Sem.run_bind, hr, this]
 have hm := key fn.results.toList vs (by simpa using hl) (fun i r hr => h i r (by rw [← Array.getElem?_toList]; exact hr))
 have heq : results fn tmps = (do let vs ← fn.results.mapM (readVar tmps); pure (if h : vs.size = 1 then vs[0] else .tuple vs)) := rfl
 rw [heq, Array.mapM_eq_mapM_toList]
 simp only [Sem.run_bind, Sem.run_map, hm, Result.andThen_ok]
 match vs with
 | [] => simp [packVal]
 | [v] => simp [packVal]
 | v :: v' :: vs => simp [packVal]
structure ResOk (E : Env) (S : StA) (C : Nat → Nat → Prop) (w : World) (s : SA) (pl : List (Nat × Nat)) (n : Nat) : Prop where
 cells : (((s.k = .val ∧ ∃ c, s.cs = [c]) ∨ s.k = .agg) ∧ ResL E S C w s.cs pl n) ∨
  ∃ t b, s.k = .box t ∧ pl = [] ∧ n = 0 ∧ ∃ (r : Nat) (sl : SA), S[r]? = some sl ∧ sl.k = .box t ∧ t.a = some ⟨b, 0, none⟩ ∧ sl.cs.map (·.v) = s.cs.map (·.v) ∧
   ∀ x ∈ s.cs, ResC E S C w x [] false ∧ ∀ g, x.f ≠ .ow g
theorem resVar_lift {P : Program} (h : Inv E S [] C a w) {rv : ResultVar} {r : Nat × Option (Bool × Nat)} (hrv : r = match rv with | .tmp t => (t, none) | .cell p t => (p, some ((aggOf P t).getD (false, 0)))) {y : SU × List (Nat × Nat) × Nat} (hr : resVar (erS S) r = some y) :
  ∃ s : SA, s.er = y.1 ∧ (readVar a.tmps rv).run P w = .ok (slVal E.sid s) w ∧ ResOk E S C w s y.2.1 y.2.2 := by
 unfold resVar at hr
 split at hr
 ·cases hr
 ·rename_i slU hsl
  obtain ⟨sl, hs, rfl⟩ := erS_some hsl
  have hlow : (sl.k = .val ∨ sl.k = .agg ∨ ∃ b o, sl.k = .ptr b o) → r.1 < E.nt := by
   intro hk
   rcases Nat.lt_or_ge r.1 E.nt with hlt | hge
   ·exact hlt
   ·exfalso
    rcases h.high r.1 sl hge hs with h1 | h1 | ⟨t, h1, _⟩ <;> rw [h1] at hk <;> simp at hk
  split at hr
  ·rename_i hr2 hk
   have hkv : sl.k = .val := by
    rw [er_kind] at hk
    cases hk' : sl.k <;> rw [hk'] at hk <;> simp [Kd.er] at hk ⊢
   have hv := h.slv r.1 sl (hlow (.inl hkv)) hs
   unfold SlV at hv; rw [hkv] at hv
   obtain ⟨c, hc, hv⟩ := hv
   obtain ⟨zs, e1, e2, e3⟩ := finSl_lift h hs hr
   obtain ⟨z, hz, hzv⟩ := map_single e2 hc
   refine ⟨⟨.val, zs⟩, by rw [e1]; rfl, ?_, ⟨.inl ⟨.inl ⟨rfl, z, hz⟩, e3⟩⟩⟩
   cases rv with
   | tmp t =>
    subst hrv
    simp only [readVar, slVal, hz, hzv]
    rw [← hv]; rfl
   | cell p t => subst hrv; simp at hr2
  ·rename_i hr2 hk
   have hkv : sl.k = .agg := by
    rw [er_kind] at hk
    cases hk' : sl.k <;> rw [hk'] at hk <;> simp [Kd.er] at hk ⊢
   have hv := h.slv r.1 sl (hlow (.inr (.inl hkv))) hs
   unfold SlV at hv; rw [hkv] at hv
   obtain ⟨zs, e1, e2, e3⟩ := finSl_lift h hs hr
   refine ⟨⟨.agg, zs⟩, by rw [e1]; rfl, ?_, ⟨.inl ⟨.inr rfl, e3⟩⟩⟩
   cases rv with
   | tmp t =>
    subst hrv
    simp only [readVar, slVal]
    rw [map_val e2, ← hv]; rfl
   | cell p t => subst hrv; simp at hr2
  ·rename_i b hr2 hk
   have hkv : sl.k = .ptr b 0 := by
    rw [er_kind] at hk
    cases hk' : sl.k <;> rw [hk'] at hk <;> simp [Kd.er] at hk ⊢
    exact hk
   have hv := h.slv r.1 sl (hlow (.inr (.inr ⟨b, 0, hkv⟩))) hs
   unfold SlV at hv; rw [hkv] at hv
   obtain ⟨b0, hba, hv⟩ := hv
   split at hr
   ·rename_i bxU hbx
    obtain ⟨bx, hbxA, rfl⟩ := erS_some hbx
    split at hr
    ·rename_i u hkb
     have hkb' : ∃ t, bx.k = .box t := by
      rw [er_kind] at hkb
      cases hk' : bx.k <;> rw [hk'] at hkb <;> simp [Kd.er] at hkb ⊢
     obtain ⟨t, hkb'⟩ := hkb'
     have hta : t.a = some ⟨b0, 0, none⟩ := by
      unfold boxAddr at hba
      rw [hbxA] at hba
      obtain ⟨k, cs⟩ := bx
      simp only at hkb'; subst hkb'
      exact hba
     split at hr
     ·rename_i hpl
      simp only [Bool.and_eq_true] at hpl
      simp only [Option.some.injEq] at hr
      subst hr
      refine ⟨⟨.box t, bx.cs.map fun c => ⟨c.v, if isRow c.v then (if c.f = .nl then .nl else .no) else .sc⟩⟩, ?_, ?_, ⟨.inr ⟨t, b0, rfl, rfl, rfl, b, bx, hbxA, hkb', hta, by simp, fun x hx => ?_⟩⟩⟩
      ·simp only [Sl.er, Kd.er, List.map_map]
       congr 1
       refine List.map_congr_left fun c _ => ?_
       by_cases h1 : isRow c.v = true <;> by_cases h2 : c.f = .nl <;> simp [Cell.er, isRow_er, h1, h2]
      ·cases rv with
       | tmp t' =>
        subst hrv
        simp only [readVar, slVal, hta]
        rw [← hv]; rfl
       | cell p t' => subst hrv; simp at hr2
      ·obtain ⟨c, hc, rfl⟩ := List.mem_map.1 hx
       have h1 := List.all_eq_true.1 hpl.1 c.er (by rw [er_cells]; exact List.mem_map_of_mem hc)
       have h2 := List.all_eq_true.1 hpl.2 c.er (by rw [er_cells]; exact List.mem_map_of_mem hc)
       have hk := h.cells b bx hbxA c hc
       simp only [Cell.er, isRow_er, scal_er, Bool.or_eq_true] at h2
       cases hrow : isRow c.v with
       | false =>
        rw [hrow] at h2
        simp only [Bool.false_eq_true, false_or] at h2
        exact ⟨by simpa using ResC.sc (E := E) (S := S) (C := C) (w := w) c.v h2, by simp⟩
       | true =>
        simp only [if_true]
        obtain ⟨v, f⟩ := c
        simp only at hrow
        cases f with
        | nl =>
         obtain ⟨k, hv⟩ := hk
         have hv : v = .row ⟨none, 0, k⟩ [] := hv
         subst hv
         exact ⟨.nl k, by simp⟩
        | sc =>
         have hk : scal v = true := hk
         cases v <;> simp_all [scal, isRow]
        | sp p q => exact ⟨.no v hrow (hk.2.1.mono h.olt (fun _ _ _ => rfl)), by simp⟩
        | sh => exact ⟨.no v hrow (Rd.mono hk h.olt (fun _ _ _ => rfl)), by simp⟩
        | fr => exact ⟨.no v hrow hk.2.1, by simp⟩
        | no => exact ⟨.no v hrow hk.2, by simp⟩
        | _ => simp [plainCell, Cell.er] at h1
     ·cases hr
    ·cases hr
   ·cases hr
  ·rename_i agg n b hr2 hk
   have hkv : sl.k = .ptr b 0 := by
    rw [er_kind] at hk
    cases hk' : sl.k <;> rw [hk'] at hk <;> simp [Kd.er] at hk ⊢
    exact hk
   have hv := h.slv r.1 sl (hlow (.inr (.inr ⟨b, 0, hkv⟩))) hs
   unfold SlV at hv; rw [hkv] at hv
   obtain ⟨b0, hba, hv⟩ := hv
   split at hr
   ·rename_i bxU hbx
    obtain ⟨bx, hbxA, rfl⟩ := erS_some hbx
    split at hr
    ·rename_i u hkb
     have hkb' : ∃ t, bx.k = .box t := by
      rw [er_kind] at hkb
      cases hk' : bx.k <;> rw [hk'] at hkb <;> simp [Kd.er] at hkb ⊢
     obtain ⟨t, hkb'⟩ := hkb'
     have hta : t.a = some ⟨b0, 0, none⟩ := by
      unfold boxAddr at hba
      rw [hbxA] at hba
      obtain ⟨k, cs⟩ := bx
      simp only at hkb'; subst hkb'
      exact hba
     split at hr
     ·rename_i hn
      obtain ⟨hn, hn0⟩ := hn
      rw [er_cells, List.length_map] at hn
      obtain ⟨zs, e1, e2, e3⟩ := finSl_lift h hbxA hr
      obtain ⟨b1, T, q1, q2, _⟩ := h.box b bx t hbxA hkb'
      rw [hta] at q1
      simp only [Option.some.injEq, Addr.mk.injEq, and_true] at q1
      subst q1
      cases rv with
      | tmp t' => subst hrv; simp at hr2
      | cell p t' =>
       subst hrv
       simp only [Option.some.injEq] at hr2
       cases hag : aggOf P t' with
       | none =>
        rw [hag] at hr2
        simp only [Option.getD_none, Prod.mk.injEq] at hr2
        exact absurd hr2.2.symm hn0
       | some gn =>
        rw [hag] at hr2
        simp only [Option.getD_some] at hr2
        subst hr2
        have hzl : zs.length = n := by
         have := congrArg List.length e2
         simp at this; omega
        have hload := run_loadAt (w := w) hag b0 0 (zs.map (·.v.val E.sid)) (by simpa using hzl) (fun j v hj => by
         rw [cell_of_heap q2, Nat.zero_add]
         rw [map_val e2] at hj
         simp only [List.getElem?_toArray]
         exact hj)
        have hread : (readVar a.tmps (.cell p t')).run P w = .ok (if agg then .agg (zs.map (·.v.val E.sid)).toArray else (zs.map (·.v.val E.sid)).headD undef) w := by
         have hv' : a.tmps.getD p undef = .pointer (some ⟨b0, 0, none⟩) := hv
         simp only [readVar, hv', asAddr]
         simpa [Instr.loadAt, Instr.sureAddr] using hload
        cases agg with
        | true => exact ⟨⟨.agg, zs⟩, by rw [e1]; rfl, hread, ⟨.inl ⟨.inr rfl, e3⟩⟩⟩
        | false =>
         have hn1 : n = 1 := (aggOf_val (w := w) hag).2
         subst hn1
         obtain ⟨z, hz⟩ : ∃ z, zs = [z] := by
          cases zs with
          | nil => simp at hzl
          | cons z r => cases r with
           | nil => exact ⟨z, rfl⟩
           | cons z' r => simp at hzl
         refine ⟨⟨.val, zs⟩, by rw [e1]; rfl, ?_, ⟨.inl ⟨.inl ⟨rfl, z, hz⟩, e3⟩⟩⟩
         rw [hread, hz]; rfl
     ·cases hr
    ·cases hr
   ·cases hr
  ·cases hr
end
end Go.Vm
end
section
namespace Go.Vm
theorem nodup_spec : ∀ {l : List (Nat × Nat)}, nodup l = true → l.Nodup
 | [], _ => List.nodup_nil
 | x :: xs, h => by
  simp only [nodup, Bool.and_eq_true, Bool.not_eq_true'] at h
  exact List.nodup_cons.2 ⟨by simpa using h.1, nodup_spec h.2⟩
section
variable {E : Env} {cx : Cx} {S : StA} {X : List (Cell Tg)} {C : Nat → Nat → Prop} {a : Act} {w w' : World}
theorem places_count : ∀ (L : List ((Nat × Nat) × List Nat)) {S : StA}, (L.map (·.1)).Nodup → (∀ e ∈ L, ∃ y, cellAt S e.1.1 e.1.2 = some y ∧ y.own = e.2) → ∀ b, (L.flatMap fun e => e.2).count b ≤ (ownAll S []).count b
 | [], S, _, _, b => by simp
 | ((p, q), v) :: L, S, hn, hL, b => by
  simp only [List.map_cons, List.nodup_cons] at hn
  obtain ⟨y, hy, hyv⟩ := hL ((p, q), v) (List.mem_cons_self ..)
  simp only at hy hyv
  have h1 := own_setFlA (X := []) (f := .dd) hy b
  have h2 : (Cell.own ⟨y.v, .dd⟩).count b = 0 := by simp [Cell.own, Go.Vm.hold, isOs, owns]
  have ih := places_count L (S := setFlA S p q .dd) hn.2 (fun e he => by
   obtain ⟨z, hz, hzv⟩ := hL e (List.mem_cons_of_mem _ he)
   refine ⟨z, ?_, hzv⟩
   rw [cellAt_setFlA hy]
   rw [if_neg]
   ·exact hz
   ·rintro ⟨e1, e2⟩
    refine hn.1 (List.mem_map.2 ⟨e, he, ?_⟩)
    rw [← e1, ← e2]) b
  rw [hyv] at h1
  simp only [List.flatMap_cons, List.count_append]
  omega
theorem resC_places : ∀ {ys : List (Cell Tg × List (Nat × Nat) × Bool)}, (∀ y ∈ ys, ResC E S C w y.1 y.2.1 y.2.2) → (∀ y ∈ ys, y.2.2 = false) →
  ∃ L : List ((Nat × Nat) × List Nat), L.map (·.1) = ys.flatMap (·.2.1) ∧ (∀ e ∈ L, ∃ y, cellAt S e.1.1 e.1.2 = some y ∧ ((∃ g, y.f = .ow g ∨ y.f = .nw g) ∨ isOs y.f = true) ∧ y.own = e.2) ∧ ∀ b, ((ys.map (·.1)).flatMap Cell.own).count b = (L.flatMap fun e => e.2).count b
 | [], _, _ => ⟨[], rfl, by simp, fun _ => rfl⟩
 | (z, pl, lo) :: ys, h, hf => by
  obtain ⟨L, k1, k2, k3⟩ := resC_places (ys := ys) (fun y hy => h y (List.mem_cons_of_mem _ hy)) (fun y hy => hf y (List.mem_cons_of_mem _ hy))
  have hz := h (z, pl, lo) (List.mem_cons_self ..)
  have hlo : lo = false := hf (z, pl, lo) (List.mem_cons_self ..)
  simp only at hz
  cases hz with
  | sc v hs => exact ⟨L, by simp [k1], k2, fun b => by simp [k3 b, Cell.own, Go.Vm.hold, isOs, owns]⟩
  | nl k => exact ⟨L, by simp [k1], k2, fun b => by simp [k3 b, Cell.own, Go.Vm.hold, isOs, owns]⟩
  | no v hr hrd => exact ⟨L, by simp [k1], k2, fun b => by simp [k3 b, Cell.own, Go.Vm.hold, isOs, owns]⟩
  | loose v hr hfs => cases hlo
  | own v g p q y hy hyf hyv =>
   have ho : owns y.f = true := by rcases hyf with e | e <;> rw [e] <;> rfl
   refine ⟨((p, q), v.blks) :: L, by simp [k1], fun e he => ?_, fun b => ?_⟩
   ·rcases List.mem_cons.1 he with rfl | he
    ·exact ⟨y, hy, .inl ⟨g, hyf⟩, by rw [own_blks ho, hyv]⟩
    ·exact k2 e he
   ·simp only [List.map_cons, List.flatMap_cons, List.count_append, k3 b, Cell.own, Go.Vm.hold, isOs, owns, Bool.or_false, Bool.true_or, Bool.false_eq_true, if_false, if_true]
  | os v p q y hy hyf hyv =>
   refine ⟨((p, q), v.top) :: L, by simp [k1], fun e he => ?_, fun b => ?_⟩
   ·rcases List.mem_cons.1 he with rfl | he
    ·refine ⟨y, hy, .inr hyf, ?_⟩
     obtain ⟨v', f'⟩ := y
     cases f' <;> simp [isOs] at hyf
     simp only at hyv
     simp [Cell.own, Go.Vm.hold, isOs, owns, hyv]
    ·exact k2 e he
   ·simp only [List.map_cons, List.flatMap_cons, List.count_append, k3 b, Cell.own, Go.Vm.hold, isOs, owns, Bool.false_or, if_true]
theorem outsOf_lift : ∀ (is : List Nat) {outs : List V}, mapO (findMp (erS S)) is = some outs →
  ∃ L : List (Nat × (Nat × Nat) × A), L.map (·.1) = is ∧ L.map (fun e => e.2.2.er) = outs ∧ ∀ e ∈ L, ∃ y, cellAt S e.2.1.1 e.2.1.2 = some y ∧ y.f = .mp e.1 ∧ y.v = e.2.2
 | [], outs, h => by
  simp only [mapO, Option.some.injEq] at h; subst h
  exact ⟨[], rfl, rfl, by simp⟩
 | i :: is, outs, h => by
  unfold mapO at h
  cases h1 : findMp (erS S) i with
  | none => simp [h1] at h
  | some v => cases h2 : mapO (findMp (erS S)) is with
   | none => simp [h1, h2] at h
   | some vs =>
    simp [h1, h2] at h; subst h
    obtain ⟨L, k1, k2, k3⟩ := outsOf_lift is h2
    unfold findMp at h1
    obtain ⟨c, hc, hcv⟩ := List.exists_of_findSome?_eq_some h1
    split at hcv
    ·rename_i hcf
     simp only [Option.some.injEq] at hcv
     obtain ⟨s, hs, hcs⟩ := List.mem_flatMap.1 hc
     obtain ⟨p, hp⟩ := List.mem_iff_getElem?.1 hs
     obtain ⟨sA, hsA, rfl⟩ := erS_some hp
     rw [er_cells] at hcs
     obtain ⟨x, hx, rfl⟩ := List.mem_map.1 hcs
     obtain ⟨q, hq⟩ := List.mem_iff_getElem?.1 hx
     refine ⟨(i, (p, q), x.v) :: L, by simp [k1], by simp [k2]; exact hcv, fun e he => ?_⟩
     rcases List.mem_cons.1 he with rfl | he
     ·exact ⟨x, cellAt_of hsA hq, hcf, rfl⟩
     ·exact k3 e he
    ·cases hcv
def resIr (P : Program) : ResultVar → Nat × Option (Bool × Nat)
 | .tmp t => (t, none)
 | .cell p t => (p, some ((aggOf P t).getD (false, 0)))
theorem cRes_cons (P : Program) (rv : ResultVar) (rvs : List ResultVar) : cRes P (rv :: rvs) = resIr P rv :: cRes P rvs := by
 cases rv <;> rfl
theorem resIr_eq (P : Program) (rv : ResultVar) : resIr P rv = match rv with | .tmp t => (t, none) | .cell p t => (p, some ((aggOf P t).getD (false, 0))) := by
 cases rv <;> rfl
theorem resVars_lift {P : Program} (h : Inv E S [] C a w) : ∀ (rvs : List ResultVar) {ys : List (SU × List (Nat × Nat) × Nat)}, mapO (resVar (erS S)) (cRes P rvs) = some ys →
  ∃ ss : List (SA × List (Nat × Nat) × Nat), ss.map (fun s => (s.1.er, s.2)) = ys ∧ ss.length = rvs.length ∧ (∀ (i : Nat) (r : ResultVar), rvs[i]? = some r → ∃ s, ss[i]? = some s ∧ (readVar a.tmps r).run P w = .ok (slVal E.sid s.1) w) ∧ ∀ s ∈ ss, ResOk E S C w s.1 s.2.1 s.2.2
 | [], ys, hr => by
  simp only [cRes, mapO, Option.some.injEq] at hr; subst hr
  exact ⟨[], rfl, rfl, by simp, by simp⟩
 | rv :: rvs, ys, hr => by
  rw [cRes_cons] at hr
  unfold mapO at hr
  cases h1 : resVar (erS S) (resIr P rv) with
  | none => simp [h1] at hr
  | some y => cases h2 : mapO (resVar (erS S)) (cRes P rvs) with
   | none => simp [h1, h2] at hr
   | some ys' =>
    simp [h1, h2] at hr; subst hr
    obtain ⟨s, e1, e2, e3⟩ := resVar_lift (P := P) h (resIr_eq P rv) h1
    obtain ⟨ss, k1, k2, k3, k4⟩ := resVars_lift h rvs h2
    refine ⟨(s, y.2) :: ss, by simp [k1, e1], by simp [k2], fun i r hr => ?_, fun s' hs' => ?_⟩
    ·cases i with
     | zero =>
      simp only [List.getElem?_cons_zero, Option.some.injEq] at hr
      subst hr
      exact ⟨_, rfl, e2⟩
     | succ i => simpa using k3 i r (by simpa using hr)
    ·rcases List.mem_cons.1 hs' with rfl | hs'
     ·exact e3
     ·exact k4 s' hs'
theorem packVal_ret (sid : Nat → Nat) (ss : List SA) : packVal (ss.map (slVal sid)) = retVal sid ss := by
 match ss with
 | [] => rfl
 | [s] => rfl
 | s :: s' :: ss => rfl
theorem leftBox_lift : ∀ {xs ys : List (Cell Tg)} {c : Nat} {r : List V}, leftBox (xs.map Cell.er) (ys.map Cell.er) c = some r →
  xs.length = ys.length ∧ (xs.map (·.v)).map VA.er = r ∧ ∀ (k : Nat) (x y : Cell Tg), xs[k]? = some x → ys[k]? = some y → (x.f = .sc ∧ y.f = .sc) ∨ (x.f = .sp 0 (c + k) ∧ y.f = .sp 0 (c + k)) ∨ (x.f = .nl ∧ y.f = .nl)
 | [], [], c, r, h => by
  simp only [List.map_nil, leftBox, Option.some.injEq] at h; subst h
  exact ⟨rfl, rfl, by simp⟩
 | [], y :: ys, c, r, h => by simp [leftBox] at h
 | x :: xs, [], c, r, h => by simp [leftBox] at h
 | x :: xs, y :: ys, c, r, h => by
  simp only [List.map_cons, leftBox] at h
  split at h
  ·cases h
  ·rename_i r' hr'
   obtain ⟨k1, k2, k3⟩ := leftBox_lift hr'
   have fin : ∀ {r : List V}, x.er.v :: r' = r → ((x.f = .sc ∧ y.f = .sc) ∨ (x.f = .sp 0 c ∧ y.f = .sp 0 c) ∨ (x.f = .nl ∧ y.f = .nl)) → (x :: xs).length = (y :: ys).length ∧ ((x :: xs).map (·.v)).map VA.er = r ∧
     ∀ (k : Nat) (x' y' : Cell Tg), (x :: xs)[k]? = some x' → (y :: ys)[k]? = some y' → (x'.f = .sc ∧ y'.f = .sc) ∨ (x'.f = .sp 0 (c + k) ∧ y'.f = .sp 0 (c + k)) ∨ (x'.f = .nl ∧ y'.f = .nl) := by
    intro r hr hfl
    refine ⟨by simp [k1], by rw [← hr, ← k2]; rfl, fun k x' y' hx hy => ?_⟩
    cases k with
    | zero =>
     simp only [List.getElem?_cons_zero, Option.some.injEq] at hx hy
     subst hx; subst hy
     exact hfl
    | succ k =>
     have := k3 k x' y' (by simpa using hx) (by simpa using hy)
     rwa [show c + 1 + k = c + (k + 1) by omega] at this
   split at h
   ·rename_i h1 h2
    simp only [Option.some.injEq] at h
    exact fin h (.inl ⟨h1, h2⟩)
   ·rename_i c' d h1 h2
    split at h
    ·rename_i hcd
     obtain ⟨rfl, rfl⟩ := hcd
     simp only [Option.some.injEq] at h
     exact fin h (.inr (.inl ⟨h1, h2⟩))
    ·cases h
   ·rename_i h1 h2
    simp only [Option.some.injEq] at h
    exact fin h (.inr (.inr ⟨h1, h2⟩))
   ·cases h
theorem end_cells {E0 : Env} {args : List SA} {nt : Nat} {ss : List (SA × List (Nat × Nat) × Nat)} (hok : ∀ s ∈ ss, ResOk (startEnv E0 nt args) S C w s.1 s.2.1 s.2.2) : ∃ yss : List (List (Cell Tg × List (Nat × Nat) × Bool)), yss.length = ss.length ∧ ∀ (i : Nat) (s : SA × List (Nat × Nat) × Nat), ss[i]? = some s → ∃ ys, yss[i]? = some ys ∧ s.1.cs = ys.map (·.1) ∧ s.2.1 = ys.flatMap (·.2.1) ∧ s.2.2 = (ys.filter (·.2.2)).length ∧ ∀ y ∈ ys, ResC (startEnv E0 nt args) S C w y.1 y.2.1 y.2.2 := by
 induction ss with
 | nil => exact ⟨[], rfl, by simp⟩
 | cons s ss ih =>
  obtain ⟨yss, k1, k2⟩ := ih (fun s' hs' => hok s' (List.mem_cons_of_mem _ hs'))
  obtain ⟨ys, m1, m2, m3, m4⟩ : ∃ ys : List (Cell Tg × List (Nat × Nat) × Bool), s.1.cs = ys.map (·.1) ∧ s.2.1 = ys.flatMap (·.2.1) ∧ s.2.2 = (ys.filter (·.2.2)).length ∧ ∀ y ∈ ys, ResC (startEnv E0 nt args) S C w y.1 y.2.1 y.2.2 := by
   rcases (hok s (List.mem_cons_self ..)).cells with ⟨_, ys, q1, q2, q3, q4⟩ | ⟨t, b, _, q1, q2, r, sl, _, _, _, _, q3⟩
   ·exact ⟨ys, q1, q2, q3, q4⟩
   ·refine ⟨s.1.cs.map fun x => (x, [], false), by simp [List.map_map, Function.comp_def], ?_, ?_, fun y hy => ?_⟩
    ·rw [q1]; simp
    ·have hnil : (s.1.cs.map fun x => ((x, [], false) : Cell Tg × List (Nat × Nat) × Bool)).filter (·.2.2) = [] := by
      rw [List.filter_eq_nil_iff]
      intro y hy
      obtain ⟨x, _, rfl⟩ := List.mem_map.1 hy
      simp
     rw [q2, hnil]; rfl
    ·obtain ⟨x, hx, rfl⟩ := List.mem_map.1 hy
     exact (q3 x hx).1
  refine ⟨ys :: yss, by simp [k1], fun i s' hs' => ?_⟩
  cases i with
  | zero =>
   simp only [List.getElem?_cons_zero, Option.some.injEq] at hs'
   subst hs'
   exact ⟨ys, rfl, m1, m2, m3, m4⟩
  | succ i => simpa using k2 i s' (by simpa using hs')
structure Ends (E0 : Env) (w0 : World) (args : List SA) (nt : Nat) (S : StA) (C : Nat → Nat → Prop) (a : Act) (w : World) (ss : List (SA × List (Nat × Nat) × Nat)) (yss : List (List (Cell Tg × List (Nat × Nat) × Bool))) (Lo : List (Nat × (Nat × Nat) × A)) (outs : List V) (n : Nat) : Prop where
 he : Entry E0 w0 args
 h : Inv (startEnv E0 nt args) S [] C a w
 hfr : Frame (startEnv E0 nt args) w0 w
 hok : ∀ s ∈ ss, ResOk (startEnv E0 nt args) S C w s.1 s.2.1 s.2.2
 yl : yss.length = ss.length
 ysp : ∀ (i : Nat) (s : SA × List (Nat × Nat) × Nat), ss[i]? = some s → ∃ ys, yss[i]? = some ys ∧ s.1.cs = ys.map (·.1) ∧ s.2.1 = ys.flatMap (·.2.1) ∧ s.2.2 = (ys.filter (·.2.2)).length ∧ ∀ y ∈ ys, ResC (startEnv E0 nt args) S C w y.1 y.2.1 y.2.2
 o1 : Lo.map (·.1) = List.range n
 o2 : Lo.map (fun e => e.2.2.er) = outs
 o3 : ∀ e ∈ Lo, ∃ y, cellAt S e.2.1.1 e.2.1.2 = some y ∧ y.f = .mp e.1 ∧ y.v = e.2.2
theorem end_cs {E0 : Env} {w0 : World} {args : List SA} {nt : Nat} {ss : List (SA × List (Nat × Nat) × Nat)} {yss : List (List (Cell Tg × List (Nat × Nat) × Bool))} {Lo : List (Nat × (Nat × Nat) × A)} {outs : List V} {n : Nat} (D : Ends E0 w0 args nt S C a w ss yss Lo outs n) : ∀ s ∈ ss, ∃ ys ∈ yss, s.1.cs = ys.map (·.1) := by
 obtain ⟨he, h, hfr, hok, yl, ysp, o1, o2, o3⟩ := D
 intro s hs
 obtain ⟨i, hi⟩ := List.mem_iff_getElem?.1 hs
 obtain ⟨ys, q1, q2, _⟩ := ysp i s hi
 exact ⟨ys, List.mem_of_getElem? q1, q2⟩
theorem end_yR {E0 : Env} {w0 : World} {args : List SA} {nt : Nat} {ss : List (SA × List (Nat × Nat) × Nat)} {yss : List (List (Cell Tg × List (Nat × Nat) × Bool))} {Lo : List (Nat × (Nat × Nat) × A)} {outs : List V} {n : Nat} (D : Ends E0 w0 args nt S C a w ss yss Lo outs n) : ∀ ys ∈ yss, ∀ y ∈ ys, ResC (startEnv E0 nt args) S C w y.1 y.2.1 y.2.2 := by
 obtain ⟨he, h, hfr, hok, yl, ysp, o1, o2, o3⟩ := D
 intro ys hys
 obtain ⟨i, hi⟩ := List.mem_iff_getElem?.1 hys
 have hil : i < ss.length := by rw [← yl]; exact (List.getElem?_eq_some_iff.1 hi).1
 obtain ⟨ys', q1, _, _, _, q2⟩ := ysp i _ (List.getElem?_eq_getElem hil)
 rw [hi] at q1
 obtain rfl := Option.some.inj q1
 exact q2
theorem end_flat {E0 : Env} {w0 : World} {args : List SA} {nt : Nat} {ss : List (SA × List (Nat × Nat) × Nat)} {yss : List (List (Cell Tg × List (Nat × Nat) × Bool))} {Lo : List (Nat × (Nat × Nat) × A)} {outs : List V} {n : Nat} (D : Ends E0 w0 args nt S C a w ss yss Lo outs n) : (ss.map fun s => (s.1.er, s.2)).flatMap (·.2.1) = yss.flatten.flatMap (·.2.1) ∧ ((ss.map fun s => (s.1.er, s.2)).map (·.2.2)).sum = (yss.flatten.filter (·.2.2)).length ∧ (ss.flatMap fun s => s.1.cs) = yss.flatten.map (·.1) := by
 obtain ⟨he, h, hfr, hok, yl, ysp, o1, o2, o3⟩ := D
 clear he hfr o1 o2 o3 hok
 induction ss generalizing yss with
 | nil =>
  have : yss = [] := List.eq_nil_of_length_eq_zero yl
  subst this
  simp
 | cons s ss ih =>
  cases yss with
  | nil => simp at yl
  | cons ys yss =>
   obtain ⟨ys', q1, q2, q3, q4, _⟩ := ysp 0 s rfl
   simp only [List.getElem?_cons_zero, Option.some.injEq] at q1
   subst q1
   obtain ⟨i1, i2, i3⟩ := ih (yss := yss) (by simpa using yl) (fun i s' hs' => by simpa using ysp (i + 1) s' (by simpa using hs'))
   refine ⟨?_, ?_, ?_⟩
   ·simp only [List.map_cons, List.flatMap_cons, List.flatten_cons, List.flatMap_append, i1, q3]
   ·simp only [List.map_cons, List.sum_cons, List.flatten_cons, List.filter_append, List.length_append, i2, q4]
   ·simp only [List.flatMap_cons, List.flatten_cons, List.map_append, i3, q2]
theorem end_kinds {E0 : Env} {w0 : World} {args : List SA} {nt : Nat} {ss : List (SA × List (Nat × Nat) × Nat)} {yss : List (List (Cell Tg × List (Nat × Nat) × Bool))} {Lo : List (Nat × (Nat × Nat) × A)} {outs : List V} {n : Nat} (D : Ends E0 w0 args nt S C a w ss yss Lo outs n) : ∀ s ∈ ss, (s.1.k = .val ∧ ∃ c, s.1.cs = [c]) ∨ s.1.k = .agg ∨ ∃ t, s.1.k = .box t := by
 obtain ⟨he, h, hfr, hok, yl, ysp, o1, o2, o3⟩ := D
 intro s hs
 rcases (hok s hs).cells with ⟨h1 | h1, _⟩ | ⟨t, _, h1, _⟩
 ·exact .inl h1
 ·exact .inr (.inl h1)
 ·exact .inr (.inr ⟨t, h1⟩)
theorem noBox_k {s : SA} (hnb : noBox s.er = true) : ∀ t, s.k ≠ .box t := by
 intro t hk
 simp only [noBox, er_kind, hk, Kd.er] at hnb
 cases hnb
theorem end_out {E0 : Env} {w0 : World} {args : List SA} {nt : Nat} {ss : List (SA × List (Nat × Nat) × Nat)} {yss : List (List (Cell Tg × List (Nat × Nat) × Bool))} {Lo : List (Nat × (Nat × Nat) × A)} {outs : List V} {n : Nat} (D : Ends E0 w0 args nt S C a w ss yss Lo outs n) : ∀ e ∈ Lo, Shp E0.sid w C e.2.2 ∧ (∃ t es, e.2.2 = .row t es ∧ E0.mt e.1 = some (t, es.length)) ∧ ∀ b ∈ e.2.2.blks, (E0.base ≤ b ∨ E0.chg b) ∧ b < w.heap.size ∧ ∀ j, ¬ E0.old b j := by
 obtain ⟨he, h, hfr, hok, yl, ysp, o1, o2, o3⟩ := D
 intro e he'
 obtain ⟨y, hy, hyf, hyv⟩ := o3 e he'
 obtain ⟨sl, hs, hc⟩ := cellAt_some hy
 have hk := h.cells _ sl hs y (List.mem_of_getElem? hc)
 obtain ⟨v, f⟩ := y
 simp only at hyf hyv; subst hyf; subst hyv
 refine ⟨hk.1, hk.2.1, fun b hb => ⟨?_, ?_⟩⟩
 ·rcases hk.2.2 b hb with h1 | h1
  ·exact .inl h1
  ·exact .inr (start_chg he h1).1
 ·have hin := own_at hy rfl hb
  exact h.ownlt b (List.count_pos_iff.1 hin)
theorem end_outL {E0 : Env} {w0 : World} {args : List SA} {nt : Nat} {ss : List (SA × List (Nat × Nat) × Nat)} {yss : List (List (Cell Tg × List (Nat × Nat) × Bool))} {Lo : List (Nat × (Nat × Nat) × A)} {outs : List V} {n : Nat} (D : Ends E0 w0 args nt S C a w ss yss Lo outs n) : ∀ (i : Nat) (v : A), (Lo.map (·.2.2))[i]? = some v → ∃ e ∈ Lo, e.1 = i ∧ e.2.2 = v := by
 obtain ⟨he, h, hfr, hok, yl, ysp, o1, o2, o3⟩ := D
 intro i v hv
 rw [List.getElem?_map, Option.map_eq_some_iff] at hv
 obtain ⟨e, he', rfl⟩ := hv
 refine ⟨e, List.mem_of_getElem? he', ?_, rfl⟩
 have h1 : (Lo.map (·.1))[i]? = some e.1 := by simp [he']
 rw [o1] at h1
 have h2 := List.getElem?_eq_some_iff.1 h1
 obtain ⟨h3, h4⟩ := h2
 rw [List.getElem_range] at h4
 exact h4.symm
theorem end_outpl {E0 : Env} {w0 : World} {args : List SA} {nt : Nat} {ss : List (SA × List (Nat × Nat) × Nat)} {yss : List (List (Cell Tg × List (Nat × Nat) × Bool))} {Lo : List (Nat × (Nat × Nat) × A)} {outs : List V} {n : Nat} (D : Ends E0 w0 args nt S C a w ss yss Lo outs n) : (Lo.map (·.2.1)).Nodup := by
 obtain ⟨he, h, hfr, hok, yl, ysp, o1, o2, o3⟩ := D
 have hnr : (Lo.map (·.1)).Nodup := by rw [o1]; exact List.nodup_range
 clear o1 o2
 induction Lo with
 | nil => simp
 | cons e L ih =>
  simp only [List.map_cons, List.nodup_cons] at hnr ⊢
  refine ⟨fun hm => ?_, ih (fun e' he' => o3 e' (List.mem_cons_of_mem _ he')) hnr.2⟩
  obtain ⟨e', he', heq⟩ := List.mem_map.1 hm
  obtain ⟨y, hy, hyf, _⟩ := o3 e (List.mem_cons_self ..)
  obtain ⟨y', hy', hyf', _⟩ := o3 e' (List.mem_cons_of_mem _ he')
  rw [heq] at hy'
  rw [hy] at hy'
  obtain rfl := Option.some.inj hy'
  rw [hyf] at hyf'
  simp only [Fl.mp.injEq] at hyf'
  exact hnr.1 (List.mem_map.2 ⟨e', he', hyf'.symm⟩)
theorem end_own {E0 : Env} {w0 : World} {args : List SA} {nt : Nat} {ss : List (SA × List (Nat × Nat) × Nat)} {yss : List (List (Cell Tg × List (Nat × Nat) × Bool))} {Lo : List (Nat × (Nat × Nat) × A)} {outs : List V} {n : Nat} (D : Ends E0 w0 args nt S C a w ss yss Lo outs n) : ∀ b, ((ss.map (·.1)).flatMap Sl.own).count b = ((ss.map (·.1)).flatMap Sl.boxOwn).count b + ((yss.flatten.map (·.1)).flatMap Cell.own).count b := by
 obtain ⟨he, h, hfr, hok, yl, ysp, o1, o2, o3⟩ := D
 have hf3 := (end_flat ⟨he, h, hfr, hok, yl, ysp, o1, o2, o3⟩).2.2
 clear he hfr o1 o2 o3
 intro b
 rw [← hf3]
 clear hf3 ysp yl hok
 induction ss with
 | nil => simp
 | cons s ss ih =>
  have h1 : s.1.own.count b = s.1.boxOwn.count b + (s.1.cs.flatMap Cell.own).count b := by unfold Sl.own; rw [List.count_append]
  simp only [List.map_cons, List.flatMap_cons, List.count_append, List.flatMap_append] at ih ⊢
  omega
theorem end_frame {E0 : Env} {w0 : World} {args : List SA} {nt : Nat} {ss : List (SA × List (Nat × Nat) × Nat)} {yss : List (List (Cell Tg × List (Nat × Nat) × Bool))} {Lo : List (Nat × (Nat × Nat) × A)} {outs : List V} {n : Nat} (D : Ends E0 w0 args nt S C a w ss yss Lo outs n) : Frame E0 w0 w := by
 obtain ⟨he, h, hfr, hok, yl, ysp, o1, o2, o3⟩ := D
 exact ⟨hfr.os, hfr.tape, hfr.output, hfr.size, fun b hb hn => hfr.block b hb (fun hc => hn (start_chg he hc).1)⟩
theorem end_fin {E0 : Env} {w0 : World} {args : List SA} {nt : Nat} {ss : List (SA × List (Nat × Nat) × Nat)} {yss : List (List (Cell Tg × List (Nat × Nat) × Bool))} {Lo : List (Nat × (Nat × Nat) × A)} {outs : List V} {n : Nat} {P : Program} {fn : Func} (D : Ends E0 w0 args nt S C a w ss yss Lo outs n) (hrun : (results fn a.tmps).run P w = .ok (retVal E0.sid (ss.map (·.1))) w) : ∀ (C' : Nat → Nat → Prop) (ob : Option (List V)), (∀ b j, C' b j → C b j) → (∀ y ∈ yss.flatten, COk E0 w C' [] [] y.1) →
       (∀ b, ((yss.flatten.map (·.1)).flatMap Cell.own).count b + ((Lo.map (·.2.2)).flatMap VA.blks).count b ≤ 1) → (∀ b ∈ (yss.flatten.map (·.1)).flatMap Cell.own, E0.base ≤ b ∧ b < w.heap.size) →
       (∀ s ∈ ss, ∀ t, s.1.k = .box t → ss.length = 1 ∧ ob = none ∧ Lo = [] ∧ (yss.flatten.map (·.1)).flatMap Cell.own = [] ∧ ∀ b, t.a = some ⟨b, 0, none⟩ → E0.base ≤ b) →
       (∀ cs', ob = some cs' → ∃ arg, args.head? = some arg ∧ LeftOk E0 w C' arg cs') →
       ∃ v rs outs' C', (results fn a.tmps).run P w = .ok v w ∧ Leave E0 w0 w args ⟨(ss.map fun s => (s.1.er, s.2)).map (·.1), outs, ob⟩ v rs outs' C' := by
 have hcs := end_cs D
 have hyR := end_yR D
 obtain ⟨hf1, hf2, hf3⟩ := end_flat D
 have hkinds := end_kinds D
 have hout := end_out D
 have houtL := end_outL D
 have houtpl := end_outpl D
 have hrsown := end_own D
 have hframe := end_frame D
 have hallR : ∀ y ∈ yss.flatten, ResC (startEnv E0 nt args) S C w y.1 y.2.1 y.2.2 := by
  intro y hy
  obtain ⟨ys, h1, h2⟩ := List.mem_flatten.1 hy
  exact hyR ys h1 y h2
 have hnoboxk : ∀ s ∈ ss, noBox s.1.er = true → ∀ t, s.1.k ≠ .box t := fun s _ h => noBox_k h
 have houtcnt : (Lo.map (·.2.2)).flatMap VA.blks = Lo.flatMap fun e => e.2.2.blks := by rw [List.flatMap_map]
 obtain ⟨he, h, hfr, hok, yl, ysp, o1, o2, o3⟩ := D
 intro C' ob hC' hcok hcnt hown hbx hleft
 refine ⟨_, ss.map (·.1), Lo.map (·.2.2), C', hrun, ?_⟩
 have hbox' : ∀ s ∈ ss.map (·.1), ∀ t, s.k = .box t → ∃ b, t.a = some ⟨b, 0, none⟩ ∧ BoxOk E0 w C' t s.cs ∧ E0.base ≤ b ∧ b < w.heap.size := by
  intro s hs t hk
  obtain ⟨s', hs', rfl⟩ := List.mem_map.1 hs
  obtain ⟨_, _, _, _, hbb⟩ := hbx s' hs' t hk
  rcases (hok s' hs').cells with ⟨⟨h1, _⟩ | h1, _⟩ | ⟨t', b, h1, _, _, r, sl, h2, h3, h4, h5, _⟩
  ·rw [hk] at h1; cases h1
  ·rw [hk] at h1; cases h1
  ·rw [hk] at h1
   simp only [Kd.box.injEq] at h1
   subst h1
   obtain ⟨b1, T, q1, q2, q3, q4⟩ := h.box r sl t h2 h3
   rw [h4] at q1
   simp only [Option.some.injEq, Addr.mk.injEq, and_true] at q1
   subst q1
   refine ⟨b, h4, ⟨b, T, h4, ?_, fun j hj => q3 j (hC' b j hj), .inl (hbb b h4)⟩, hbb b h4, (Array.getElem?_eq_some_iff.1 q2).1⟩
   have := map_val (sid := E0.sid) h5
   rw [← this]; exact q2
 refine ⟨?_, rfl, ?_, ?_, ?_, ?_, ?_, ?_, fun b j hj => h.clt b j (hC' b j hj), ?_, hframe, ?_, ?_, hleft⟩
 ·simp only [List.map_map]; rfl
 ·intro s hs
  obtain ⟨s', hs', rfl⟩ := List.mem_map.1 hs
  rcases hkinds s' hs' with h1 | h1 | ⟨t, h1⟩
  ·exact .inl h1
  ·exact .inr (.inl h1)
  ·obtain ⟨q1, q2, _⟩ := hbx s' hs' t h1
   exact .inr (.inr ⟨⟨t, h1⟩, by simpa using q1, q2⟩)
 ·intro s hs x hx
  obtain ⟨s', hs', rfl⟩ := List.mem_map.1 hs
  obtain ⟨ys, q1, q2⟩ := hcs s' hs'
  rw [q2] at hx
  obtain ⟨y, hy, rfl⟩ := List.mem_map.1 hx
  have := hyR ys q1 y hy
  obtain ⟨z, pl, lo⟩ := y
  simp only at this ⊢
  cases this with
  | sc v hs => exact .inl rfl
  | nl k => exact .inr (.inl rfl)
  | own v g p q y hy hf hv => exact .inr (.inr (.inl ⟨g, rfl⟩))
  | loose v hr hf => exact .inr (.inr (.inl ⟨false, rfl⟩))
  | no v hr hrd => exact .inr (.inr (.inr (.inl rfl)))
  | os v p q y hy hf hv => exact .inr (.inr (.inr (.inr rfl)))
 ·intro s hs x hx
  obtain ⟨s', hs', rfl⟩ := List.mem_map.1 hs
  obtain ⟨ys, q1, q2⟩ := hcs s' hs'
  rw [q2] at hx
  obtain ⟨y, hy, rfl⟩ := List.mem_map.1 hx
  exact hcok y (List.mem_flatten.2 ⟨ys, q1, hy⟩)
 ·intro s hs t hk
  obtain ⟨b, q1, q2, q3, _⟩ := hbox' s hs t hk
  refine ⟨q2, fun b' hb' => ?_⟩
  rw [q1] at hb'
  simp only [Option.some.injEq, Addr.mk.injEq, and_true] at hb'
  rw [← hb']; exact q3
 ·intro b
  rw [hrsown]
  by_cases hb : ∃ s ∈ ss, ∃ t, s.1.k = .box t
  ·obtain ⟨s, hs, t, hk⟩ := hb
   obtain ⟨q1, _, q2, q3, _⟩ := hbx s hs t hk
   rw [q3, q2]
   obtain ⟨s0, rfl⟩ : ∃ s0, ss = [s0] := by
    cases ss with
    | nil => simp at hs
    | cons s0 r => cases r with
     | nil => exact ⟨s0, rfl⟩
     | cons s1 r => simp at q1
   simp only [List.mem_singleton] at hs
   subst hs
   obtain ⟨b1, m1, _⟩ := hbox' s.1 (by simp) t hk
   simp only [List.map_cons, List.map_nil, List.flatMap_cons, List.flatMap_nil, List.append_nil, Sl.boxOwn, hk, m1, List.count_nil, Nat.add_zero]
   exact List.count_le_length
  ·have h0 : (ss.map (·.1)).flatMap Sl.boxOwn = [] := by
    rw [List.flatMap_eq_nil_iff]
    intro s hs
    obtain ⟨s', hs', rfl⟩ := List.mem_map.1 hs
    cases hk : s'.1.k with
    | box t => exact absurd ⟨s', hs', t, hk⟩ hb
    | _ => simp [Sl.boxOwn, hk]
   rw [h0]
   have := hcnt b
   simp only [List.count_nil, Nat.zero_add]
   exact this
 ·intro b hb
  have h1 := List.count_pos_iff.2 hb
  rw [hrsown] at h1
  by_cases hb2 : b ∈ (yss.flatten.map (·.1)).flatMap Cell.own
  ·exact hown b hb2
  ·have := List.count_eq_zero.2 hb2
   have hb3 : b ∈ (ss.map (·.1)).flatMap Sl.boxOwn := List.count_pos_iff.1 (by omega)
   obtain ⟨s, hs, hbs⟩ := List.mem_flatMap.1 hb3
   cases hk : s.k with
   | box t =>
    obtain ⟨b1, m1, _, m2, m3⟩ := hbox' s hs t hk
    simp only [Sl.boxOwn, hk, m1, List.mem_singleton] at hbs
    subst hbs
    exact ⟨m2, m3⟩
   | _ => simp [Sl.boxOwn, hk] at hbs
 ·intro b j hj
  rcases h.cbase b j (hC' b j hj) with h1 | h1 | h1
  ·exact .inl h1
  ·exact .inr (.inl h1)
  ·exact .inr (.inr (start_chg he h1).1)
 ·rw [List.map_map]; exact o2
 ·intro i v hv
  obtain ⟨e, he', rfl, rfl⟩ := houtL i v hv
  obtain ⟨q1, q2, q3⟩ := hout e he'
  exact ⟨q1.mono (fun b _ j hj => hC' b j hj) (fun _ _ => rfl), q2, q3⟩
theorem end_box {E0 : Env} {w0 : World} {args : List SA} {nt : Nat} {ss : List (SA × List (Nat × Nat) × Nat)} {yss : List (List (Cell Tg × List (Nat × Nat) × Bool))} {Lo : List (Nat × (Nat × Nat) × A)} {outs : List V} {n : Nat} (D : Ends E0 w0 args nt S C a w ss yss Lo outs n) (hbox : (((ss.map fun s => (s.1.er, s.2)).all fun r => noBox r.1) || ((ss.map fun s => (s.1.er, s.2)).length == 1 && (args.map Sl.er).all plainArg)) = true) {ir : FnIr} (hn0 : n = mrowCount ir.modes (args.map Sl.er)) : ∀ s ∈ ss, ∀ t, s.1.k = .box t → ss.length = 1 ∧ Lo = [] ∧ (∀ y ∈ yss.flatten, y.2.1 = [] ∧ y.2.2 = false) ∧ (∀ b, t.a = some ⟨b, 0, none⟩ → E0.base ≤ b) ∧ ∃ s0, ss = [s0] ∧ noBox s0.1.er = false := by
 have hcs := end_cs D
 have hyR := end_yR D
 obtain ⟨hf1, hf2, hf3⟩ := end_flat D
 have hkinds := end_kinds D
 have hout := end_out D
 have houtL := end_outL D
 have houtpl := end_outpl D
 have hrsown := end_own D
 have hframe := end_frame D
 have hallR : ∀ y ∈ yss.flatten, ResC (startEnv E0 nt args) S C w y.1 y.2.1 y.2.2 := by
  intro y hy
  obtain ⟨ys, h1, h2⟩ := List.mem_flatten.1 hy
  exact hyR ys h1 y h2
 have hnoboxk : ∀ s ∈ ss, noBox s.1.er = true → ∀ t, s.1.k ≠ .box t := fun s _ h => noBox_k h
 have houtcnt : (Lo.map (·.2.2)).flatMap VA.blks = Lo.flatMap fun e => e.2.2.blks := by rw [List.flatMap_map]
 obtain ⟨he, h, hfr, hok, yl, ysp, o1, o2, o3⟩ := D
 intro s hs t hk
 have hnb : ¬ ((ss.map fun s => (s.1.er, s.2)).all fun r => noBox r.1) = true := by
  intro hall
  have := List.all_eq_true.1 hall (s.1.er, s.2) (List.mem_map.2 ⟨s, hs, rfl⟩)
  exact hnoboxk s hs this t hk
 simp only [Bool.or_eq_true, Bool.and_eq_true, beq_iff_eq] at hbox
 obtain ⟨h1, h2⟩ := hbox.resolve_left hnb
 have h1 : ss.length = 1 := by simpa using h1
 obtain ⟨s0, rfl⟩ : ∃ s0, ss = [s0] := by
  cases ss with
  | nil => simp at h1
  | cons s0 r => cases r with
   | nil => exact ⟨s0, rfl⟩
   | cons s1 r => simp at h1
 simp only [List.mem_singleton] at hs
 subst hs
 have hnoown : args.flatMap Sl.own = [] := by
  rw [List.flatMap_eq_nil_iff]
  intro q hq
  have := List.all_eq_true.1 h2 q.er (List.mem_map_of_mem hq)
  simp only [plainArg, Bool.and_eq_true, er_cells, List.all_map, List.all_eq_true, Function.comp] at this
  obtain ⟨h3, h4⟩ := this
  refine own_of_flags (fun t' hk' => ?_) (fun x hx => ?_)
  ·simp only [noBox, er_kind, hk', Kd.er] at h3
   cases h3
  ·have h5 := h4 x hx
   rcases he.flags q hq x hx with h | ⟨_, _, h⟩ | h | h | ⟨_, h⟩
   ·rw [h]; rfl
   ·rw [h]; rfl
   ·rw [h]; rfl
   ·rw [h]; rfl
   ·simp [Cell.er, h, isMp] at h5
 refine ⟨rfl, ?_, ?_, ?_, s, rfl, by simp [noBox, er_kind, hk, Kd.er]⟩
 ·cases hLo : Lo with
  | nil => rfl
  | cons e L =>
   exfalso
   have hn : mrowCount ir.modes (args.map Sl.er) = 0 := by
    unfold mrowCount
    split
    ·rename_i ms a0 r0 _ hargs
     rw [List.length_eq_zero_iff, List.filter_eq_nil_iff]
     intro c hc
     have hm : a0 ∈ args.map Sl.er := by rw [hargs]; exact List.mem_cons_self ..
     have := List.all_eq_true.1 h2 a0 hm
     simp only [plainArg, Bool.and_eq_true, List.all_eq_true] at this
     have hcm := this.2 c hc
     intro hh
     split at hh
     ·rename_i hf
      rw [hf] at hcm
      simp [isMp] at hcm
     ·cases hh
    ·rfl
   rw [hn0, hn, hLo] at o1
   simp at o1
 ·intro y hy
  obtain ⟨ys, q1, q2⟩ := List.mem_flatten.1 hy
  obtain ⟨i, hi⟩ := List.mem_iff_getElem?.1 q1
  have hil : i < [s].length := by rw [← yl]; exact (List.getElem?_eq_some_iff.1 hi).1
  have hi0 : i = 0 := by simpa using hil
  subst hi0
  obtain ⟨ys', m1, m2, m3, m4, m5⟩ := ysp 0 s rfl
  rw [hi] at m1
  obtain rfl := Option.some.inj m1
  rcases (hok s (by simp)).cells with ⟨⟨h3, _⟩ | h3, _⟩ | ⟨t', b, h3, h4, h5, _⟩
  ·rw [hk] at h3; cases h3
  ·rw [hk] at h3; cases h3
  ·rw [h4] at m3
   rw [h5] at m4
   refine ⟨?_, ?_⟩
   ·have := List.flatMap_eq_nil_iff.1 m3.symm y q2
    exact this
   ·have := List.eq_nil_of_length_eq_zero m4.symm
    rw [List.filter_eq_nil_iff] at this
    simpa using this y q2
 ·intro b hb
  rcases (hok s (by simp)).cells with ⟨⟨h3, _⟩ | h3, _⟩ | ⟨t', b', h3, _, _, r, sl, h6, h7, h8, _⟩
  ·rw [hk] at h3; cases h3
  ·rw [hk] at h3; cases h3
  ·rw [hk] at h3
   simp only [Kd.box.injEq] at h3
   subst h3
   obtain ⟨b1, T, q1, _, _, q4⟩ := h.box r sl t h6 h7
   rw [hb] at q1
   simp only [Option.some.injEq, Addr.mk.injEq, and_true] at q1
   subst q1
   rcases q4 with q4 | q4
   ·exact q4
   ·have q4 : b ∈ args.flatMap Sl.own := q4
    rw [hnoown] at q4; simp at q4
theorem end_main {E0 : Env} {w0 : World} {args : List SA} {nt : Nat} {ss : List (SA × List (Nat × Nat) × Nat)} {yss : List (List (Cell Tg × List (Nat × Nat) × Bool))} {Lo : List (Nat × (Nat × Nat) × A)} {outs : List V} {n : Nat} {P : Program} {fn : Func} (D : Ends E0 w0 args nt S C a w ss yss Lo outs n) (hrun : (results fn a.tmps).run P w = .ok (retVal E0.sid (ss.map (·.1))) w) (hloose : (decide (((ss.map fun s => (s.1.er, s.2)).map (·.2.2)).sum = 0) || (decide (((ss.map fun s => (s.1.er, s.2)).map (·.2.2)).sum = 1) && ((ss.map fun s => (s.1.er, s.2)).flatMap (·.2.1)).isEmpty && (ss.map fun s => (s.1.er, s.2)).all fun r => noNo r.1)) = true) (hbox : (((ss.map fun s => (s.1.er, s.2)).all fun r => noBox r.1) || ((ss.map fun s => (s.1.er, s.2)).length == 1 && (args.map Sl.er).all plainArg)) = true) (hnd : ((ss.map fun s => (s.1.er, s.2)).flatMap (·.2.1)).Nodup) (hol : ¬ (!outs.isEmpty && decide (((ss.map fun s => (s.1.er, s.2)).map (·.2.2)).sum ≠ 0)) = true) {ir : FnIr} (hn0 : n = mrowCount ir.modes (args.map Sl.er)) : ∀ (ob : Option (List V)), (∀ C', (∀ b j, C' b j → C b j) → ∀ cs', ob = some cs' → ∃ arg, args.head? = some arg ∧ LeftOk E0 w C' arg cs') → (ob.isSome = true → (ss.map fun s => (s.1.er, s.2)).all (fun r => noBox r.1) = true) →
       ∃ v rs outs' C', (results fn a.tmps).run P w = .ok v w ∧ Leave E0 w0 w args ⟨(ss.map fun s => (s.1.er, s.2)).map (·.1), outs, ob⟩ v rs outs' C' := by
 have fin := end_fin D hrun
 have hboxf := end_box D hbox hn0
 have hcs := end_cs D
 have hyR := end_yR D
 obtain ⟨hf1, hf2, hf3⟩ := end_flat D
 have hkinds := end_kinds D
 have hout := end_out D
 have houtL := end_outL D
 have houtpl := end_outpl D
 have hrsown := end_own D
 have hframe := end_frame D
 have hallR : ∀ y ∈ yss.flatten, ResC (startEnv E0 nt args) S C w y.1 y.2.1 y.2.2 := by
  intro y hy
  obtain ⟨ys, h1, h2⟩ := List.mem_flatten.1 hy
  exact hyR ys h1 y h2
 have hnoboxk : ∀ s ∈ ss, noBox s.1.er = true → ∀ t, s.1.k ≠ .box t := fun s _ h => noBox_k h
 have houtcnt : (Lo.map (·.2.2)).flatMap VA.blks = Lo.flatMap fun e => e.2.2.blks := by rw [List.flatMap_map]
 rw [hf1] at hnd
 have hsum : ((ss.map fun s => (s.1.er, s.2)).map (·.2.2)).sum = 0 → ∀ y ∈ yss.flatten, y.2.2 = false := by
  intro h0 y hy
  rw [hf2] at h0
  have := List.eq_nil_of_length_eq_zero h0
  rw [List.filter_eq_nil_iff] at this
  have := this y hy
  simpa using this
 obtain ⟨he, h, hfr, hok, yl, ysp, o1, o2, o3⟩ := D
 intro ob hleft hobx
 have hob : ∀ s ∈ ss, ∀ t, s.1.k = .box t → ob = none := by
  intro s hs t hk
  cases ob with
  | none => rfl
  | some cs' =>
   have := List.all_eq_true.1 (hobx rfl) (s.1.er, s.2) (List.mem_map.2 ⟨s, hs, rfl⟩)
   exact absurd hk (hnoboxk s hs this t)
 simp only [Bool.or_eq_true, decide_eq_true_eq, Bool.and_eq_true] at hloose
 by_cases h0 : ((ss.map fun s => (s.1.er, s.2)).map (·.2.2)).sum = 0
 ·-- none loose
  have hlo := hsum h0
  obtain ⟨L, k1, k2, k3⟩ := resC_places hallR hlo
  have hcount : ∀ b, ((yss.flatten.map (·.1)).flatMap Cell.own).count b + ((Lo.map (·.2.2)).flatMap VA.blks).count b ≤ (ownAll S []).count b := by
   intro b
   have := places_count (S := S) (L ++ Lo.map fun e => (e.2.1, e.2.2.blks)) (by
    rw [List.map_append, k1, List.map_map]
    rw [List.nodup_append]
    refine ⟨hnd, houtpl, fun p hp q hq hpq => ?_⟩
    subst hpq
    rw [← k1] at hp
    obtain ⟨e, he1, rfl⟩ := List.mem_map.1 hp
    obtain ⟨e', he2, heq⟩ := List.mem_map.1 hq
    obtain ⟨y, hy, hyf, _⟩ := k2 e he1
    obtain ⟨y', hy', hyf', _⟩ := o3 e' he2
    have heq : e'.2.1 = e.1 := heq
    rw [heq] at hy'
    rw [hy] at hy'
    obtain rfl := Option.some.inj hy'
    rw [hyf'] at hyf
    rcases hyf with ⟨g, hyf | hyf⟩ | hyf <;> simp [isOs] at hyf) (fun e hee => by
    rcases List.mem_append.1 hee with hee | hee
    ·obtain ⟨y, hy, hyf, hyv⟩ := k2 e hee
     exact ⟨y, hy, hyv⟩
    ·obtain ⟨e', he', rfl⟩ := List.mem_map.1 hee
     obtain ⟨y, hy, hyf, hyv⟩ := o3 e' he'
     exact ⟨y, hy, by rw [own_blks (by rw [hyf]; rfl), hyv]⟩) b
   simp only [List.flatMap_append, List.count_append, List.flatMap_map] at this
   rw [k3 b, houtcnt]
   exact this
  refine fin C ob (fun _ _ => id) (fun y hy => ?_) (fun b => Nat.le_trans (hcount b) (h.cnt b)) (fun b hb => ?_) (fun s hs t hk => ?_) (hleft C (fun _ _ => id))
  ·have := hallR y hy
   have hl := hlo y hy
   obtain ⟨z, pl, lo⟩ := y
   simp only at this hl ⊢
   cases this with
   | sc v hs => exact hs
   | nl k => exact ⟨k, rfl⟩
   | no v hr hrd => exact ⟨hr, hrd⟩
   | loose v hr hf => cases hl
   | own v g p q y' hy' hyf hyv =>
    obtain ⟨sl, hs, hc⟩ := cellAt_some hy'
    have hk := h.cells _ sl hs y' (List.mem_of_getElem? hc)
    obtain ⟨v', f'⟩ := y'
    simp only at hyf hyv
    subst hyv
    rcases hyf with rfl | rfl
    ·exact hk
    ·exact hk
   | os v p q y' hy' hyf hyv =>
    obtain ⟨sl, hs, hc⟩ := cellAt_some hy'
    have hk := h.cells _ sl hs y' (List.mem_of_getElem? hc)
    obtain ⟨v', f'⟩ := y'
    simp only at hyf hyv
    subst hyv
    cases f' <;> simp [isOs] at hyf
    exact hk
  ·have h1 := List.count_pos_iff.2 hb
   have h2 := hcount b
   have hin : b ∈ ownAll S [] := List.count_pos_iff.1 (by omega)
   refine ⟨?_, (h.ownlt b hin).1⟩
   rw [k3 b] at h1
   obtain ⟨e, hee, hbe⟩ := List.mem_flatMap.1 (List.count_pos_iff.1 h1)
   obtain ⟨y, hy, hyf, hyv⟩ := k2 e hee
   obtain ⟨sl, hs, hc⟩ := cellAt_some hy
   have hk := h.cells _ sl hs y (List.mem_of_getElem? hc)
   obtain ⟨v', f'⟩ := y
   simp only at hyf
   rw [← hyv] at hbe
   rcases hyf with ⟨g, rfl | rfl⟩ | hyf
   ·rw [own_blks (x := ⟨v', .ow g⟩) rfl] at hbe; exact hk.2.2 b hbe
   ·rw [own_blks (x := ⟨v', .nw g⟩) rfl] at hbe; exact hk.2.2 b hbe
   ·cases f' <;> simp [isOs] at hyf
    exact hk.2.2.1.2 b (top_blks (by simpa [Cell.own, Go.Vm.hold, isOs, owns] using hbe))
  ·obtain ⟨q1, q2, q3, q4, _⟩ := hboxf s hs t hk
   refine ⟨q1, hob s hs t hk, q2, ?_, q4⟩
   rw [List.flatMap_eq_nil_iff]
   intro z hz
   obtain ⟨y, hy, rfl⟩ := List.mem_map.1 hz
   have h1 := hallR y hy
   have h2 := q3 y hy
   obtain ⟨z, pl, lo⟩ := y
   simp only at h1 h2 ⊢
   obtain ⟨rfl, rfl⟩ := h2
   cases h1 <;> simp [Cell.own, Go.Vm.hold, isOs, owns]
 ·-- one loose
  obtain ⟨⟨h1, h2⟩, h3⟩ := hloose.resolve_left h0
  have hLo : Lo = [] := by
   cases hLo : Lo with
   | nil => rfl
   | cons e L =>
    exfalso
    refine hol ?_
    rw [Bool.and_eq_true]
    refine ⟨?_, by simpa using h0⟩
    rw [← o2, hLo]; rfl
  have hpl : ∀ y ∈ yss.flatten, y.2.1 = [] := by
   rw [hf1] at h2
   have h2 : yss.flatten.flatMap (·.2.1) = [] := by simpa using h2
   exact fun y hy => List.flatMap_eq_nil_iff.1 h2 y hy
  have hnno : ∀ y ∈ yss.flatten, y.1.f ≠ .no := by
   intro y hy e
   obtain ⟨ys, m1, m2⟩ := List.mem_flatten.1 hy
   obtain ⟨i, hi⟩ := List.mem_iff_getElem?.1 m1
   have hil : i < ss.length := by rw [← yl]; exact (List.getElem?_eq_some_iff.1 hi).1
   obtain ⟨ys', n1, n2, _⟩ := ysp i _ (List.getElem?_eq_getElem hil)
   rw [hi] at n1
   obtain rfl := Option.some.inj n1
   have hm : ss[i] ∈ ss := List.getElem_mem hil
   have := List.all_eq_true.1 h3 (ss[i].1.er, ss[i].2) (List.mem_map.2 ⟨_, hm, rfl⟩)
   simp only [noNo, er_cells, List.all_map, List.all_eq_true, Function.comp] at this
   have := this y.1 (by rw [n2]; exact List.mem_map_of_mem m2)
   simp [Cell.er, e] at this
  have hone : ∀ b, ((yss.flatten.map (·.1)).flatMap Cell.own).count b ≤ 1 := by
   intro b
   have hlen1 : (yss.flatten.filter (·.2.2)).length = 1 := by rw [← hf2]; exact h1
   have key : ∀ (l : List (Cell Tg × List (Nat × Nat) × Bool)), (∀ y ∈ l, ResC (startEnv E0 nt args) S C w y.1 y.2.1 y.2.2) → (∀ y ∈ l, y.2.1 = []) → ((l.map (·.1)).flatMap Cell.own).count b ≤ (l.filter (·.2.2)).length := by
    intro l
    induction l with
    | nil => intro _ _; simp
    | cons y l ih =>
     intro hR hP
     have ih' := ih (fun y' hy' => hR y' (List.mem_cons_of_mem _ hy')) (fun y' hy' => hP y' (List.mem_cons_of_mem _ hy'))
     have hy1 := hR y (List.mem_cons_self ..)
     have hy2 := hP y (List.mem_cons_self ..)
     obtain ⟨z, pl, lo⟩ := y
     simp only at hy1 hy2
     subst hy2
     simp only [List.map_cons, List.flatMap_cons, List.count_append]
     cases hy1 with
     | sc v hs => simpa [Cell.own, Go.Vm.hold, isOs, owns] using ih'
     | nl k => simpa [Cell.own, Go.Vm.hold, isOs, owns] using ih'
     | no v hr hrd => simpa [Cell.own, Go.Vm.hold, isOs, owns] using ih'
     | loose v hr hf =>
      have : v.blks.count b ≤ 1 := List.nodup_iff_count.1 hf.2.1 b
      simp only [Cell.own, Go.Vm.hold, isOs, owns, Bool.or_false, Bool.true_or, Bool.false_eq_true, if_false, if_true, List.filter_cons_of_pos, List.length_cons]
      omega
   have := key yss.flatten hallR hpl
   omega
  refine fin (fun _ _ => False) ob (fun _ _ hf => hf.elim) (fun y hy => ?_) (fun b => ?_) (fun b hb => ?_) (fun s hs t hk => ?_) (hleft _ (fun _ _ hf => hf.elim))
  ·have hR := hallR y hy
   have hp := hpl y hy
   have hn := hnno y hy
   obtain ⟨z, pl, lo⟩ := y
   simp only at hR hp hn ⊢
   subst hp
   cases hR with
   | sc v hs => exact hs
   | nl k => exact ⟨k, rfl⟩
   | no v hr hrd => exact absurd rfl hn
   | loose v hr hf => exact ⟨hr, (show Shp' E0.sid w (fun _ _ => False) false v by simp only [Shp', Bool.false_eq_true, if_false]; exact hf.1), hf.2.2⟩
  ·rw [hLo]
   simpa using hone b
  ·obtain ⟨z, hz, hbz⟩ := List.mem_flatMap.1 hb
   obtain ⟨y, hy, rfl⟩ := List.mem_map.1 hz
   have hR := hallR y hy
   have hp := hpl y hy
   obtain ⟨z, pl, lo⟩ := y
   simp only at hR hp hbz
   subst hp
   cases hR with
   | sc v hs => simp [Cell.own, Go.Vm.hold, isOs, owns] at hbz
   | nl k => simp [Cell.own, Go.Vm.hold, isOs, owns] at hbz
   | no v hr hrd => simp [Cell.own, Go.Vm.hold, isOs, owns] at hbz
   | loose v hr hf =>
    have hbz : b ∈ v.blks := by simpa [Cell.own, Go.Vm.hold, isOs, owns] using hbz
    exact ⟨hf.2.2 b hbz, hf.1.lt b hbz⟩
  ·exfalso
   obtain ⟨_, _, q3, _⟩ := hboxf s hs t hk
   refine h0 ?_
   rw [hf2, List.length_eq_zero_iff, List.filter_eq_nil_iff]
   intro y hy
   simp [(q3 y hy).2]
theorem end_left {E0 : Env} {w0 : World} {args : List SA} {nt : Nat} (he : Entry E0 w0 args) (h : Inv (startEnv E0 nt args) S [] C a w) {bx : SA} {t : Tg} {cs : List V} (hbxA : S[lockS nt + 1]? = some bx) (hkb' : bx.k = .box t)
  (hleft : leftBox bx.er.cs (((args.map Sl.er).headD dead).cs) 0 = some cs) (C' : Nat → Nat → Prop) (hC' : ∀ b j, C' b j → C b j) : ∃ arg, args.head? = some arg ∧ LeftOk E0 w C' arg cs := by
 have hnt2 : lockS nt + 1 = lockS (startEnv E0 nt args).nt + 1 := rfl
 have hge : (startEnv E0 nt args).nt ≤ lockS nt + 1 := by show nt ≤ _; unfold lockS; omega
 rcases h.high _ bx hge hbxA with h1 | h1 | ⟨t1, h1, h2⟩
 ·rw [hkb'] at h1; cases h1
 ·rw [hkb'] at h1; cases h1
 ·rw [hkb'] at h1
  simp only [Kd.box.injEq] at h1
  subst h1
  have htag : t = topTag args := h2 rfl
  obtain ⟨b1, T, q1, q2, q3, _⟩ := h.box _ bx t hbxA hkb'
  cases hargs : args with
  | nil =>
   rw [hargs] at htag
   rw [htag] at q1
   simp [topTag] at q1
  | cons arg r =>
   have htag : t = topTag (arg :: r) := by rw [htag, hargs]
   have hargk : arg.k = .box t := by
    obtain ⟨k, cs0⟩ := arg
    cases k with
    | box t0 => simp only [topTag] at htag; rw [htag]
    | _ =>
     simp only [topTag] at htag
     rw [htag] at q1
     simp at q1
   have hl : leftBox (bx.cs.map Cell.er) (arg.cs.map Cell.er) 0 = some cs := by
    rw [hargs] at hleft
    exact hleft
   obtain ⟨l1, l2, l3⟩ := leftBox_lift hl
   refine ⟨arg, rfl, t, b1, T, bx.cs.map (·.v), hargk, q1, ?_, l2, by simpa using l1, fun j hj => q3 j (hC' b1 j hj), fun c x v hx hv => ?_⟩
   ·rw [q2, List.map_map]; rfl
   ·rw [List.getElem?_map, Option.map_eq_some_iff] at hv
    obtain ⟨y, hy, rfl⟩ := hv
    have hfl := l3 c y x hy hx
    have hyk := h.cells _ bx hbxA y (List.mem_of_getElem? hy)
    have hxk := he.cells arg (by rw [hargs]; exact List.mem_cons_self ..) x (List.mem_of_getElem? hx)
    obtain ⟨yv, yf⟩ := y
    obtain ⟨xv, xf⟩ := x
    simp only [Nat.zero_add] at hfl
    rcases hfl with ⟨h5, h6⟩ | ⟨h5, h6⟩ | ⟨h5, h6⟩
    ·have h5 : yf = _ := h5; have h6 : xf = _ := h6; subst h5; subst h6
     exact .inl ⟨hxk, hyk⟩
    ·have h5 : yf = _ := h5; have h6 : xf = _ := h6; subst h5; subst h6
     have e1 : E0.par 0 c = some yv := hyk.2.2
     have e2 : E0.par 0 c = some xv := hxk.2.2
     rw [e1] at e2
     obtain rfl := Option.some.inj e2
     refine .inr ⟨?_, rfl⟩
     have hrow : isRow yv = true := hyk.1
     cases yv <;> simp_all [isRow, scal]
    ·have h5 : yf = _ := h5; have h6 : xf = _ := h6; subst h5; subst h6
     obtain ⟨k1, e1⟩ := hyk
     obtain ⟨k2, e2⟩ := hxk
     have e1 : yv = .row ⟨none, 0, k1⟩ [] := e1
     have e2 : xv = .row ⟨none, 0, k2⟩ [] := e2
     subst e1; subst e2
     exact .inr ⟨rfl, rfl⟩
theorem finish_lift {P : Program} {E0 : Env} {w0 : World} {args : List SA} {nt : Nat} (he : Entry E0 w0 args) (h : Inv (startEnv E0 nt args) S [] C a w) (hfr : Frame (startEnv E0 nt args) w0 w)
  {fn : Func} {ir : FnIr} (hres : ir.res = cRes P fn.results.toList) (hnt : ir.ntmps = nt) {ret : Ret} (hr : finish ir (args.map Sl.er) (erS S) = some ret) :
  ∃ v rs outs C', (results fn a.tmps).run P w = .ok v w ∧ Leave E0 w0 w args ret v rs outs C' := by
 unfold finish at hr
 rw [hres] at hr
 split at hr
 ·cases hr
 ·rename_i ys hys
  obtain ⟨ss, rfl, hlen, hread, hok⟩ := resVars_lift h fn.results.toList hys
  simp only at hr
  split at hr
  ·rename_i hcond
   simp only [Bool.and_eq_true] at hcond
   obtain ⟨⟨hnd0, hloose⟩, hbox⟩ := hcond
   have hnd := nodup_spec hnd0
   clear hnd0
   split at hr
   ·cases hr
   ·rename_i outs houts
    split at hr
    ·cases hr
    ·rename_i hol
     obtain ⟨Lo, o1, o2, o3⟩ := outsOf_lift _ houts
     have hrun : (results fn a.tmps).run P w = .ok (retVal E0.sid (ss.map (·.1))) w := by
      have := results_run (w := w) (P := P) (fn := fn) (tmps := a.tmps) (vs := (ss.map (·.1)).map (slVal E0.sid)) (fun i r hr => by
       obtain ⟨s, hs, hrd⟩ := hread i r (by rw [Array.getElem?_toList]; exact hr)
       exact ⟨slVal E0.sid s.1, by simp [hs], hrd⟩) (by simp [hlen])
      rw [packVal_ret] at this
      exact this
     obtain ⟨yss, yl, ysp⟩ := end_cells hok
     have main := end_main (P := P) (fn := fn) ⟨he, h, hfr, hok, yl, ysp, o1, o2, o3⟩ hrun hloose hbox hnd hol rfl
     split at hr
     ·split at hr
      ·rename_i bxU hbx
       obtain ⟨bx, hbxA, rfl⟩ := erS_some hbx
       split at hr
       ·rename_i u hkb
        have hkb' : ∃ t, bx.k = .box t := by
         rw [er_kind] at hkb
         cases hk' : bx.k <;> rw [hk'] at hkb <;> simp [Kd.er] at hkb ⊢
        obtain ⟨t, hkb'⟩ := hkb'
        split at hr
        ·rename_i cs hleft
         split at hr
         ·rename_i hnb
          simp only [Option.some.injEq] at hr
          subst hr
          refine main (some cs) (fun C' hC' cs' hcs' => ?_) (fun _ => hnb)
          simp only [Option.some.injEq] at hcs'
          subst hcs'
          rw [hnt] at hbxA
          exact end_left he h hbxA hkb' hleft C' hC'
         ·cases hr
        ·cases hr
       ·cases hr
      ·cases hr
     ·simp only [Option.some.injEq] at hr
      subst hr
      exact main none (fun _ _ cs' hcs' => by cases hcs') (by simp)
  ·cases hr
end
end Go.Vm
end
section
namespace Go.Vm
theorem shutCell_er (x : Cell Tg) : (shutCell x).er = shutCell x.er := by
 obtain ⟨v, f⟩ := x
 cases f <;> rfl
theorem shutS_er (s : SA) : (shutS s).er = shutS s.er := by
 obtain ⟨k, cs⟩ := s
 have h : (cs.map shutCell).map Cell.er = (cs.map Cell.er).map shutCell := by
  rw [List.map_map, List.map_map]; exact List.map_congr_left fun x _ => shutCell_er x
 cases k <;> simp [shutS, Sl.er, Kd.er, h]
theorem shutArgs_er (ms : List Pm) (args : List SA) : (shutArgs ms args).map Sl.er = shutArgs ms (args.map Sl.er) := by
 unfold shutArgs
 split
 ·rfl
 ·rw [List.map_map, List.map_map]; exact List.map_congr_left fun x _ => shutS_er x
theorem shutCell_v {α : Type} (x : Cell α) : (shutCell x).v = x.v := by
 obtain ⟨v, f⟩ := x
 cases f <;> rfl
theorem shutS_val {sid : Nat → Nat} (s : SA) : slVal sid (shutS s) = slVal sid s := by
 obtain ⟨k, cs⟩ := s
 have h : (cs.map shutCell).map (fun c => c.v.val sid) = cs.map (fun c => c.v.val sid) := by
  rw [List.map_map]; exact List.map_congr_left fun x _ => by simp [shutCell_v]
 cases k with
 | val => match cs with
  | [] => rfl
  | [c] => simp [shutS, slVal, shutCell_v]
  | c :: d :: r => rfl
 | agg => simp only [slVal, shutS, h]
 | _ => rfl
theorem shutArgs_val {sid : Nat → Nat} (ms : List Pm) (args : List SA) : (shutArgs ms args).map (slVal sid) = args.map (slVal sid) := by
 unfold shutArgs
 split
 ·rfl
 ·rw [List.map_map]; exact List.map_congr_left fun x _ => shutS_val x
theorem shutCell_own (x : Cell Tg) : (shutCell x).own = x.own := by
 obtain ⟨v, f⟩ := x
 cases f <;> rfl
theorem shutS_own (s : SA) : (shutS s).own = s.own := by
 obtain ⟨k, cs⟩ := s
 have h : (cs.map shutCell).flatMap Cell.own = cs.flatMap Cell.own := by
  rw [List.flatMap_map]
  congr 1
  funext x
  exact shutCell_own x
 cases k <;> simp [shutS, Sl.own, Sl.boxOwn, h]
theorem shutS_cells {s : SA} {x : Cell Tg} (h : x ∈ (shutS s).cs) : ∃ y ∈ s.cs, x = y ∨ (x = shutCell y) := by
 obtain ⟨k, cs⟩ := s
 cases k <;> simp only [shutS, List.mem_map] at h <;> first | exact ⟨x, h, .inl rfl⟩ | (obtain ⟨y, hy, rfl⟩ := h; exact ⟨y, hy, .inr rfl⟩)
theorem shutS_box {s : SA} {t : Tg} (h : (shutS s).k = .box t) : shutS s = s := by
 obtain ⟨k, cs⟩ := s
 cases k <;> simp [shutS] at h ⊢
theorem shutCell_ok {E : Env} {w : World} {C : Nat → Nat → Prop} {x : Cell Tg} (h : COk E w E.old [] [] x) : COk E w E.old [] [] (shutCell x) := by
 obtain ⟨v, f⟩ := x
 cases f with
 | nl =>
  obtain ⟨k, hk⟩ := h
  simp only at hk
  subst hk
  show Rd E.sid w E.old _
  exact .row _ _ (by simp) (by simp) (by simp) (by simp)
 | sp a c => exact h.2.1
 | _ => exact h
theorem Entry.shut {E : Env} {w : World} {args : List SA} (h : Entry E w args) (ms : List Pm) : Entry E w (shutArgs ms args) := by
 unfold shutArgs
 split
 ·exact h
 ·have hown : (args.map shutS).flatMap Sl.own = args.flatMap Sl.own := by
   rw [List.flatMap_map]
   congr 1
   funext x
   exact shutS_own x
  refine ⟨h.base, fun i s hs => ?_, fun s hs x hx => ?_, fun s hs x hx => ?_, fun s hs t ht => ?_, by rw [hown]; exact h.cnt, by rw [hown]; exact h.own, h.olt⟩
  ·rw [List.getElem?_map, Option.map_eq_some_iff] at hs
   obtain ⟨s0, hs0, rfl⟩ := hs
   have := h.kinds i s0 hs0
   obtain ⟨k, cs⟩ := s0
   rcases this with ⟨h1, c, h2⟩ | h1 | ⟨h1, t, h2⟩
   ·simp only at h1 h2
    subst h1; subst h2
    exact .inl ⟨rfl, _, rfl⟩
   ·simp only at h1
    subst h1
    exact .inr (.inl rfl)
   ·simp only at h2
    subst h2
    exact .inr (.inr ⟨h1, t, rfl⟩)
  ·obtain ⟨s0, hs0, rfl⟩ := List.mem_map.1 hs
   obtain ⟨y, hy, hxy⟩ := shutS_cells hx
   have h1 := h.flags s0 hs0 y hy
   rcases hxy with rfl | rfl
   ·exact h1
   ·obtain ⟨v, f⟩ := y
    cases f <;> first | exact h1 | exact .inr (.inr (.inl rfl))
  ·obtain ⟨s0, hs0, rfl⟩ := List.mem_map.1 hs
   obtain ⟨y, hy, hxy⟩ := shutS_cells hx
   have h1 := h.cells s0 hs0 y hy
   rcases hxy with rfl | rfl
   ·exact h1
   ·exact shutCell_ok (C := E.old) h1
  ·obtain ⟨s0, hs0, rfl⟩ := List.mem_map.1 hs
   have h1 := shutS_box ht
   rw [h1] at ht ⊢
   exact h.box s0 hs0 t ht
def Special (P : Program) (sid : Nat → Nat) (g sp : Nat) : Prop := Keeps' P sid (fun _ args => special sp args) g
structure FnTab (P : Program) (sid : Nat → Nat) (canon : Nat → Option Nat) (T : Nat → Option FnIr) : Prop where
 ids : ∀ f g, canon f = some g → sid g = f
 mixed : P.follows .mixedOrders = true
 fn : ∀ g ir, T g = some ir → (ir.sp = 0 ∧ ∃ fn ms, P.funcs[sid g]? = some fn ∧ (fn.name == "runtime.NumGoroutine") = false ∧ cFn P canon 0 ms fn = some ir) ∨ (ir.sp ≠ 0 ∧ Special P sid g ir.sp)
theorem run_enter {P : Program} {f : FuncId} {fn : Func} {c : Code} (hf : P.funcs[f]? = some fn) (hn : (fn.name == "runtime.NumGoroutine") = false) (hb : fn.body = some c) (args : Array Value) (w : World) :
  (callFunc f args).run P w = .ok (.enter f args) w := by
 have hn' : ¬ fn.name = "runtime.NumGoroutine" := by
  intro e
  rw [e] at hn
  simp at hn
 simp [callFunc, hf, hn', hb]
theorem body_keeps {P : Program} {sid : Nat → Nat} {canon : Nat → Option Nat} {modes : Modes} {T : Nat → Option FnIr} (ht : FnTab P sid canon T) {n g : Nat} (ih : ∀ g, Keeps' P sid (evalFn T modes n) g) {E : Env} {w : World} {args : List SA} {ret : Ret} (hP : E.P = P) (hs : E.sid = sid) (he : Entry E w args)
  {ms : List Pm} {fn : Func} {c : Code} (hfn : P.funcs[sid g]? = some fn) (hname : (fn.name == "runtime.NumGoroutine") = false) (hbody : fn.body = some c) (hl : args.length = fn.params.size + fn.nfree) (hle : fn.params.size + fn.nfree ≤ fn.ntmps) {ex : Ex} {st : St} (hex : ex = .normal ∨ ex = .ret)
  (hcode : code (evalFn T modes n) modes fn.ntmps n (cCode ⟨P, canon, fn.ntmps⟩ (codeUses c ++ resTmps fn.results.toList) c) (start (⟨0, fn.params.size + fn.nfree, fn.ntmps, cRes P fn.results.toList, ms, cCode ⟨P, canon, fn.ntmps⟩ (codeUses c ++ resTmps fn.results.toList) c⟩ : FnIr) (args.map Sl.er)) = some (ex, st))
  (hfin : finish ⟨0, fn.params.size + fn.nfree, fn.ntmps, cRes P fn.results.toList, ms, cCode ⟨P, canon, fn.ntmps⟩ (codeUses c ++ resTmps fn.results.toList) c⟩ (args.map Sl.er) st = some ret) :
  (callFunc (sid g) (args.map (slVal sid)).toArray).run P w = .ok (.enter (sid g) (args.map (slVal sid)).toArray) w ∧
  Calls P (sid g) (args.map (slVal sid)).toArray w fun e w' => ∃ v rs outs C, e = .returned v ∧ Leave E w w' args ret v rs outs C := by
 refine ⟨run_enter hfn hname hbody _ _, ?_⟩
 refine calls_of_wp hfn hbody ?_
 have hi := inv_start he hl hle
 have hf : Fits (startEnv E fn.ntmps args) ⟨P, canon, fn.ntmps⟩ := ⟨by show P = E.P; exact hP.symm, rfl, fun f g hg => by show E.sid g = f; rw [hs]; exact ht.ids f g hg, by show E.P.follows _ = _; rw [hP]; exact ht.mixed⟩
 have hO : ∀ g, Keeps' (startEnv E fn.ntmps args).P (startEnv E fn.ntmps args).sid (evalFn T modes n) g := by
  intro g
  show Keeps' E.P E.sid _ g
  rw [hP, hs]; exact ih g
 have hbase : (startEnv E fn.ntmps args).base ≤ w.heap.size := by show E.base ≤ _; rw [he.base]; exact Nat.le_refl _
 have hsz : ((args.map (slVal sid)).toArray).size = fn.params.size + fn.nfree := by simpa using hl
 rw [hsz]
 rw [← startA_er] at hcode
 rw [hs] at hi
 have := code_lift (E := startEnv E fn.ntmps args) (Q := bodyPost P fn fun e w' => ∃ v rs outs C, e = .returned v ∧ Leave E w w' args ret v rs outs C) hf hO c hi hbase hcode (fun S1 C1 a1 w1 e1 e2 e3 => by
  rw [← e1] at hfin
  obtain ⟨v, rs, outs, C', r1, r2⟩ := finish_lift (P := P) he e2 e3 (fn := fn) rfl rfl hfin
  rcases hex with rfl | rfl
  ·exact ⟨e2.nodef, v, r1, v, rs, outs, C', rfl, r2⟩
  ·exact ⟨e2.nodef, v, r1, v, rs, outs, C', rfl, r2⟩)
 have hPE : (startEnv E fn.ntmps args).P = P := hP
 rw [hPE] at this
 exact this
theorem leave_shut {E : Env} {w w' : World} {args : List SA} {ms : List Pm} {ret : Ret} {v : Value} {rs : List SA} {outs : List A} {C : Nat → Nat → Prop} (h : Leave E w w' (shutArgs ms args) ret v rs outs C) : Leave E w w' args ret v rs outs C := by
 refine ⟨h.er, h.val, h.kinds, h.flags, h.cells, h.box, h.cnt, h.own, h.clt, h.cbase, h.frame, h.outer, h.outok, fun cs' hc => ?_⟩
 obtain ⟨arg, h1, h2⟩ := h.left cs' hc
 unfold shutArgs at h1
 split at h1
 ·exact ⟨arg, h1, h2⟩
 ·cases args with
  | nil => simp at h1
  | cons s r =>
   simp only [List.map_cons, List.head?_cons, Option.some.injEq] at h1
   subst h1
   refine ⟨s, rfl, ?_⟩
   have h3 := h2
   obtain ⟨t, b, T, vs, k1, k2⟩ := h2
   rw [shutS_box k1] at h3
   exact h3
theorem fn_keeps {P : Program} {sid : Nat → Nat} {canon : Nat → Option Nat} {modes : Modes} {T : Nat → Option FnIr} (ht : FnTab P sid canon T) : ∀ (n g : Nat), Keeps' P sid (evalFn T modes n) g := by
 intro n
 induction n with
 | zero =>
  intro g E w args ret hP hs he hr
  simp [evalFn] at hr
 | succ n ih =>
  intro g E w args ret hP hs he hr
  simp only [evalFn] at hr
  split at hr
  ·cases hr
  ·rename_i ir hT
   rcases ht.fn g ir hT with ⟨hsp, fn, ms, hfn, hname, hc⟩ | ⟨hsp, hspec⟩
   ·rw [if_pos hsp] at hr
    split at hr
    ·rename_i hlen
     obtain ⟨hl, hle⟩ := hlen
     rw [List.length_map] at hl
     unfold cFn at hc
     split at hc
     ·cases hc
     ·rename_i c hbody
      simp only [Option.some.injEq] at hc
      subst hc
      simp only at hl hle hr
      rw [← shutArgs_er] at hr
      have hl' : (shutArgs ms args).length = fn.params.size + fn.nfree := by
       rw [← hl]
       unfold shutArgs
       split <;> simp
      rw [← shutArgs_val (sid := sid) ms args]
      have key : ∀ {ex : Ex} {st : St}, (ex = .normal ∨ ex = .ret) → code (evalFn T modes n) modes fn.ntmps n (cCode ⟨P, canon, fn.ntmps⟩ (codeUses c ++ resTmps fn.results.toList) c) (start (⟨0, fn.params.size + fn.nfree, fn.ntmps, cRes P fn.results.toList, ms, cCode ⟨P, canon, fn.ntmps⟩ (codeUses c ++ resTmps fn.results.toList) c⟩ : FnIr) ((shutArgs ms args).map Sl.er)) = some (ex, st) →
        finish ⟨0, fn.params.size + fn.nfree, fn.ntmps, cRes P fn.results.toList, ms, cCode ⟨P, canon, fn.ntmps⟩ (codeUses c ++ resTmps fn.results.toList) c⟩ ((shutArgs ms args).map Sl.er) st = some ret →
        (callFunc (sid g) ((shutArgs ms args).map (slVal sid)).toArray).run P w = .ok (.enter (sid g) ((shutArgs ms args).map (slVal sid)).toArray) w ∧
        Calls P (sid g) ((shutArgs ms args).map (slVal sid)).toArray w fun e w' => ∃ v rs outs C, e = .returned v ∧ Leave E w w' args ret v rs outs C := by
       intro ex st hex hcode hfin
       obtain ⟨k1, k2⟩ := body_keeps (E := E) (g := g) ht ih hP hs (he.shut ms) hfn hname hbody hl' hle hex hcode hfin
       exact ⟨k1, Calls.mono k2 fun e w' ⟨v, rs, outs, C, h1, h2⟩ => ⟨v, rs, outs, C, h1, leave_shut h2⟩⟩
      split at hr
      ·rename_i st hcode
       exact key (.inl rfl) hcode hr
      ·rename_i st hcode
       exact key (.inr rfl) hcode hr
      ·cases hr
    ·cases hr
   ·rw [if_neg hsp] at hr
    exact hspec E w args ret hP hs he hr
end Go.Vm
end
