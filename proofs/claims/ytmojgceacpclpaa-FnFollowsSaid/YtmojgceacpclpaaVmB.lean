/- The value machine, part 2: code read as work on values, and its soundness over memory. -/
import Derived.Test.YtmojgceacpclpaaVmA
import Derived.Laws.Cells
import Derived.Laws.Slices
import Derived.Laws.MakeOwn
import Derived.Laws.Tables
import Derived.Laws.AppendOwn
set_option maxHeartbeats 4000000
set_option maxRecDepth 10000
set_option linter.unusedVariables false
set_option linter.unusedSimpArgs false
section
namespace Go.Vm
section
variable {E : Env} {cx : Cx} {S : StA} {X : List (Cell Tg)} {C : Nat → Nat → Prop} {a : Act} {w : World}
theorem Inv.addAll (h : Inv E S X C a w) (zs : List (Cell Tg)) (hz : ∀ z ∈ zs, COk E w C S X z ∧ hold z.f = false ∧ ((∀ p q r, z.f ≠ .ap p q r) ∨ z ∈ cellsAll S X)) : Inv E S (zs ++ X) C a w := by
 have hl : Less S S X (zs ++ X) := Less.hand zs fun z hm => (hz z hm).2.1
 refine ⟨h.len, h.tsz, h.nodef, h.slv, h.high, h.emp, h.lock, ?_, h.box, ?_, ?_, ?_, ?_, h.olt, h.clt, h.cbase, fun b hb => h.ownlt b (hl.mem hb)⟩
 ·intro l hl' hd
  obtain ⟨h1, h2⟩ := h.noap l hl' hd
  refine ⟨h1, fun y hy => ?_⟩
  rcases List.mem_append.1 hy with hy | hy
  ·rcases (hz y hy).2.2 with hn | hm
   ·exact hn
   ·rcases List.mem_append.1 hm with hm | hm
    ·obtain ⟨s, hs, hm⟩ := List.mem_flatMap.1 hm
     obtain ⟨i, hi⟩ := List.mem_iff_getElem?.1 hs
     exact h1 i s hi y hm
    ·exact h2 y hm
  ·exact h2 y hy
 ·exact fun i s t src ix hs hk => (h.ept i s t src ix hs hk).less hl
 ·exact fun i s hs x hx => (h.cells i s hs x hx).less hl
 ·intro y hy
  rcases List.mem_append.1 hy with hy | hy
  ·exact (hz y hy).1.less hl
  ·exact (h.hand y hy).less hl
 ·exact fun b => Nat.le_trans (hl.own b) (h.cnt b)
theorem own_rd {g : Bool} {v : A} (hs : Shp' E.sid w C g v) : Rd E.sid w (fun b j => C b j ∨ InC v b j) v := by
 cases g with
 | false =>
  have hs' : Shp E.sid w C v := by simpa [Shp'] using hs
  exact hs'.rd.mono (fun _ _ => .inr) (fun _ _ _ => rfl)
 | true => exact grown_rd (by simpa [Shp'] using hs)
theorem cpy_lift (h : Inv E S X C a w) {s c : Nat} {x : Cell Tg} (hx : cellAt S s c = some x) :
  ∃ C1 z, z.er = cpy s c x.er ∧ z.v = x.v ∧ hold z.f = false ∧ Inv E S (z :: X) C1 a w ∧ ∀ b j, C b j → C1 b j := by
 obtain ⟨sl, hs, hc⟩ := cellAt_some hx
 have hm : x ∈ cellsAll S X := mem_cellsAll hs (List.mem_of_getElem? hc)
 have hk := h.ok x hm
 have plain : hold x.f = false → cpy s c x.er = x.er → ∃ C1 z, z.er = cpy s c x.er ∧ z.v = x.v ∧ hold z.f = false ∧ Inv E S (z :: X) C1 a w ∧ ∀ b j, C b j → C1 b j := by
  intro ho he
  exact ⟨C, x, he.symm, rfl, ho, h.addAll [x] (by simp only [List.mem_singleton]; rintro z rfl; exact ⟨hk, ho, .inr hm⟩), fun _ _ => id⟩
 have self : ∀ y, cellAt S s c = some y → y = x := fun y hy => Option.some.inj (hy.symm.trans hx)
 have owned : ∀ g, (x.f = .ow g ∨ x.f = .nw g) → cpy s c x.er = ⟨x.v.er, .cp (if g then .grn else .own) s c none⟩ → ∃ C1 z, z.er = cpy s c x.er ∧ z.v = x.v ∧ hold z.f = false ∧ Inv E S (z :: X) C1 a w ∧ ∀ b j, C b j → C1 b j := by
  intro g hg he
  have ho : owns x.f = true := by rcases hg with hg | hg <;> rw [hg] <;> rfl
  have hk' : isRow x.v = true ∧ Shp' E.sid w C g x.v ∧ ∀ b ∈ x.v.blks, E.base ≤ b := by
   obtain ⟨v, f⟩ := x
   rcases hg with hg | hg <;> (simp only at hg; subst hg; exact hk)
  have hi := h.commit hm ho
  have hnd := h.nodupOwn hm ho
  refine ⟨_, ⟨x.v, .cp (if g then .grn else .own) s c none⟩, by rw [he]; rfl, rfl, rfl, hi.addAll [_] ?_, fun _ _ => .inl⟩
  simp only [List.mem_singleton]
  rintro z rfl
  refine ⟨⟨hk'.1, own_rd hk'.2.1, ⟨⟨x, hx, hk'.1⟩, fun y hy _ => by rw [self y hy]⟩, fun e => ?_⟩, rfl, .inl (by simp)⟩
  cases g with
  | true => simp at e
  | false =>
   have hs' : Shp E.sid w C x.v := by simpa [Shp'] using hk'.2.1
   exact ⟨hs'.mono (fun _ _ _ hf => hf.elim) (fun _ _ => rfl), hnd, hk'.2.2⟩
 obtain ⟨v, f⟩ := x
 cases f with
 | ow g => exact owned g (.inl rfl) (by cases g <;> rfl)
 | nw g => exact owned g (.inr rfl) (by cases g <;> rfl)
 | mp i =>
  have hi := h.commit hm rfl
  have hk' : Shp E.sid w C v ∧ (∃ t es, v = .row t es ∧ E.mt i = some (t, es.length)) ∧ ∀ b ∈ v.blks, E.base ≤ b ∨ E.chg b := hk
  obtain ⟨t, es, hv, _⟩ := hk'.2.1
  have hr : isRow v = true := by rw [hv]; rfl
  refine ⟨_, ⟨v, .cp .chg s c none⟩, rfl, rfl, rfl, hi.addAll [_] ?_, fun _ _ => .inl⟩
  simp only [List.mem_singleton]
  rintro z rfl
  exact ⟨⟨hr, hk'.1.rd.mono (fun _ _ => .inr) (fun _ _ _ => rfl), ⟨⟨_, hx, hr⟩, fun y hy _ => by rw [self y hy]⟩, by simp⟩, rfl, .inl (by simp)⟩
 | os n =>
  refine ⟨C, ⟨v, .cp .spn s c none⟩, rfl, rfl, rfl, h.addAll [_] ?_, fun _ _ => id⟩
  simp only [List.mem_singleton]
  rintro z rfl
  exact ⟨⟨hk.1, hk.2.1, ⟨⟨_, hx, hk.1⟩, fun y hy _ => by rw [self y hy]⟩, by simp⟩, rfl, .inl (by simp)⟩
 | _ => exact plain rfl rfl
theorem cpys_lift : ∀ (cs : List (Cell Tg)) (c : Nat) {X : List (Cell Tg)} {C : Nat → Nat → Prop}, Inv E S X C a w → ∀ {s : Nat}, (∀ j x, cs[j]? = some x → cellAt S s (c + j) = some x) →
  ∃ C1 zs, zs.map Cell.er = cpys s c (cs.map Cell.er) ∧ zs.map (·.v) = cs.map (·.v) ∧ (∀ z ∈ zs, hold z.f = false) ∧ Inv E S (zs ++ X) C1 a w ∧ ∀ b j, C b j → C1 b j
 | [], c, X, C, h, s, _ => ⟨C, [], rfl, rfl, by simp, h, fun _ _ => id⟩
 | x :: cs, c, X, C, h, s, hc => by
  obtain ⟨C1, z, h1, h2, h3, h4, h5⟩ := cpy_lift h (hc 0 x rfl)
  obtain ⟨C2, zs, k1, k2, k3, k4, k5⟩ := cpys_lift cs (c + 1) h4 (s := s) (fun j y hy => by
   have := hc (j + 1) y (by simpa using hy)
   rwa [show c + 1 + j = c + (j + 1) by omega])
  refine ⟨C2, z :: zs, ?_, ?_, ?_, k4.perm List.perm_middle, fun b j hh => k5 b j (h5 b j hh)⟩
  ·simp only [List.map_cons, cpys]
   rw [k1, h1]; rfl
  ·simp only [List.map_cons, k2, h2]
  ·intro y hy
   rcases List.mem_cons.1 hy with rfl | hy
   ·exact h3
   ·exact k3 y hy
theorem part_lift (h : Inv E S X C a w) {i : Nat} {s : SA} (hs : S[i]? = some s) (off n : Nat) :
  ∃ C1 zs, zs.map Cell.er = cpys i off ((s.er.cs.drop off).take n) ∧ zs.map (·.v) = ((s.cs.drop off).take n).map (·.v) ∧ (∀ z ∈ zs, hold z.f = false) ∧ Inv E S (zs ++ X) C1 a w ∧ ∀ b j, C b j → C1 b j := by
 have := cpys_lift ((s.cs.drop off).take n) off h (s := i) (fun j x hx => by
  rw [List.getElem?_take] at hx
  split at hx
  ·rw [List.getElem?_drop] at hx
   exact cellAt_of hs hx
  ·cases hx)
 rwa [List.map_take, List.map_drop] at this
theorem whole_lift (h : Inv E S X C a w) {i : Nat} {s : SA} (hs : S[i]? = some s) :
  ∃ C1 zs, zs.map Cell.er = cpys i 0 s.er.cs ∧ zs.map (·.v) = s.cs.map (·.v) ∧ (∀ z ∈ zs, hold z.f = false) ∧ Inv E S (zs ++ X) C1 a w ∧ ∀ b j, C b j → C1 b j := by
 exact cpys_lift s.cs 0 h (s := i) (fun j x hx => by rw [Nat.zero_add]; exact cellAt_of hs hx)
theorem made_cells {zs : List (Cell Tg)} (h : Inv E S (zs ++ X) C a w) {agg : Bool} {v : Value}
  (hv : if agg then v = .agg (zs.map (·.v.val E.sid)).toArray else ∃ z, zs = [z] ∧ v = z.v.val E.sid) : Made E S X C a w ⟨if agg then .agg else .val, zs⟩ v := by
 cases agg
 ·exact ⟨h, fun _ => by simpa [SlV] using hv, by simp, by simp, by simp⟩
 ·exact ⟨h, fun _ => by simpa [SlV] using hv, by simp, by simp, by simp⟩
theorem sound_move (hf : Fits E cx) (h : Inv E S X C a w) {o : Oper} {ox : Operand} {x : Opd} (ho : o.op = .move ox) (hx : cOpd cx ox = some x)
  {s : SU} {st1 : St} (hr : (evalIr cx.nt (.move x)).run (erS S) = some (s, st1)) : Makes E X a w o s st1 := by
 unfold evalIr at hr
 obtain ⟨sl, st2, h1, h2⟩ := FM.bind_some hr
 obtain ⟨rfl, s0, rfl, hop⟩ := opd_lift hf h hx h1
 have hex : (execOp a.eval o).run E.P w = .ok (.value (a.eval ox)) w := by unfold execOp; rw [ho]; rfl
 cases hop with
 | slot i s0 hi hs hv =>
  obtain ⟨C1, zs, e1, e2, e3, e4, e5⟩ := whole_lift h hs
  have e2' : zs.map (·.v.val E.sid) = s0.cs.map (·.v.val E.sid) := map_val e2
  rw [er_kind] at h2
  cases hk : s0.k <;> rw [hk] at h2 <;> simp only [Kd.er] at h2 <;> unfold SlV at hv <;> rw [hk] at hv
  case val =>
   obtain ⟨rfl, rfl⟩ := ret_run h2
   obtain ⟨c, hc, hv⟩ := hv
   obtain ⟨z, hz, hzv⟩ := map_single e2 hc
   refine ⟨_, w, S, C1, ⟨.val, zs⟩, hex, rfl, by simp [Sl.er, Kd.er, e1], ?_, Frame.refl E w⟩
   exact made_cells (agg := false) e4 ⟨z, hz, by rw [hv]; exact congrArg _ hzv.symm⟩
  case agg =>
   obtain ⟨rfl, rfl⟩ := ret_run h2
   refine ⟨_, w, S, C1, ⟨.agg, zs⟩, hex, rfl, by simp [Sl.er, Kd.er, e1], ?_, Frame.refl E w⟩
   exact made_cells (agg := true) e4 (by simp only [if_true, e2']; exact hv)
  case tup sh =>
   obtain ⟨rfl, rfl⟩ := ret_run h2
   refine ⟨_, w, S, C1, ⟨.tup sh, zs⟩, hex, rfl, by simp [Sl.er, Kd.er, e1], ?_, Frame.refl E w⟩
   exact ⟨e4, fun _ => by simp only [SlV, e2']; exact hv, by simp, by simp, by simp⟩
  case ptr r off =>
   obtain ⟨rfl, rfl⟩ := ret_run h2
   have hemp := h.emp i s0 hs (.inr (.inr (.inl ⟨r, off, hk⟩)))
   refine ⟨_, w, S, C, s0, hex, rfl, rfl, ?_, Frame.refl E w⟩
   exact ⟨by rw [hemp]; exact h, fun _ => by unfold SlV; rw [hk]; exact hv, by rw [hk]; simp, by rw [hk]; simp, fun _ => hemp⟩
  case clo g rs =>
   obtain ⟨rfl, rfl⟩ := ret_run h2
   have hemp := h.emp i s0 hs (.inr (.inr (.inr ⟨g, rs, hk⟩)))
   refine ⟨_, w, S, C, s0, hex, rfl, rfl, ?_, Frame.refl E w⟩
   exact ⟨by rw [hemp]; exact h, fun _ => by unfold SlV; rw [hk]; exact hv, by rw [hk]; simp, by rw [hk]; simp, fun _ => hemp⟩
  all_goals simp [FM.run] at h2
 | const agg vs s0 hk he hok hv h1' =>
  have hadd : Inv E S (s0.cs ++ X) C a w := h.addAll s0.cs fun z hz => ⟨(hok z hz).1, (hok z hz).2.1, .inl (taken_noap (hok z hz).2.2)⟩
  rw [he] at h2
  cases agg with
  | true =>
   obtain ⟨rfl, rfl⟩ := ret_run h2
   refine ⟨_, w, S, C, s0, hex, rfl, he, ?_, Frame.refl E w⟩
   obtain ⟨k, cs⟩ := s0
   simp only [if_true] at hk hv
   subst hk
   exact made_cells (agg := true) hadd (by simpa using hv)
  | false =>
   obtain ⟨rfl, rfl⟩ := ret_run h2
   refine ⟨_, w, S, C, s0, hex, rfl, he, ?_, Frame.refl E w⟩
   obtain ⟨z, hz⟩ := h1' rfl
   obtain ⟨k, cs⟩ := s0
   simp only [Bool.false_eq_true, if_false] at hk hv hz
   subst hk; subst hz
   exact made_cells (agg := false) hadd ⟨z, rfl, by simpa using hv⟩
 | fn g hv =>
  obtain ⟨rfl, rfl⟩ := ret_run h2
  have hcok : COk E w C S X ⟨.fn g [], .sh⟩ := .fn g [] (by simp) (by simp)
  refine ⟨_, w, S, C, ⟨.val, [⟨.fn g [], .sh⟩]⟩, hex, rfl, rfl, ?_, Frame.refl E w⟩
  exact made_cells (agg := false) (h.add rfl (by simp) hcok) ⟨_, rfl, by rw [hv]; simp [VA.val]⟩
end
end Go.Vm
end
section
namespace Go.Vm
section
variable {E : Env} {cx : Cx} {S : StA} {X : List (Cell Tg)} {C : Nat → Nat → Prop} {a : Act} {w : World}
theorem loadS_run {agg : Bool} {cs : List (Cell Unit)} {st st1 : St} {s : SU} (h : (loadS agg cs).run st = some (s, st1)) :
  st1 = st ∧ s = ⟨if agg then .agg else .val, cs⟩ ∧ (agg = false → ∃ c, cs = [c]) := by
 unfold loadS at h
 cases agg with
 | true => obtain ⟨rfl, rfl⟩ := ret_run h; exact ⟨rfl, rfl, by simp⟩
 | false =>
  simp only at h
  split at h
  ·rename_i c
   obtain ⟨rfl, rfl⟩ := ret_run h
   exact ⟨rfl, rfl, fun _ => ⟨c, rfl⟩⟩
  ·simp [FM.run] at h
theorem aggOf_agg {P : Program} {t : TypeId} {n : Nat} (h : aggOf P t = some (true, n)) : (isAgg t).run P w = .ok true w ∧ (sizeOf t).run P w = .ok n w := by
 unfold aggOf at h
 cases hu : P.underlying t with
 | none => simp [hu] at h
 | some d =>
  have hi : ∃ i, P.info? t = some i := by
   cases hi : P.info? t with
   | none => simp [Program.underlying, hi] at hu
   | some i => exact ⟨i, rfl⟩
  obtain ⟨i, hi⟩ := hi
  cases d <;> simp [hu] at h <;> (subst h; constructor <;> simp [isAgg, sizeOf, typeInfo, run_underlying hu, hi, Program.cellsOf])
theorem aggOf_val {P : Program} {t : TypeId} {n : Nat} (h : aggOf P t = some (false, n)) : (isAgg t).run P w = .ok false w ∧ n = 1 := by
 unfold aggOf at h
 cases hu : P.underlying t with
 | none => simp [hu] at h
 | some d => cases d <;> simp [hu] at h <;> (subst h; simp [isAgg, run_underlying hu])
theorem run_part {P : Program} {t : TypeId} {g : Bool} {n : Nat} (h : aggOf P t = some (g, n)) (cs : List Value) (off : Nat) (hlt : off + n ≤ cs.length) :
  (part t cs.toArray off).run P w = .ok (if g then .agg ((cs.drop off).take n).toArray else ((cs.drop off).take n).headD undef) w := by
 cases g with
 | true =>
  obtain ⟨h1, h2⟩ := aggOf_agg (w := w) h
  simp [part, h1, h2]
 | false =>
  obtain ⟨h1, rfl⟩ := aggOf_val (w := w) h
  have hl : off < cs.length := by omega
  have h2 : (cs.drop off).take 1 = [cs[off]] := by rw [List.drop_eq_getElem_cons hl]; rfl
  rw [h2]
  simp [part, h1, hl]
theorem sound_field (hf : Fits E cx) (h : Inv E S X C a w) {o : Oper} {t : TypeId} {f : Nat} {fld : Field} {g : Bool} {n : Nat} {ox : Operand} {x : Opd} (ho : o.op = .field t ox f) (hfl : fieldOf E.P t f = some fld)
  (hag : aggOf E.P fld.type = some (g, n)) (hx : cOpd cx ox = some x)
  {s : SU} {st1 : St} (hr : (evalIr cx.nt (.field g fld.offset n x)).run (erS S) = some (s, st1)) : Makes E X a w o s st1 := by
 unfold evalIr at hr
 obtain ⟨sl, st2, h1, h2⟩ := FM.bind_some hr
 clear hr
 obtain ⟨rfl, s0, rfl, hop⟩ := opd_lift hf h hx h1
 cases hop with
 | slot i s0 hi hs hv =>
  rw [er_kind] at h2
  cases hk : s0.k <;> rw [hk] at h2 <;> simp only [Kd.er] at h2 <;> try (simp [FM.run] at h2; done)
  split at h2
  ·rename_i hlt
   obtain ⟨rfl, rfl, h3⟩ := loadS_run h2
   obtain ⟨C1, zs, e1, e2, e3, e4, e5⟩ := part_lift h hs fld.offset n
   unfold SlV at hv
   rw [hk] at hv
   have e2' : zs.map (·.v.val E.sid) = ((s0.cs.drop fld.offset).take n).map (·.v.val E.sid) := map_val e2
   have hlt' : fld.offset + n ≤ (s0.cs.map (·.v.val E.sid)).length := by simpa [er_cells] using hlt
   obtain ⟨fs, hu, hfs⟩ : ∃ fs, E.P.underlying t = some (.struct fs) ∧ fs[f]? = some fld := by
    unfold fieldOf at hfl
    split at hfl
    ·rename_i fs hu; exact ⟨fs, hu, hfl⟩
    ·cases hfl
   refine ⟨_, w, S, C1, ⟨if g then .agg else .val, zs⟩, ?_, rfl, ?_, made_cells e4 (v := if g then .agg (zs.map (·.v.val E.sid)).toArray else (zs.map (·.v.val E.sid)).headD undef) ?_, Frame.refl E w⟩
   ·unfold execOp
    rw [ho]
    have := run_part (w := w) hag _ _ hlt'
    rw [e2', List.map_take, List.map_drop]
    simp only at hv
    simp only [hv]
    simp [Instr.field, run_underlying hu, hfs, asAgg, this]
   ·cases g <;> simp [Sl.er, Kd.er, e1]
   ·cases g with
    | true => simp
    | false =>
     obtain ⟨c, hc⟩ := h3 rfl
     rw [← e1] at hc
     obtain ⟨z, hz⟩ : ∃ z, zs = [z] := by
      cases zs with
      | nil => simp at hc
      | cons z r => cases r with
       | nil => exact ⟨z, rfl⟩
       | cons y r => simp at hc
     subst hz
     simp
  ·simp [FM.run] at h2
 | const agg vs s0 hk he hok hv h1' => split at h2 <;> simp_all [FM.run]
 | fn g hv => simp [Sl.er, Kd.er, FM.run] at h2
theorem tupVals_at : ∀ (sh : List (Bool × Nat)) (i off : Nat) (vs : List Value) {agg : Bool} {o n : Nat}, extractAt sh i off = some (agg, o, n) → off ≤ o ∧
  (tupVals sh (vs.drop off))[i]? = some (if agg then .agg ((vs.drop o).take n).toArray else ((vs.drop o).head?.getD undef))
 | [], i, off, vs, agg, o, n, h => by simp [extractAt] at h
 | (b, m) :: r, 0, off, vs, agg, o, n, h => by
  simp only [extractAt, Option.some.injEq, Prod.mk.injEq] at h
  obtain ⟨rfl, rfl, rfl⟩ := h
  exact ⟨Nat.le_refl _, by simp [tupVals]⟩
 | (b, m) :: r, i + 1, off, vs, agg, o, n, h => by
  simp only [extractAt] at h
  obtain ⟨h1, h2⟩ := tupVals_at r i (off + m) vs h
  refine ⟨by omega, ?_⟩
  simp only [tupVals, List.getElem?_cons_succ, List.drop_drop]
  exact h2
theorem sound_extract (hf : Fits E cx) (h : Inv E S X C a w) {o : Oper} {ix : Nat} {ox : Operand} {x : Opd} (ho : o.op = .extract ox ix) (hx : cOpd cx ox = some x)
  {s : SU} {st1 : St} (hr : (evalIr cx.nt (.extract ix x)).run (erS S) = some (s, st1)) : Makes E X a w o s st1 := by
 unfold evalIr at hr
 obtain ⟨sl, st2, h1, h2⟩ := FM.bind_some hr
 clear hr
 obtain ⟨rfl, s0, rfl, hop⟩ := opd_lift hf h hx h1
 cases hop with
 | slot i s0 hi hs hv =>
  rw [er_kind] at h2
  cases hk : s0.k <;> rw [hk] at h2 <;> simp only [Kd.er] at h2 <;> try (simp [FM.run] at h2; done)
  rename_i sh
  split at h2
  ·rename_i agg off n hex
   split at h2
   ·rename_i hok
    have hr1 := h2
    obtain ⟨rfl, rfl⟩ := ret_run h2
    obtain ⟨C1, zs, e1, e2, e3, e4, e5⟩ := part_lift h hs off n
    unfold SlV at hv
    rw [hk] at hv
    simp only at hv
    obtain ⟨_, hat⟩ := tupVals_at sh ix 0 (s0.cs.map (·.v.val E.sid)) hex
    rw [List.drop_zero] at hat
    clear h2 hr1
    cases agg with
    | true =>
     have e2' : zs.map (·.v.val E.sid) = ((s0.cs.drop off).take n).map (·.v.val E.sid) := map_val e2
     refine ⟨_, w, S, C1, ⟨.agg, zs⟩, ?_, rfl, by simp [Sl.er, Kd.er, e1], made_cells (agg := true) e4 (v := .agg (zs.map (·.v.val E.sid)).toArray) (by simp), Frame.refl E w⟩
     unfold execOp
     rw [ho, e2', List.map_take, List.map_drop]
     simp only [hv]
     simp [Instr.extract, hat]
    | false =>
     have hok' : n = 1 ∧ off < s0.cs.length := by simpa [er_cells] using hok
     obtain ⟨rfl, hlt⟩ := hok'
     have h1c : (s0.cs.drop off).take 1 = [s0.cs[off]] := by rw [List.drop_eq_getElem_cons hlt]; rfl
     rw [h1c] at e2
     obtain ⟨z, hz, hzv⟩ := map_single e2 rfl
     subst hz
     refine ⟨_, w, S, C1, ⟨.val, [z]⟩, ?_, rfl, by simp only [Sl.er, Kd.er, e1]; rfl, made_cells (agg := false) e4 (v := z.v.val E.sid) (by simp), Frame.refl E w⟩
     unfold execOp
     rw [ho]
     simp only [hv]
     simp [Instr.extract, hat, hlt, hzv]
   ·simp [FM.run] at h2
  ·simp [FM.run] at h2
 | const agg vs s0 hk he hok hv h1' => split at h2 <;> simp_all [FM.run]
 | fn g hv => simp [Sl.er, Kd.er, FM.run] at h2
end
end Go.Vm
end
section
namespace Go.Vm
section
variable {E : Env} {cx : Cx} {S : StA} {X : List (Cell Tg)} {C : Nat → Nat → Prop} {a : Act} {w : World}
theorem add_addr (b o j : Nat) : (⟨b, o, none⟩ : Addr).add j = ⟨b, o + j, none⟩ := by
 unfold Addr.add
 split
 ·rename_i h; subst h; rfl
 ·rfl
theorem run_loadAt {P : Program} {t : TypeId} {g : Bool} {n : Nat} (h : aggOf P t = some (g, n)) (b o : Nat) (vs : List Value) (hn : vs.length = n) (hc : ∀ j v, vs[j]? = some v → w.cell? ⟨b, o + j, none⟩ = some v) :
  (Instr.loadAt t (.pointer (some ⟨b, o, none⟩))).run P w = .ok (if g then .agg vs.toArray else vs.headD undef) w := by
 cases g with
 | true =>
  obtain ⟨h1, h2⟩ := aggOf_agg (w := w) h
  have h3 := run_loadCells_list (P := P) (w := w) ⟨b, o, none⟩ vs (fun j v hj => by rw [add_addr]; exact hc j v hj)
  rw [hn] at h3
  simp [Instr.loadAt, Instr.sureAddr, loadVar, h1, h2, h3]
 | false =>
  obtain ⟨h1, rfl⟩ := aggOf_val (w := w) h
  cases vs with
  | nil => simp at hn
  | cons v r =>
   have := hc 0 v rfl
   rw [Nat.add_zero] at this
   simp [Instr.loadAt, Instr.sureAddr, loadVar, h1, this]
theorem makes_load {o : Oper} {t : TypeId} {oa : Operand} (ho : o.op = .load t oa) {g : Bool} {n : Nat} (hag : aggOf E.P t = some (g, n)) {b off : Nat} (hv : a.eval oa = .pointer (some ⟨b, off, none⟩))
  {C1 : Nat → Nat → Prop} {zs : List (Cell Tg)} (hi : Inv E S (zs ++ X) C1 a w) (hn : zs.length = n) (hc : ∀ j (z : Cell Tg), zs[j]? = some z → w.cell? ⟨b, off + j, none⟩ = some (z.v.val E.sid))
  {cs : List (Cell Unit)} (he : zs.map Cell.er = cs) {s : SU} {st1 : St} (hr : (loadS g cs).run (erS S) = some (s, st1)) : Makes E X a w o s st1 := by
 obtain ⟨rfl, rfl, h3⟩ := loadS_run hr
 refine ⟨_, w, S, C1, ⟨if g then .agg else .val, zs⟩, ?_, rfl, ?_, made_cells hi (v := if g then .agg (zs.map (·.v.val E.sid)).toArray else (zs.map (·.v.val E.sid)).headD undef) ?_, Frame.refl E w⟩
 ·have := run_loadAt (w := w) hag b off (zs.map (·.v.val E.sid)) (by simpa using hn) (fun j v hj => by
   rw [List.getElem?_map, Option.map_eq_some_iff] at hj
   obtain ⟨z, hz, rfl⟩ := hj
   exact hc j z hz)
  unfold execOp
  rw [ho]
  simp only [hv]
  rw [Sem.run_bind, this]
  rfl
 ·cases g <;> simp [Sl.er, Kd.er, he]
 ·cases g with
  | true => simp
  | false =>
   obtain ⟨c, hc'⟩ := h3 rfl
   rw [← he] at hc'
   obtain ⟨z, hz⟩ : ∃ z, zs = [z] := by
    cases zs with
    | nil => simp at hc'
    | cons z r => cases r with
     | nil => exact ⟨z, rfl⟩
     | cons y r => simp at hc'
   subst hz
   simp
theorem COk.rdC {x : Cell Tg} (h : COk E w C S X x) (holt : ∀ b j, E.old b j → C b j) (hf : x.f = .fr ∨ x.f = .no ∨ x.f = .sh) : Rd E.sid w C x.v := by
 obtain ⟨v, f⟩ := x
 rcases hf with hf | hf | hf <;> (simp only at hf; subst hf)
 ·exact h.2.1
 ·exact h.2
 ·exact Rd.mono h holt (fun _ _ _ => rfl)
theorem elemFl_lift (h : Inv E S X C a w) {s c : Nat} (hrow : RowAt S s c) : ∀ (cs : List (Cell Tg)) (ix : Nat) (r : List (Cell Unit)), elemFl s c ix (cs.map Cell.er) = some r →
  (∀ x ∈ cs, COk E w C S X x) →
  (∀ y, cellAt S s c = some y → ((∃ g, y.f = .ow g) ∨ ∃ i, y.f = .mp i) → ∃ t es, y.v = .row t es ∧ ∀ j x, cs[j]? = some x → es.flatten[ix + j]? = some x.v) →
  (∀ x ∈ cs, (∀ p q r, x.f ≠ .ap p q r) ∨ x ∈ cellsAll S X) →
  ∃ zs : List (Cell Tg), zs.map Cell.er = r ∧ zs.map (·.v) = cs.map (·.v) ∧ ∀ z ∈ zs, COk E w C S X z ∧ hold z.f = false ∧ ((∀ p q r, z.f ≠ .ap p q r) ∨ z ∈ cellsAll S X)
 | [], ix, r, hr, _, _, _ => by
  simp only [List.map_nil, elemFl, Option.some.injEq] at hr; subst hr
  exact ⟨[], rfl, rfl, by simp⟩
 | x :: cs, ix, r, hr, hok, hsrc, hap => by
  simp only [List.map_cons, elemFl] at hr
  split at hr
  ·cases hr
  ·rename_i r' hr'
   obtain ⟨zs, e1, e2, e3⟩ := elemFl_lift h hrow cs (ix + 1) r' hr' (fun y hy => hok y (List.mem_cons_of_mem _ hy)) (fun y hy hf => by
    obtain ⟨t, es, k1, k2⟩ := hsrc y hy hf
    refine ⟨t, es, k1, fun j z hz => ?_⟩
    have := k2 (j + 1) z (by simpa using hz)
    rwa [show ix + 1 + j = ix + (j + 1) by omega]) (fun y hy => hap y (List.mem_cons_of_mem _ hy))
   have hx := hok x (List.mem_cons_self ..)
   have fin : ∀ z : Cell Tg, z.v = x.v → COk E w C S X z → hold z.f = false → ((∀ p q r, z.f ≠ .ap p q r) ∨ z ∈ cellsAll S X) → z.er :: r' = r →
     ∃ zs : List (Cell Tg), zs.map Cell.er = r ∧ zs.map (·.v) = (x :: cs).map (·.v) ∧ ∀ z ∈ zs, COk E w C S X z ∧ hold z.f = false ∧ ((∀ p q r, z.f ≠ .ap p q r) ∨ z ∈ cellsAll S X) := by
    intro z hzv hz1 hz2 hz3 hz4
    refine ⟨z :: zs, by simp [e1, hz4], by simp [e2, hzv], fun y hy => ?_⟩
    rcases List.mem_cons.1 hy with rfl | hy
    ·exact ⟨hz1, hz2, hz3⟩
    ·exact e3 y hy
   have hcp : CpOk S s c (some ix) x.v := ⟨hrow, fun y hy hf => by
    obtain ⟨t, es, k1, k2⟩ := hsrc y hy (hf.imp id fun h => h.elim id fun e => by cases e.2)
    exact ⟨t, es, k1, by simpa using k2 0 x rfl⟩⟩
   have hrow' : isRow x.er.v = isRow x.v := isRow_er x.v
   split at hr
   ·rename_i hro
    rw [hrow'] at hro
    split at hr
    ·rename_i hfl
     have hfl : x.f = .fr := hfl
     have hfst : Fst E w x.v := by
      obtain ⟨v, f⟩ := x
      simp only at hfl; subst hfl
      exact hx.2.2
     exact fin ⟨x.v, .cp .own s c (some ix)⟩ rfl ⟨hro, hx.rdC h.olt (.inl hfl), hcp, fun _ => hfst⟩ rfl (.inl (by simp)) (by simpa [Cell.er] using hr)
    ·rename_i hfl
     have hfl : x.f = .no := hfl
     exact fin ⟨x.v, .cp .chg s c (some ix)⟩ rfl ⟨hro, hx.rdC h.olt (.inr (.inl hfl)), hcp, by simp⟩ rfl (.inl (by simp)) (by simpa [Cell.er] using hr)
    ·rename_i hfl
     have hfl : x.f = .sh := hfl
     exact fin ⟨x.v, .cp .chg s c (some ix)⟩ rfl ⟨hro, hx.rdC h.olt (.inr (.inr hfl)), hcp, by simp⟩ rfl (.inl (by simp)) (by simpa [Cell.er] using hr)
    ·cases hr
   ·rename_i hro
    rw [hrow'] at hro
    have hno : hold x.f = false := by
     obtain ⟨v, f⟩ := x
     cases f with
     | ow g => exact absurd hx.1 hro
     | nw g => exact absurd hx.1 hro
     | mp i =>
      obtain ⟨t, es, hv, _⟩ := hx.2.1
      simp only at hv hro
      rw [hv] at hro
      exact absurd rfl hro
     | os n => exact absurd hx.1 hro
     | _ => rfl
    exact fin x rfl hx hno (hap x (List.mem_cons_self ..)) (by simpa using hr)
theorem sound_load (hf : Fits E cx) (h : Inv E S X C a w) {o : Oper} {t : TypeId} {oa : Operand} (ho : o.op = .load t oa) {g : Bool} {n : Nat} (hag : aggOf E.P t = some (g, n)) {x : Opd} (hx : cOpd cx oa = some x)
  {s : SU} {st1 : St} (hr : (evalIr cx.nt (.load g n x)).run (erS S) = some (s, st1)) : Makes E X a w o s st1 := by
 unfold evalIr at hr
 obtain ⟨cs, st2, h0, h2⟩ := FM.bind_some hr
 clear hr
 unfold readCells at h0
 obtain ⟨sl, st3, h1, h3⟩ := FM.bind_some h0
 obtain ⟨rfl, s0, rfl, hop⟩ := opd_lift hf h hx h1
 clear h0
 cases hop with
 | slot i s0 hi hs hv =>
  rw [er_kind] at h3
  cases hk : s0.k <;> rw [hk] at h3 <;> simp only [Kd.er] at h3 <;> unfold SlV at hv <;> rw [hk] at hv <;> simp only at hv <;> try (simp [FM.run] at h3; done)
  case val =>
   obtain ⟨c, hc, hv⟩ := hv
   rw [er_cells, hc] at h3
   simp only [List.map_cons, List.map_nil] at h3
   split at h3
   ·rename_i u cs0 heq
    split at h3
    ·rename_i hn
     obtain ⟨rfl, rfl⟩ := ret_run h3
     have hce : c.er = ⟨.ptr u cs0, .sh⟩ := by simpa using heq
     obtain ⟨v, f⟩ := c
     simp only [Cell.er, Cell.mk.injEq] at hce
     obtain ⟨hce, rfl⟩ := hce
     cases v with
     | ptr t' cs' =>
      simp only [VA.er, VA.ptr.injEq] at hce
      have hcs : cs'.map VA.er = cs0 := by rw [← erL_map]; exact hce.2
      have hok := h.cells i s0 hs ⟨.ptr t' cs', .sh⟩ (by simp [hc])
      cases hok with
      | ptr _ _ hcell hrd =>
       have hlen : n ≤ cs'.length := by rw [← hcs] at hn; simpa using hn.1
       obtain ⟨v0, hv0⟩ : ∃ v0, cs'[0]? = some v0 := ⟨cs'[0]'(by omega), List.getElem?_eq_getElem (by omega)⟩
       obtain ⟨b, off, hta, _, _⟩ := hcell 0 v0 hv0
       refine makes_load (X := X) (C1 := C) (b := b) (off := off) (zs := (cs'.take n).map fun v => ⟨v, if scal v then .sc else .sh⟩) ho hag (by rw [hv]; simp [VA.val, hta]) ?_ (by simp [hlen]) ?_ ?_ h2
       ·refine h.addAll _ fun z hz => ?_
        simp only [List.mem_map] at hz
        obtain ⟨v, hv', rfl⟩ := hz
        have hvm : v ∈ cs' := List.mem_of_mem_take hv'
        cases hsc : scal v with
        | true => exact ⟨hsc, rfl, .inl (by simp)⟩
        | false => exact ⟨hrd v hvm, rfl, .inl (by simp)⟩
       ·intro j z hz
        rw [List.getElem?_map, Option.map_eq_some_iff] at hz
        obtain ⟨v, hv', rfl⟩ := hz
        rw [List.getElem?_take] at hv'
        split at hv'
        ·obtain ⟨b', o', h1', _, h3'⟩ := hcell j v hv'
         rw [hta] at h1'
         simp only [Option.some.injEq, Addr.mk.injEq, and_true] at h1'
         obtain ⟨rfl, rfl⟩ := h1'
         exact h3'
        ·cases hv'
       ·rw [← hcs, ← List.map_take, List.map_map, List.map_map]
        apply List.map_congr_left
        intro v _
        simp [Cell.er, ptrCell, scal_er]
     | _ => simp [VA.er] at hce
    ·simp [FM.run] at h3
   ·simp [FM.run] at h3
  case ptr r off =>
   obtain ⟨sb, st4, h4, h5⟩ := FM.bind_some h3
   obtain ⟨h6, rfl⟩ := getS_run h4
   obtain ⟨sb, hsb, rfl⟩ := erS_some h6
   rw [er_kind] at h5
   cases hkb : sb.k <;> rw [hkb] at h5 <;> simp only [Kd.er] at h5 <;> try (simp [FM.run] at h5; done)
   rename_i t'
   split at h5
   ·rename_i hlt
    obtain ⟨rfl, rfl⟩ := ret_run h5
    obtain ⟨b, hb, hv⟩ := hv
    obtain ⟨b', T, k1, k2, _⟩ := h.box r sb t' hsb hkb
    have hbb : b = b' := by
     unfold boxAddr at hb
     rw [hsb] at hb
     obtain ⟨k, cs⟩ := sb
     simp only at hkb; subst hkb
     simp only [k1, Option.some.injEq, Addr.mk.injEq, and_true] at hb
     exact hb.symm
    subst hbb
    obtain ⟨C1, zs, e1, e2, e3, e4, e5⟩ := part_lift h hsb off n
    have hlt' : off + n ≤ sb.cs.length := by simpa [er_cells] using hlt
    have hlen : zs.length = n := by
     have := congrArg List.length e2
     simp at this; omega
    refine makes_load ho hag hv e4 hlen (fun j z hz => ?_) e1 h2
    have hj : (zs.map (·.v))[j]? = some z.v := by simp [hz]
    rw [e2, List.getElem?_map, Option.map_eq_some_iff] at hj
    obtain ⟨y, hy, hyv⟩ := hj
    rw [List.getElem?_take] at hy
    split at hy
    ·rw [List.getElem?_drop] at hy
     rw [cell_of_heap k2]
     simp [hy, hyv]
    ·cases hy
   ·simp [FM.run] at h5
  case ept t' src ix =>
   obtain ⟨b, o', k1, k2, k3⟩ := h.ept i s0 t' src ix hs hk
   obtain ⟨b', o'', k4, hv⟩ := hv
   rw [k1] at k4
   simp only [Option.some.injEq, Addr.mk.injEq, and_true] at k4
   obtain ⟨rfl, rfl⟩ := k4
   cases src with
   | none =>
    simp only at h3
    split at h3
    ·rename_i hn
     obtain ⟨rfl, rfl⟩ := ret_run h3
     have hlen : n ≤ s0.cs.length := by simpa [er_cells] using hn.1
     refine makes_load (X := X) (C1 := C) (zs := s0.cs.take n) ho hag hv ?_ (by simp [hlen]) (fun j z hz => ?_) (by simp [er_cells]) h2
     ·refine h.addAll _ fun z hz => ?_
      have hm := List.mem_of_mem_take hz
      refine ⟨h.cells i s0 hs z hm, ?_, .inr (mem_cellsAll hs hm)⟩
      have := List.all_eq_true.1 hn.2 z.er (by rw [er_cells]; exact List.mem_map_of_mem hm)
      simpa [Cell.er] using this
     ·rw [List.getElem?_take] at hz
      split at hz
      ·exact (k2 j z hz).2
      ·cases hz
    ·simp [FM.run] at h3
   | some p =>
    obtain ⟨s', c'⟩ := p
    simp only at h3
    split at h3
    ·rename_i hn
     obtain ⟨h6, rfl⟩ := opt_run h3
     have hlen : n ≤ s0.cs.length := by simpa [er_cells] using hn
     rw [er_cells, ← List.map_take] at h6
     obtain ⟨zs, e1, e2, e3⟩ := elemFl_lift h k3.1 (s0.cs.take n) ix cs h6 (fun x hx => h.cells i s0 hs x (List.mem_of_mem_take hx)) (fun y hy hf' => by
      obtain ⟨t2, es, m1, m2, m3, m4⟩ := k3.2 y hy hf'
      refine ⟨t2, es, m1, fun j x hx => ?_⟩
      rw [List.getElem?_take] at hx
      split at hx
      ·exact m4 j x hx
      ·cases hx) (fun x hx => .inr (mem_cellsAll hs (List.mem_of_mem_take hx)))
     have hlz : zs.length = n := by
      have := congrArg List.length e2
      simp at this; omega
     refine makes_load (X := X) (C1 := C) ho hag hv (h.addAll zs e3) hlz (fun j z hz => ?_) e1 h2
     have hj : (zs.map (·.v))[j]? = some z.v := by simp [hz]
     rw [e2, List.getElem?_map, Option.map_eq_some_iff] at hj
     obtain ⟨y, hy, hyv⟩ := hj
     rw [List.getElem?_take] at hy
     split at hy
     ·rw [← hyv]; exact (k2 j y hy).2
     ·cases hy
    ·simp [FM.run] at h3
 | const agg vs s0 hk he hok hv h1' =>
  rw [he] at h3
  cases agg with
  | true => simp [FM.run] at h3
  | false =>
   simp only [Bool.false_eq_true, if_false] at h3
   split at h3
   ·rename_i heq
    cases vs with
    | nil => simp at heq
    | cons v r =>
     simp only [List.map_cons, List.cons.injEq] at heq
     have := congrArg Cell.f heq.1
     simp only [constCell] at this
     split at this <;> cases this
   ·simp [FM.run] at h3
 | fn g hv => simp [Sl.er, Kd.er, Cell.er, VA.er, FM.run] at h3
end
end Go.Vm
end
section
namespace Go.Vm
section
variable {E : Env} {cx : Cx} {S : StA} {X : List (Cell Tg)} {C : Nat → Nat → Prop} {a : Act} {w : World}
theorem fieldOf_some {P : Program} {t : TypeId} {f : Nat} {fld : Field} (h : fieldOf P t f = some fld) : ∃ fs, P.underlying t = some (.struct fs) ∧ fs[f]? = some fld := by
 unfold fieldOf at h
 split at h
 ·rename_i fs hu; exact ⟨fs, hu, h⟩
 ·cases h
theorem run_fieldAt {P : Program} {t : TypeId} {f : Nat} {fld : Field} (h : fieldOf P t f = some fld) (hn : P.cellsOf fld.type ≠ 0) (b o : Nat) :
  (Instr.fieldAt t (.pointer (some ⟨b, o, none⟩)) f).run P w = .ok (.pointer (some ⟨b, o + fld.offset, none⟩)) w := by
 obtain ⟨fs, hu, hfs⟩ := fieldOf_some h
 obtain ⟨i, hi⟩ : ∃ i, P.info? fld.type = some i := by
  cases hi : P.info? fld.type with
  | none => simp [Program.cellsOf, hi] at hn
  | some i => exact ⟨i, rfl⟩
 have hsz : i.size ≠ 0 := by simpa [Program.cellsOf, hi] using hn
 simp [Instr.fieldAt, run_underlying hu, hfs, Instr.sureAddr, fieldPlace, sizeOf, typeInfo, hi, hsz, add_addr]
theorem exec_faddr {o : Oper} {t : TypeId} {f : Nat} {fld : Field} {oa : Operand} (ho : o.op = .fieldAddr t oa f) (hfl : fieldOf E.P t f = some fld) (hn : E.P.cellsOf fld.type ≠ 0) {b off : Nat} (hv : a.eval oa = .pointer (some ⟨b, off, none⟩)) :
  (execOp a.eval o).run E.P w = .ok (.value (.pointer (some ⟨b, off + fld.offset, none⟩))) w := by
 unfold execOp
 rw [ho]
 simp only [hv]
 rw [Sem.run_bind, run_fieldAt hfl hn]
 rfl
theorem made_bare (h : Inv E S X C a w) {k : Kd Tg} {v : Value} (hk : k = .und ∨ (∃ r o, k = .ptr r o) ∨ ∃ g rs, k = .clo g rs) (hv : SlV E.sid S ⟨k, []⟩ v) : Made E S X C a w ⟨k, []⟩ v := by
 refine ⟨h, fun _ => hv, ?_, ?_, fun _ => rfl⟩
 ·rcases hk with rfl | ⟨r, o, rfl⟩ | ⟨g, rs, rfl⟩ <;> simp
 ·rcases hk with rfl | ⟨r, o, rfl⟩ | ⟨g, rs, rfl⟩ <;> simp
theorem sound_faddr (hf : Fits E cx) (h : Inv E S X C a w) {o : Oper} {t : TypeId} {f : Nat} {fld : Field} {oa : Operand} {x : Opd} (ho : o.op = .fieldAddr t oa f) (hfl : fieldOf E.P t f = some fld) (hn : E.P.cellsOf fld.type ≠ 0) (hx : cOpd cx oa = some x)
  {s : SU} {st1 : St} (hr : (evalIr cx.nt (.faddr fld.offset x)).run (erS S) = some (s, st1)) : Makes E X a w o s st1 := by
 unfold evalIr at hr
 obtain ⟨sl, st2, h1, h2⟩ := FM.bind_some hr
 clear hr
 obtain ⟨rfl, s0, rfl, hop⟩ := opd_lift hf h hx h1
 cases hop with
 | slot i s0 hi hs hv =>
  rw [er_kind] at h2
  cases hk : s0.k <;> rw [hk] at h2 <;> simp only [Kd.er] at h2 <;> unfold SlV at hv <;> rw [hk] at hv <;> simp only at hv <;> try (simp [FM.run] at h2; done)
  case val =>
   obtain ⟨c, hc, hv⟩ := hv
   rw [er_cells, hc] at h2
   simp only [List.map_cons, List.map_nil] at h2
   split at h2
   ·rename_i u cs0 heq
    split at h2
    ·rename_i hlt
     obtain ⟨rfl, rfl⟩ := ret_run h2
     have hce : c.er = ⟨.ptr u cs0, .sh⟩ := by simpa using heq
     obtain ⟨v, fl⟩ := c
     simp only [Cell.er, Cell.mk.injEq] at hce
     obtain ⟨hce, rfl⟩ := hce
     cases v with
     | ptr t' cs' =>
      simp only [VA.er, VA.ptr.injEq] at hce
      have hcs : cs'.map VA.er = cs0 := by rw [← erL_map]; exact hce.2
      have hok := h.cells i s0 hs ⟨.ptr t' cs', .sh⟩ (by simp [hc])
      cases hok with
      | ptr _ _ hcell hrd =>
       have hlen : fld.offset < cs'.length := by rw [← hcs] at hlt; simpa using hlt
       obtain ⟨b, off, hta, _, _⟩ := hcell 0 _ (List.getElem?_eq_getElem (by omega))
       have hz : Rd E.sid w E.old (.ptr ⟨some ⟨b, off + fld.offset, none⟩, 0, 0⟩ (cs'.drop fld.offset)) := by
        refine .ptr _ _ (fun j v hj => ?_) (fun v hv => hrd v (List.mem_of_mem_drop hv))
        rw [List.getElem?_drop] at hj
        obtain ⟨b', o', k1, k2, k3⟩ := hcell _ v hj
        rw [hta] at k1
        simp only [Option.some.injEq, Addr.mk.injEq, and_true] at k1
        obtain ⟨rfl, rfl⟩ := k1
        exact ⟨b, off + fld.offset, rfl, by rw [Nat.add_assoc]; exact k2, by rw [Nat.add_assoc]; exact k3⟩
       refine ⟨_, w, S, C, ⟨.val, [⟨.ptr ⟨some ⟨b, off + fld.offset, none⟩, 0, 0⟩ (cs'.drop fld.offset), .sh⟩]⟩, exec_faddr (b := b) (off := off) ho hfl hn (by rw [hv]; simp [VA.val, hta]), rfl, ?_, ?_, Frame.refl E w⟩
       ·simp only [Sl.er, Kd.er, List.map_cons, List.map_nil, Cell.er, VA.er, erL_map]
        rw [← hcs, List.map_drop]
       ·exact made_cells (agg := false) (h.addAll [_] (by simp only [List.mem_singleton]; rintro z rfl; exact ⟨hz, rfl, .inl (by simp)⟩)) ⟨_, rfl, rfl⟩
     | _ => simp [VA.er] at hce
    ·simp [FM.run] at h2
   ·simp [FM.run] at h2
  case ptr r off =>
   obtain ⟨rfl, rfl⟩ := ret_run h2
   obtain ⟨b, hb, hv⟩ := hv
   refine ⟨_, w, S, C, ⟨.ptr r (off + fld.offset), []⟩, exec_faddr ho hfl hn hv, rfl, rfl, ?_, Frame.refl E w⟩
   exact made_bare h (.inr (.inl ⟨_, _, rfl⟩)) ⟨b, hb, rfl⟩
  case ept t' src ix =>
   split at h2
   ·rename_i hno
    obtain ⟨rfl, rfl⟩ := ret_run h2
    obtain ⟨b, o', k1, k2, k3⟩ := h.ept i s0 t' src ix hs hk
    obtain ⟨b', o'', k4, hv⟩ := hv
    rw [k1] at k4
    simp only [Option.some.injEq, Addr.mk.injEq, and_true] at k4
    obtain ⟨rfl, rfl⟩ := k4
    have hsub : ∀ z ∈ s0.cs.drop fld.offset, z ∈ s0.cs := fun z hz => List.mem_of_mem_drop hz
    refine ⟨_, w, S, C, ⟨.ept ⟨some ⟨b, o' + fld.offset, none⟩, 0, 0⟩ src (ix + fld.offset), s0.cs.drop fld.offset⟩, exec_faddr ho hfl hn hv, rfl, by simp [Sl.er, Kd.er], ?_, Frame.refl E w⟩
    refine ⟨h.addAll _ fun z hz => ⟨h.cells i s0 hs z (hsub z hz), ?_, .inr (mem_cellsAll hs (hsub z hz))⟩, fun _ => ⟨b, o' + fld.offset, rfl, rfl⟩, by simp, ?_, by simp⟩
    ·have := List.all_eq_true.1 hno z.er (by rw [er_cells]; exact List.mem_map_of_mem (hsub z hz))
     simpa [Cell.er] using this
    ·rintro t2 src2 ix2 heq
     simp only [Kd.ept.injEq] at heq
     obtain ⟨rfl, rfl, rfl⟩ := heq
     refine ⟨b, o' + fld.offset, rfl, fun j x hx => ?_, ?_⟩
     ·rw [List.getElem?_drop] at hx
      have := k2 _ x hx
      rwa [← Nat.add_assoc] at this
     ·cases src with
      | none => trivial
      | some p =>
       obtain ⟨s', c'⟩ := p
       refine ⟨k3.1, fun y hy hf' => ?_⟩
       obtain ⟨t3, es, m1, m2, m3, m4⟩ := k3.2 y hy hf'
       refine ⟨t3, es, m1, ?_, by omega, fun j x hx => ?_⟩
       ·rw [m2, show o' + fld.offset - (ix + fld.offset) = o' - ix by omega]
       ·rw [List.getElem?_drop] at hx
        have := m4 _ x hx
        rwa [← Nat.add_assoc] at this
   ·simp [FM.run] at h2
 | const agg vs s0 hk he hok hv h1' =>
  rw [he] at h2
  cases agg with
  | true => simp [FM.run] at h2
  | false =>
   simp only [Bool.false_eq_true, if_false] at h2
   split at h2
   ·rename_i heq
    cases vs with
    | nil => simp at heq
    | cons v r =>
     simp only [List.map_cons, List.cons.injEq] at heq
     have := congrArg Cell.f heq.1
     simp only [constCell] at this
     split at this <;> cases this
   ·simp [FM.run] at h2
 | fn g hv => simp [Sl.er, Kd.er, Cell.er, VA.er, FM.run] at h2
theorem sound_nilchk (hf : Fits E cx) (h : Inv E S X C a w) {o : Oper} {oa : Operand} {x : Opd} (ho : o.op = .nilCheck oa) (hx : cOpd cx oa = some x)
  {s : SU} {st1 : St} (hr : (evalIr cx.nt (.nilchk x)).run (erS S) = some (s, st1)) : Makes E X a w o s st1 := by
 unfold evalIr at hr
 obtain ⟨sl, st2, h1, h2⟩ := FM.bind_some hr
 clear hr
 obtain ⟨rfl, s0, rfl, hop⟩ := opd_lift hf h hx h1
 cases hop with
 | slot i s0 hi hs hv =>
  rw [er_kind] at h2
  cases hk : s0.k <;> rw [hk] at h2 <;> simp only [Kd.er] at h2 <;> unfold SlV at hv <;> rw [hk] at hv <;> simp only at hv <;> try (simp [FM.run] at h2; done)
  case ptr r off =>
   obtain ⟨rfl, rfl⟩ := ret_run h2
   obtain ⟨b, hb, hv⟩ := hv
   have hemp := h.emp i s0 hs (.inr (.inr (.inl ⟨r, off, hk⟩)))
   refine ⟨.pointer (some ⟨b, off, none⟩), w, S, C, ⟨.ptr r off, []⟩, ?_, rfl, ?_, made_bare h (.inr (.inl ⟨_, _, rfl⟩)) ⟨b, hb, rfl⟩, Frame.refl E w⟩
   ·unfold execOp
    rw [ho]
    simp only [hv]
    rfl
   ·simp [Sl.er, hk, hemp]
 | const agg vs s0 hk he hok hv h1' => rw [he] at h2; cases agg <;> simp [FM.run] at h2
 | fn g hv => simp [Sl.er, Kd.er, FM.run] at h2
theorem rootsOf_lift (h : Inv E S X C a w) : ∀ (is : List Nat) {rs : List Nat} {st1 : St}, (rootsOf is).run (erS S) = some (rs, st1) → (∀ i ∈ is, i < E.nt) →
  st1 = erS S ∧ (∀ r ∈ rs, ∃ b, boxAddr S r = some ⟨b, 0, none⟩) ∧ is.map (fun i => a.tmps.getD i undef) = rs.map fun r => .pointer (boxAddr S r)
 | [], rs, st1, hr, _ => by
  obtain ⟨rfl, rfl⟩ := ret_run hr
  exact ⟨rfl, by simp, rfl⟩
 | i :: is, rs, st1, hr, hlt => by
  unfold rootsOf at hr
  obtain ⟨sl, st2, h1, h2⟩ := FM.bind_some hr
  obtain ⟨h3, rfl⟩ := getS_run h1
  obtain ⟨s0, hs, rfl⟩ := erS_some h3
  have hv := h.slv i s0 (hlt i (List.mem_cons_self ..)) hs
  rw [er_kind] at h2
  split at h2
  ·rename_i r hk
   have hk : s0.k = .ptr r 0 := by
    cases hk' : s0.k <;> rw [hk'] at hk <;> simp [Kd.er] at hk ⊢
    exact hk
   obtain ⟨rs', st3, h4, h5⟩ := FM.bind_some h2
   obtain ⟨rfl, e1, e2⟩ := rootsOf_lift h is h4 (fun j hj => hlt j (List.mem_cons_of_mem _ hj))
   obtain ⟨rfl, rfl⟩ := ret_run h5
   unfold SlV at hv
   rw [hk] at hv
   obtain ⟨b, hb, hv⟩ := hv
   refine ⟨rfl, ?_, ?_⟩
   ·intro r' hr'
    rcases List.mem_cons.1 hr' with rfl | hr'
    ·exact ⟨b, hb⟩
    ·exact e1 r' hr'
   ·simp only [List.map_cons, e2, hv, hb]
  ·simp [FM.run] at h2
theorem tmpsOf_some {cx : Cx} : ∀ {os : List Operand} {ts : List Nat}, tmpsOf cx os = some ts → os = ts.map .tmp ∧ ∀ t ∈ ts, t < cx.nt
 | [], ts, h => by simp [tmpsOf] at h; subst h; simp
 | o :: os, ts, h => by
  cases o with
  | tmp t =>
   simp only [tmpsOf] at h
   split at h
   ·rename_i ht
    rw [Option.map_eq_some_iff] at h
    obtain ⟨ts', h1, rfl⟩ := h
    obtain ⟨e1, e2⟩ := tmpsOf_some h1
    refine ⟨by simp [e1], ?_⟩
    intro t' ht'
    rcases List.mem_cons.1 ht' with rfl | ht'
    ·exact ht
    ·exact e2 t' ht'
   ·cases h
  | _ => simp [tmpsOf] at h
theorem sound_mkfn (hf : Fits E cx) (h : Inv E S X C a w) {o : Oper} {f g : Nat} {first caps : Array Operand} {ts : List Nat} (ho : o.op = .makeFunc (.func f) first caps) (hfi : first.isEmpty = true) (hg : cx.canon f = some g) (ht : tmpsOf cx caps.toList = some ts)
  {s : SU} {st1 : St} (hr : (evalIr cx.nt (.mkfn g ts)).run (erS S) = some (s, st1)) : Makes E X a w o s st1 := by
 unfold evalIr at hr
 obtain ⟨rs, st2, h1, h2⟩ := FM.bind_some hr
 clear hr
 obtain ⟨e1, e2⟩ := tmpsOf_some ht
 obtain ⟨rfl, k1, k2⟩ := rootsOf_lift h ts h1 (fun i hi => hf.nt ▸ e2 i hi)
 obtain ⟨rfl, rfl⟩ := ret_run h2
 have hfi' : first = #[] := by simpa using hfi
 refine ⟨.func (.func (E.sid g)) #[] (rs.map fun r => .pointer (boxAddr S r)).toArray, w, S, C, ⟨.clo g rs, []⟩, ?_, rfl, rfl, made_bare h (.inr (.inr ⟨_, _, rfl⟩)) ⟨k1, rfl⟩, Frame.refl E w⟩
 have hcaps : caps.map a.eval = (rs.map fun r => Value.pointer (boxAddr S r)).toArray := by
  rw [← Array.toList_inj]
  simp only [Array.toList_map, e1, List.map_map]
  exact k2
 unfold execOp
 rw [ho]
 simp only [hcaps, hfi']
 simp [Instr.makeFunc, hf.fn f g hg]
end
end Go.Vm
end
section
namespace Go.Vm
section
variable {E : Env} {cx : Cx} {S : StA} {X : List (Cell Tg)} {C : Nat → Nat → Prop} {a : Act} {w : World}
structure RowR (E : Env) (S : StA) (C : Nat → Nat → Prop) (w : World) (f : Fl) (v : A) : Prop where
 rd : Rd E.sid w C v
 fst : partFl f = .fr → Fst E w v
 old : partFl f = .sh → Rd E.sid w E.old v
 nl : f = .nl → ∃ k, v = .row ⟨none, 0, k⟩ []
 cp : ∀ m s c, f = .cp m s c none → CpOk S s c none v
theorem rowR_of (h : Inv E S X C a w) {z : Cell Tg} (hz : COk E w C S X z) (hm : owns z.f = true → z ∈ cellsAll S X) (hr : isRow z.v = true) (hd : z.f ≠ .dd) (hap : ∀ p q r, z.f ≠ .ap p q r) :
  ∃ C1, Inv E S X C1 a w ∧ (∀ b j, C b j → C1 b j) ∧ RowR E S C1 w z.f z.v := by
 have hold : ∀ {v : A}, Rd E.sid w E.old v → Rd E.sid w C v := fun hh => hh.mono h.olt (fun _ _ _ => rfl)
 obtain ⟨v, f⟩ := z
 simp only at hr hd hap
 cases f with
 | sc => have : scal v = true := hz; cases v <;> simp_all [scal, isRow]
 | sp p q => exact ⟨C, h, fun _ _ => id, ⟨hold hz.2.1, by simp [partFl], fun _ => hz.2.1, by simp, by simp⟩⟩
 | sh => exact ⟨C, h, fun _ _ => id, ⟨hold hz, by simp [partFl], fun _ => hz, by simp, by simp⟩⟩
 | nl =>
  obtain ⟨k, hv⟩ := hz
  have hv : v = .row ⟨none, 0, k⟩ [] := hv
  exact ⟨C, h, fun _ _ => id, ⟨by rw [hv]; exact .row _ _ (by simp) (by simp) (by simp) (by simp), by simp [partFl], by simp [partFl], fun _ => ⟨k, hv⟩, by simp⟩⟩
 | ow g =>
  have hm' := hm rfl
  have hi := h.commit hm' rfl
  have hnd := h.nodupOwn hm' rfl
  refine ⟨_, hi, fun _ _ => .inl, ⟨own_rd hz.2.1, fun e => ?_, by cases g <;> simp [partFl], by simp, by simp⟩⟩
  cases g with
  | true => simp [partFl] at e
  | false =>
   have hs' : Shp E.sid w C v := by simpa [Shp'] using hz.2.1
   exact ⟨hs'.mono (fun _ _ _ hf => hf.elim) (fun _ _ => rfl), hnd, hz.2.2⟩
 | nw g =>
  have hm' := hm rfl
  have hi := h.commit hm' rfl
  have hnd := h.nodupOwn hm' rfl
  refine ⟨_, hi, fun _ _ => .inl, ⟨own_rd hz.2.1, fun e => ?_, by cases g <;> simp [partFl], by simp, by simp⟩⟩
  cases g with
  | true => simp [partFl] at e
  | false =>
   have hs' : Shp E.sid w C v := by simpa [Shp'] using hz.2.1
   exact ⟨hs'.mono (fun _ _ _ hf => hf.elim) (fun _ _ => rfl), hnd, hz.2.2⟩
 | mp i =>
  have hi := h.commit (hm rfl) rfl
  exact ⟨_, hi, fun _ _ => .inl, ⟨hz.1.rd.mono (fun _ _ => .inr) (fun _ _ _ => rfl), by simp [partFl], by simp [partFl], by simp, by simp⟩⟩
 | cp m s c ix =>
  refine ⟨C, h, fun _ _ => id, ⟨hz.2.1, fun e => ?_, by cases m <;> simp [partFl], by simp, ?_⟩⟩
  ·cases m <;> simp [partFl] at e
   exact hz.2.2.2 rfl
  ·rintro m' s' c' heq
   simp only [Fl.cp.injEq] at heq
   obtain ⟨rfl, rfl, rfl, rfl⟩ := heq
   exact hz.2.2.1
 | ap s c ix => exact absurd rfl (hap s c ix)
 | fr => exact ⟨C, h, fun _ _ => id, ⟨hz.2.1, fun _ => hz.2.2, by simp [partFl], by simp, by simp⟩⟩
 | no => exact ⟨C, h, fun _ _ => id, ⟨hz.2, by simp [partFl], by simp [partFl], by simp, by simp⟩⟩
 | os n => exact ⟨C, h, fun _ _ => id, ⟨hz.2.1, by simp [partFl], by simp [partFl], by simp, by simp⟩⟩
 | dd => exact absurd rfl hd
theorem row_lift (hf : Fits E cx) (h : Inv E S X C a w) {ox : Operand} {x : Opd} (hc : cOpd cx ox = some x) {r : List (List V) × Fl} {st1 : St} (hr : (rowOf x).run (erS S) = some (r, st1)) :
  st1 = erS S ∧ ∃ C1 t es, Inv E S X C1 a w ∧ (∀ b j, C b j → C1 b j) ∧ erR es = r.1 ∧ a.eval ox = (VA.row t es : A).val E.sid ∧ RowR E S C1 w r.2 (.row t es) := by
 unfold rowOf at hr
 obtain ⟨c, st2, h1, h2⟩ := FM.bind_some hr
 obtain ⟨rfl, z, rfl, hdd, hok, hv, hat⟩ := one_lift hf h hc h1
 have hsh : ∃ es, z.er.v = .row () es ∧ (∀ p q r, z.er.f ≠ .ap p q r) ∧ r = (es, z.er.f) ∧ st1 = erS S := by
  cases hcv : z.er.v <;> rw [hcv] at h2 <;> (try simp only at h2) <;> try (simp [FM.run] at h2; done)
  rename_i u es
  cases hcf : z.er.f <;> rw [hcf] at h2 <;> (try simp only at h2) <;> try (simp [FM.run] at h2; done)
  all_goals (obtain ⟨rfl, rfl⟩ := ret_run h2; exact ⟨es, rfl, by simp, rfl, rfl⟩)
 obtain ⟨es, hz, hap, rfl, rfl⟩ := hsh
 obtain ⟨t', es', hz', he⟩ := er_row (t := ()) hz
 have hm : owns z.f = true → z ∈ cellsAll S X := by
  intro ho
  rcases hat with ⟨i, _, hi⟩ | ⟨hno, _⟩
  ·obtain ⟨sl, k1, k2⟩ := cellAt_some hi
   exact mem_cellsAll k1 (List.mem_of_getElem? k2)
  ·rw [(hold_false hno).1] at ho; cases ho
 obtain ⟨C1, k1, k2, k3⟩ := rowR_of h hok hm (by rw [hz']; rfl) hdd hap
 refine ⟨rfl, C1, t', es', k1, k2, he, by rw [hv, hz'], ?_⟩
 rw [hz'] at k3
 exact k3
theorem flatten_at {α : Type} {k : Nat} : ∀ {es : List (List α)}, (∀ e ∈ es, e.length = k) → ∀ {j : Nat} {e : List α}, es[j]? = some e → ∀ i, i < k → es.flatten[j * k + i]? = e[i]?
 | [], _, j, e, he, _, _ => by simp at he
 | e' :: es, hk, 0, e, he, i, hi => by
  simp only [List.getElem?_cons_zero, Option.some.injEq] at he
  subst he
  have := hk e' (List.mem_cons_self ..)
  simp only [List.flatten_cons, Nat.zero_mul, Nat.zero_add]
  rw [List.getElem?_append_left (by omega)]
 | e' :: es, hk, j + 1, e, he, i, hi => by
  have hl := hk e' (List.mem_cons_self ..)
  simp only [List.flatten_cons]
  rw [List.getElem?_append_right (by rw [hl, Nat.succ_mul]; omega), hl, Nat.succ_mul, show j * k + k + i - k = j * k + i by omega]
  exact flatten_at (fun x hx => hk x (List.mem_cons_of_mem _ hx)) (by simpa using he) i hi
theorem Rd.sub {sid : Nat → Nat} {R : Nat → Nat → Prop} {t : Tg} {es : List (List A)} (h : Rd sid w R (.row t es)) {v : A} (hv : v ∈ es.flatten) : Rd sid w R v := by
 cases h with
 | row _ _ hk hcap hc hr => exact hr v hv
theorem Fst.sub {t : Tg} {es : List (List A)} (h : Fst E w (.row t es)) {v : A} (hv : v ∈ es.flatten) : Fst E w v := by
 obtain ⟨h1, h2, h3⟩ := h
 refine ⟨?_, ?_, fun b hb => h3 b (blks_mem hv hb)⟩
 ·cases h1 with
  | nil k => simp at hv
  | row b cap k es cur e hb hcap hmax hsize hk hk0 hne htake hC hr => exact hr v hv
 ·simp only [VA.blks, blkR_map, List.nodup_append] at h2
  exact nodup_each h2.2.1 v hv
def elemCellA (f : Fl) (v : A) : Cell Tg := ⟨v, if isRow v then partFl f else if scal v then .sc else .dd⟩
theorem elemCellA_er (f : Fl) (v : A) : (elemCellA f v).er = elemCell f v.er := by simp [elemCellA, elemCell, Cell.er, isRow_er, scal_er]
theorem partFl_cases (f : Fl) : partFl f = .sh ∨ partFl f = .fr ∨ partFl f = .no := by
 cases f <;> simp [partFl]
 case ow g => cases g <;> simp
 case nw g => cases g <;> simp
 case cp m s c ix => cases m <;> simp
theorem elemCellA_ok {f : Fl} {t : Tg} {es : List (List A)} (h : RowR E S C w f (.row t es)) {v : A} (hv : v ∈ es.flatten) :
  COk E w C S X (elemCellA f v) ∧ hold (elemCellA f v).f = false ∧ ∀ p q r, (elemCellA f v).f ≠ .ap p q r := by
 unfold elemCellA
 by_cases hr : isRow v = true
 ·rw [if_pos hr]
  rcases partFl_cases f with e | e | e
  ·rw [e]; exact ⟨(h.old e).sub hv, rfl, by simp⟩
  ·rw [e]; exact ⟨⟨hr, h.rd.sub hv, (h.fst e).sub hv⟩, rfl, by simp⟩
  ·rw [e]; exact ⟨⟨hr, h.rd.sub hv⟩, rfl, by simp⟩
 ·rw [if_neg hr]
  by_cases hs : scal v = true
  ·rw [if_pos hs]; exact ⟨hs, rfl, by simp⟩
  ·rw [if_neg hs]; exact ⟨trivial, rfl, by simp⟩
theorem run_indexAt {P : Program} {t e : TypeId} {i : TypeInfo} (ht : P.underlying t = some (.slice e)) (hi : P.info? e = some i) {b o len cap : Nat} {k : IntKind} {n : Int} (h0 : 0 ≤ n) (h1 : n < len) :
  (Instr.indexAt t (.slice (some ⟨b, o, none⟩) len cap) (.int k n)).run P w = .ok (.pointer (some ⟨b, o + n.toNat * i.size, none⟩)) w := by
 have h01 : 0 ≤ n ∧ n < (len : Int) := ⟨h0, h1⟩
 simp [Instr.indexAt, asIntOf, run_underlying ht, h01, sizeOf, typeInfo, hi, add_addr]
theorem sound_iaddr (hf : Fits E cx) (h : Inv E S X C a w) {o : Oper} {t e : TypeId} {i : TypeInfo} {k : Nat} {ox oi : Operand} {x y : Opd} (ho : o.op = .indexAddr t ox oi) (ht : E.P.underlying t = some (.slice e)) (hi : E.P.info? e = some i) (hk : i.size = k)
  (hx : cOpd cx ox = some x) (hy : cOpd cx oi = some y)
  {s : SU} {st1 : St} (hr : (evalIr cx.nt (.iaddr k x y)).run (erS S) = some (s, st1)) : Makes E X a w o s st1 := by
 unfold evalIr at hr
 obtain ⟨r, st2, h1, h2⟩ := FM.bind_some hr
 clear hr
 obtain ⟨rfl, C1, t', es, hi1, hC1, he, hv, hR⟩ := row_lift hf h hx h1
 obtain ⟨n, st3, h3, h4⟩ := FM.bind_some h2
 obtain ⟨rfl, hn⟩ := int_lift hf h hy h3
 obtain ⟨j, st4, h5, h6⟩ := FM.bind_some h4
 obtain ⟨hj, rfl⟩ := opt_run h5
 obtain ⟨e0, st5, h7, h8⟩ := FM.bind_some h6
 obtain ⟨hej, rfl⟩ := opt_run h7
 split at h8
 ·rename_i hall
  obtain ⟨hk0, hkl, hal⟩ := hall
  obtain ⟨rfl, rfl⟩ := ret_run h8
  rw [← he, erR_map, List.getElem?_map, Option.map_eq_some_iff] at hej
  obtain ⟨e1, he1, rfl⟩ := hej
  have hlen : ∀ x ∈ es, x.length = k := by
   intro x hx
   have := List.all_eq_true.1 hal (x.map VA.er) (by rw [← he, erR_map]; exact List.mem_map_of_mem hx)
   simpa using this
  have hl1 : e1.length = k := hlen e1 (List.mem_of_getElem? he1)
  have hjn : 0 ≤ n.2 ∧ n.2 < (es.length : Int) ∧ j = n.2.toNat := by
   unfold idx at hj
   split at hj
   ·rename_i hh
    simp only [Option.some.injEq] at hj
    rw [← he, erR_map, List.length_map] at hh
    exact ⟨hh.1, hh.2, hj.symm⟩
   ·cases hj
  have hmem : ∀ v ∈ e1, v ∈ es.flatten := fun v hv => List.mem_flatten.2 ⟨e1, List.mem_of_getElem? he1, hv⟩
  have hfl : ∀ q v, e1[q]? = some v → es.flatten[j * k + q]? = some v := by
   intro q v hq
   rw [flatten_at hlen he1 q (by have := (List.getElem?_eq_some_iff.1 hq).1; omega)]
   exact hq
  have hrd := hR.rd
  cases hrd with
  | row _ _ hkk hcap hcell hrdd =>
   obtain ⟨v0, hv0⟩ : ∃ v0, e1[0]? = some v0 := ⟨e1[0]'(by omega), List.getElem?_eq_getElem (by omega)⟩
   obtain ⟨b, off, hta, _, _⟩ := hcell _ v0 (hfl 0 v0 hv0)
   have hta' : t' = ⟨some ⟨b, off, none⟩, t'.cap, t'.k⟩ := by rw [← hta]
   refine ⟨.pointer (some ⟨b, off + j * k, none⟩), w, S, C1, ⟨.ept ⟨some ⟨b, off + j * k, none⟩, 0, 0⟩ (match r.2 with | .cp _ s c none => some (s, c) | _ => none) (j * k), e1.map (elemCellA r.2)⟩, ?_, rfl, ?_, ?_, Frame.refl E w⟩
   ·unfold execOp
    rw [ho]
    rw [hta'] at hv
    simp only [hv, hn, VA.val]
    rw [Sem.run_bind, run_indexAt ht hi hjn.1 hjn.2.1, hk, hjn.2.2]
    rfl
   ·simp only [Sl.er, Kd.er, List.map_map]
    congr 1
    apply List.map_congr_left
    intro v _
    exact elemCellA_er r.2 v
   ·refine ⟨hi1.addAll _ fun z hz => ?_, fun _ => ⟨b, off + j * k, rfl, rfl⟩, by simp, ?_, by simp⟩
    ·simp only [List.mem_map] at hz
     obtain ⟨v, hv, rfl⟩ := hz
     obtain ⟨m1, m2, m3⟩ := elemCellA_ok (X := X) hR (hmem v hv)
     exact ⟨m1, m2, .inl m3⟩
    ·rintro t2 src2 ix2 heq
     simp only [Kd.ept.injEq] at heq
     obtain ⟨rfl, rfl, rfl⟩ := heq
     refine ⟨b, off + j * k, rfl, fun q z hz => ?_, ?_⟩
     ·rw [List.getElem?_map, Option.map_eq_some_iff] at hz
      obtain ⟨v, hv, rfl⟩ := hz
      obtain ⟨b', o', m1, m2, m3⟩ := hcell _ v (hfl q v hv)
      rw [hta] at m1
      simp only [Option.some.injEq, Addr.mk.injEq, and_true] at m1
      obtain ⟨rfl, rfl⟩ := m1
      rw [Nat.add_assoc]
      exact ⟨m2, m3⟩
     ·cases hsrc : (match r.2 with | .cp _ s c none => some (s, c) | _ => none : Option (Nat × Nat)) with
      | none => trivial
      | some p =>
       obtain ⟨s', c'⟩ := p
       obtain ⟨m, hm⟩ : ∃ m, r.2 = .cp m s' c' none := by
        split at hsrc
        ·rename_i m s2 c2 heq
         simp only [Option.some.injEq, Prod.mk.injEq] at hsrc
         obtain ⟨rfl, rfl⟩ := hsrc
         exact ⟨m, heq⟩
        ·cases hsrc
       have hcp := hR.cp m s' c' hm
       refine ⟨hcp.1, fun y hy hf' => ?_⟩
       have := hcp.2 y hy (hf'.imp id .inl)
       simp only at this
       refine ⟨t', es, this, by rw [hta]; simp, by omega, fun q z hz => ?_⟩
       rw [List.getElem?_map, Option.map_eq_some_iff] at hz
       obtain ⟨v, hv, rfl⟩ := hz
       exact hfl q v hv
 ·simp [FM.run] at h8
theorem flatten_part {α : Type} {k : Nat} {es : List (List α)} (hk : ∀ e ∈ es, e.length = k) {l h : Nat} (hl : l ≤ h) (hh : h ≤ es.length) {j : Nat} {c : α} (hc : ((es.take h).drop l).flatten[j]? = some c) : es.flatten[l * k + j]? = some c := by
 have e1 : es = es.take l ++ ((es.take h).drop l ++ es.drop h) := by
  have e2 : (es.take h).drop l ++ es.drop h = es.drop l := by
   have := List.take_append_drop h es
   conv => rhs; rw [← this]
   rw [List.drop_append_of_le_length (by simp; omega)]
  rw [e2, List.take_append_drop]
 have e3 : (es.take l).flatten.length = l * k := by
  rw [flatten_length (k := k) (fun e he => hk e (List.mem_of_mem_take he)), List.length_take, Nat.min_eq_left (by omega)]
 rw [e1, List.flatten_append, List.getElem?_append_right (by rw [e3]; omega), e3, Nat.add_sub_cancel_left, List.flatten_append,
  List.getElem?_append_left (List.getElem?_eq_some_iff.1 hc).1]
 exact hc
theorem Rd.part {sid : Nat → Nat} {R : Nat → Nat → Prop} {t : Tg} {es : List (List A)} (hr : Rd sid w R (.row t es)) {k : Nat} (hk : ∀ e ∈ es, e.length = k) {l h : Nat} (hl : l ≤ h) (hh : h ≤ es.length) :
  Rd sid w R (.row ⟨if t.cap = l then t.a else t.a.map (·.add (l * k)), t.cap - l, k⟩ ((es.take h).drop l)) := by
 cases hr with
 | row _ _ hkk hcap hcell hrd =>
  have hsub : ∀ e ∈ (es.take h).drop l, e ∈ es := fun e he => List.mem_of_mem_take (List.mem_of_mem_drop he)
  refine .row _ _ (fun e he => hk e (hsub e he)) (by simp; omega) (fun j c hc => ?_) (fun c hc => ?_)
  ·have hc' := flatten_part hk hl hh hc
   obtain ⟨b, o, h1, h2, h3⟩ := hcell _ c hc'
   have hne : ¬ t.cap = l := by
    intro e
    have : ((es.take h).drop l).length = 0 := by simp; omega
    rw [List.length_eq_zero_iff] at this
    rw [this] at hc
    simp at hc
   refine ⟨b, o + l * k, by simp [hne, h1, add_addr], by rw [Nat.add_assoc]; exact h2, by rw [Nat.add_assoc]; exact h3⟩
  ·obtain ⟨e, he, hce⟩ := List.mem_flatten.1 hc
   exact hrd c (List.mem_flatten.2 ⟨e, hsub e he, hce⟩)
theorem bound_lift (hf : Fits E cx) (h : Inv E S X C a w) {n d : Nat} {oo : Option Operand} {x : Option Opd} (hc : cOpt cx oo = some x) {r : Nat} {st1 : St} (hr : (bound n d x).run (erS S) = some (r, st1)) :
  st1 = erS S ∧ ((oo = none ∧ r = d) ∨ ∃ k i, oo.map a.eval = some (.int k i) ∧ 0 ≤ i ∧ i ≤ n ∧ r = i.toNat) := by
 cases oo with
 | none =>
  simp only [cOpt, Option.some.injEq] at hc; subst hc
  obtain ⟨rfl, rfl⟩ := ret_run hr
  exact ⟨rfl, .inl ⟨rfl, rfl⟩⟩
 | some ox =>
  simp only [cOpt, Option.map_eq_some_iff] at hc
  obtain ⟨x', hx, rfl⟩ := hc
  unfold bound at hr
  obtain ⟨y, st2, h1, h2⟩ := FM.bind_some hr
  obtain ⟨rfl, hv⟩ := int_lift hf h hx h1
  split at h2
  ·rename_i hb
   obtain ⟨rfl, rfl⟩ := ret_run h2
   exact ⟨rfl, .inr ⟨y.1, y.2, by simp [hv], hb.1, hb.2, rfl⟩⟩
  ·simp [FM.run] at h2
theorem run_sliceT {P : Program} {t e : TypeId} {i : TypeInfo} (ht : P.underlying t = some (.slice e)) (hi : P.info? e = some i) {ad : Option Addr} {len cap : Nat} {lo hi' : Option Value} {l h : Nat}
  (hcap : len ≤ cap) (hh : (hi' = none ∧ h = len) ∨ ∃ k z, hi' = some (.int k z) ∧ 0 ≤ z ∧ z ≤ len ∧ h = z.toNat)
  (hl : (lo = none ∧ l = 0) ∨ ∃ k z, lo = some (.int k z) ∧ 0 ≤ z ∧ z ≤ h ∧ l = z.toNat) :
  (Instr.sliceAt t (.slice ad len cap) lo hi' none).run P w = .ok (.slice (if cap = l then ad else ad.map (·.add (l * i.size))) (h - l) (cap - l)) w := by
 have hb : (Instr.sliceBounds true len cap lo hi' none).run P w = .ok (l, h, cap) w := by
  rcases hh with ⟨rfl, rfl⟩ | ⟨k, z, rfl, h0, h1, rfl⟩ <;> rcases hl with ⟨rfl, rfl⟩ | ⟨k', z', rfl, h0', h1', rfl⟩
  ·simp [Instr.sliceBounds]
  ·simp [Instr.sliceBounds, Instr.sliceBound, asIntOf, h0', h1']
  ·have : z ≤ (cap : Int) := by omega
   simp [Instr.sliceBounds, Instr.sliceBound, asIntOf, h0, this]
  ·have : z ≤ (cap : Int) := by omega
   have h3 : z' ≤ max z 0 := by omega
   simp [Instr.sliceBounds, Instr.sliceBound, asIntOf, h0, this, h0', h3]
 simp [Instr.sliceAt, Instr.slice, run_underlying ht, hb, sizeOf, typeInfo, hi]
theorem sound_slice (hf : Fits E cx) (h : Inv E S X C a w) {o : Oper} {t e : TypeId} {i : TypeInfo} {k : Nat} {ox : Operand} {olo ohi : Option Operand} {x : Opd} {lo hi : Option Opd} (ho : o.op = .slice t ox olo ohi none)
  (ht : E.P.underlying t = some (.slice e)) (hinf : E.P.info? e = some i) (hk : i.size = k) (hx : cOpd cx ox = some x) (hlo : cOpt cx olo = some lo) (hhi : cOpt cx ohi = some hi)
  {s : SU} {st1 : St} (hr : (evalIr cx.nt (.slice k x lo hi)).run (erS S) = some (s, st1)) : Makes E X a w o s st1 := by
 unfold evalIr at hr
 obtain ⟨r, st2, h1, h2⟩ := FM.bind_some hr
 clear hr
 obtain ⟨rfl, C1, t', es, hi1, hC1, he, hv, hR⟩ := row_lift hf h hx h1
 obtain ⟨hb, st3, h3, h4⟩ := FM.bind_some h2
 obtain ⟨rfl, hh⟩ := bound_lift hf h hhi h3
 obtain ⟨lb, st4, h5, h6⟩ := FM.bind_some h4
 obtain ⟨rfl, hl⟩ := bound_lift hf h hlo h5
 split at h6
 ·rename_i hal
  obtain ⟨rfl, rfl⟩ := ret_run h6
  have hlen : ∀ x ∈ es, x.length = k := by
   intro x hx
   have := List.all_eq_true.1 hal (x.map VA.er) (by rw [← he, erR_map]; exact List.mem_map_of_mem hx)
   simpa using this
  have hrl : r.1.length = es.length := by rw [← he, erR_map, List.length_map]
  rw [hrl] at hh
  have hhb : hb ≤ es.length := by
   rcases hh with ⟨_, rfl⟩ | ⟨_, z, _, h0, h1, rfl⟩ <;> omega
  have hlb : lb ≤ hb := by
   rcases hl with ⟨_, rfl⟩ | ⟨_, z, _, h0, h1, rfl⟩ <;> omega
  have hcap : es.length ≤ t'.cap := by
   cases hR.rd with
   | row _ _ _ hcap _ _ => exact hcap
  have hlen2 : ((es.take hb).drop lb).length = hb - lb := by simp; omega
  have hrun := run_sliceT (w := w) ht hinf (ad := t'.a) (lo := olo.map a.eval) (hi' := ohi.map a.eval) (l := lb) (h := hb) hcap
   (hh.imp (fun e => ⟨by rw [e.1]; rfl, e.2⟩) id) (hl.imp (fun e => ⟨by rw [e.1]; rfl, e.2⟩) id)
  rw [hk] at hrun
  have hz : ∀ z : Cell Tg, z = ⟨.row ⟨if t'.cap = lb then t'.a else t'.a.map (·.add (lb * k)), t'.cap - lb, k⟩ ((es.take hb).drop lb), sliceFl r.2⟩ → COk E w C1 S X z ∧ hold z.f = false ∧ ((∀ p q r, z.f ≠ .ap p q r) ∨ z ∈ cellsAll S X) := by
   rintro z rfl
   have hno : sliceFl r.2 = .no → COk E w C1 S X ⟨.row ⟨if t'.cap = lb then t'.a else t'.a.map (·.add (lb * k)), t'.cap - lb, k⟩ ((es.take hb).drop lb), sliceFl r.2⟩ := by
    intro e; rw [e]; exact ⟨rfl, hR.rd.part hlen hlb hhb⟩
   have hsh : partFl r.2 = .sh → sliceFl r.2 = .sh → COk E w C1 S X ⟨.row ⟨if t'.cap = lb then t'.a else t'.a.map (·.add (lb * k)), t'.cap - lb, k⟩ ((es.take hb).drop lb), sliceFl r.2⟩ := by
    intro e1 e; rw [e]; exact (hR.old e1).part hlen hlb hhb
   cases hfl : r.2 with
   | nl =>
    obtain ⟨k', hk'⟩ := hR.nl hfl
    simp only [VA.row.injEq] at hk'
    obtain ⟨rfl, rfl⟩ := hk'
    simp only [List.length_nil, Nat.le_zero] at hhb
    subst hhb
    simp only [Nat.le_zero] at hlb
    subst hlb
    refine ⟨⟨k, ?_⟩, rfl, .inl (by simp [sliceFl])⟩
    simp
   | sp p q => exact ⟨by rw [← hfl]; exact hsh (by rw [hfl]; rfl) (by rw [hfl]; rfl), rfl, .inl (by simp [sliceFl])⟩
   | sh => exact ⟨by rw [← hfl]; exact hsh (by rw [hfl]; rfl) (by rw [hfl]; rfl), rfl, .inl (by simp [sliceFl])⟩
   | _ => exact ⟨by rw [← hfl]; exact hno (by rw [hfl]; rfl), rfl, .inl (by simp [sliceFl])⟩
  refine ⟨_, w, S, C1, ⟨.val, [⟨.row ⟨if t'.cap = lb then t'.a else t'.a.map (·.add (lb * k)), t'.cap - lb, k⟩ ((es.take hb).drop lb), sliceFl r.2⟩]⟩, ?_, rfl, ?_,
   made_cells (agg := false) (hi1.addAll [_] (by simp only [List.mem_singleton]; exact hz)) ⟨_, rfl, rfl⟩, Frame.refl E w⟩
  ·unfold execOp
   rw [ho]
   simp only [hv, VA.val, Option.map_none]
   rw [Sem.run_bind, hrun, hlen2]
   rfl
  ·simp only [Sl.er, Kd.er, List.map_cons, List.map_nil, Cell.er, VA.er]
   rw [erR_map, List.map_drop, List.map_take, ← erR_map, he]
 ·simp [FM.run] at h6
end
end Go.Vm
end
section
namespace Go.Vm
section
variable {E : Env} {cx : Cx} {S : StA} {X : List (Cell Tg)} {C : Nat → Nat → Prop} {a : Act} {w : World}
theorem pushed_grow (w : World) (o : Obj) : Grow w (w.alloc o) := by
 refine ⟨by show _ ≤ (w.heap.push o).size; simp, fun b hb => ?_⟩
 show (w.heap.push o)[b]? = _
 rw [Array.getElem?_push, if_neg (Nat.ne_of_lt hb)]
theorem pushed_new (w : World) (o : Obj) : (w.alloc o).heap[w.heap.size]? = some o := by
 show (w.heap.push o)[w.heap.size]? = _
 simp
theorem pushed_size (w : World) (o : Obj) : w.heap.size < (w.alloc o).heap.size := by
 show _ < (w.heap.push o).size
 simp
theorem pushed_frame (E : Env) (w : World) (o : Obj) (hb : E.base ≤ w.heap.size) : Frame E w (w.alloc o) :=
 ⟨rfl, rfl, rfl, (pushed_grow w o).size, fun b h _ => (pushed_grow w o).block b (Nat.lt_of_lt_of_le h hb)⟩
theorem new_free (h : Inv E S X C a w) : (∀ j, ¬ C w.heap.size j) ∧ w.heap.size ∉ ownAll S X ∧ ∀ j, ¬ E.old w.heap.size j :=
 ⟨fun j hj => Nat.lt_irrefl _ (h.clt _ j hj), fun hm => Nat.lt_irrefl _ (h.ownlt _ hm).1, fun j hj => Nat.lt_irrefl _ (h.clt _ j (h.olt _ j hj))⟩
theorem Inv.apBelow (h : Inv E S X C a w) {b : Nat} (hb : w.heap.size ≤ b) : ∀ x ∈ cellsAll S X, ∀ p q r, x.f = .ap p q r → ∀ y, cellAt S p q = some y → (∃ g, y.f = .ow g) → b ∉ x.v.blks := by
 intro x hx p q r hf y hy hg hm
 have hk := h.ok x hx
 obtain ⟨v, f⟩ := x
 simp only at hf; subst hf
 have := (hk.2.2 y hy hg).1.1.lt b hm
 omega
theorem made_box {zs : List (Cell Tg)} (h : Inv E S (zs ++ X) C a w) (hb : E.base ≤ w.heap.size) (T : TypeId) :
  Made E S X C a (w.alloc (.cells (zs.map (·.v.val E.sid)).toArray T)) ⟨.box ⟨some ⟨w.heap.size, 0, none⟩, 0, 0⟩, zs⟩ (.pointer (some ⟨w.heap.size, 0, none⟩)) := by
 obtain ⟨h1, h2, h3⟩ := new_free h
 refine ⟨h.grow (pushed_grow _ _), by simp, ?_, by simp, by simp⟩
 rintro t heq
 simp only [Kd.box.injEq] at heq
 subst heq
 exact ⟨⟨w.heap.size, T, rfl, pushed_new w _, h1, .inl hb⟩, w.heap.size, rfl, rfl, h2, hb, pushed_size w _, h3, h.apBelow (Nat.le_refl _)⟩
theorem zeroV_some {P : Program} {t : TypeId} {zs : List V} (h : zeroV P t = some zs) :
  ∃ i z, P.info? t = some i ∧ i.zero = some z ∧ z.cells.size = i.size ∧ mapO constV z.cells.toList = some zs := by
 unfold zeroV at h
 split at h
 ·rename_i i hi
  split at h
  ·rename_i z hz
   split at h
   ·rename_i hs
    exact ⟨i, z, hi, hz, hs, h⟩
   ·cases h
  ·cases h
 ·cases h
theorem sound_alloc (h : Inv E S X C a w) (hb : E.base ≤ w.heap.size) {o : Oper} {t : TypeId} {zs : List V} (ho : o.op = .alloc t) (hz : zeroV E.P t = some zs)
  {s : SU} {st1 : St} (hr : (evalIr E.nt (.alloc zs)).run (erS S) = some (s, st1)) : Makes E X a w o s st1 := by
 unfold evalIr at hr
 obtain ⟨rfl, rfl⟩ := ret_run hr
 obtain ⟨i, z, hi, hz1, hz2, hz3⟩ := zeroV_some hz
 obtain ⟨e1, e2, e3⟩ := constCells_ok (E := E) (w := w) (C := C) (S := S) (X := X) hz3
 have hadd : Inv E S (zs.map constCellA ++ X) C a w := h.addAll _ fun z hz => ⟨(e2 z hz).1, (e2 z hz).2.1, .inl (taken_noap (e2 z hz).2.2)⟩
 refine ⟨_, _, S, C, _, ?_, rfl, ?_, made_box hadd hb t, pushed_frame E w _ hb⟩
 ·unfold execOp
  rw [ho]
  simp [Instr.alloc, zeroValue, typeInfo, hi, hz1, newVar, newRow, e3]
 ·simp [Sl.er, Kd.er, e1]
theorem val_cells {sid : Nat → Nat} (v : A) : (v.val sid).cells = #[v.val sid] := by cases v <;> rfl
theorem sound_box (hf : Fits E cx) (h : Inv E S X C a w) (hb : E.base ≤ w.heap.size) {o : Oper} {t : TypeId} {ox : Operand} {x : Opd} (ho : o.op = .box t ox) (hx : cOpd cx ox = some x)
  {s : SU} {st1 : St} (hr : (evalIr cx.nt (.box x)).run (erS S) = some (s, st1)) : Makes E X a w o s st1 := by
 unfold evalIr at hr
 obtain ⟨y, st2, h1, h2⟩ := FM.bind_some hr
 clear hr
 obtain ⟨S1, C1, zs, rfl, e2, e3, e4, e5, e6, e7⟩ := take_lift hf h hx h1
 obtain ⟨rfl, rfl⟩ := ret_run h2
 refine ⟨_, _, S1, C1, _, ?_, rfl, ?_, made_box e4 hb t, pushed_frame E w _ hb⟩
 ·have hc : (a.eval ox).cells = (zs.map (·.v.val E.sid)).toArray := by
   split at e7
   ·rw [e7]; rfl
   ·obtain ⟨z, rfl, hv⟩ := e7
    rw [hv, val_cells]; rfl
  unfold execOp
  rw [ho]
  simp [Instr.box, newVar, newRow, hc]
 ·simp [Sl.er, Kd.er, e2]
end
end Go.Vm
end
section
namespace Go.Vm
section
variable {E : Env} {cx : Cx} {S : StA} {X : List (Cell Tg)} {C : Nat → Nat → Prop} {a : Act} {w w' : World}
theorem Inv.freshC (h : Inv E S X C a w) (hg : Grow w w') {C' : Nat → Nat → Prop} (hC : ∀ b j, C b j → C' b j) (hN : ∀ b j, C' b j → C b j ∨ (w.heap.size ≤ b ∧ b < w'.heap.size)) (hb : E.base ≤ w.heap.size) : Inv E S X C' a w' := by
 have hw := h.grow hg
 have hmono : ∀ b j, C b j → C' b j := hC
 have hrd : ∀ {v : A}, Rd E.sid w' C v → Rd E.sid w' C' v := fun hr => hr.mono hmono (fun _ _ _ => rfl)
 have hne : ∀ {b : Nat}, b < w.heap.size → ∀ j, C' b j → C b j := fun hb j hj => (hN _ j hj).resolve_right (by omega)
 have hshp' : ∀ {g : Bool} {v : A}, Shp' E.sid w C g v → Shp' E.sid w' C g v → Shp' E.sid w' C' g v := by
  intro g v hs hs'
  exact hs'.world (fun _ _ => rfl) (fun b hb j hj => hne (hs.lt b hb) j hj)
 have hcell : ∀ x, COk E w C S X x → COk E w' C S X x → COk E w' C' S X x := by
  intro x hx0 hx
  obtain ⟨v, f⟩ := x
  cases f with
  | ow g => exact ⟨hx.1, hshp' hx0.2.1 hx.2.1, hx.2.2⟩
  | nw g => exact ⟨hx.1, hshp' hx0.2.1 hx.2.1, hx.2.2⟩
  | mp i => exact ⟨hx.1.mono (fun b hb j hj => hne (hx0.1.lt b hb) j hj) (fun _ _ => rfl), hx.2⟩
  | cp ck s c ix => exact ⟨hx.1, hrd hx.2.1, hx.2.2⟩
  | fr => exact ⟨hx.1, hrd hx.2.1, hx.2.2⟩
  | no => exact ⟨hx.1, hrd hx.2⟩
  | os n => exact ⟨hx.1, hrd hx.2.1, hx.2.2.1, hx.2.2.2.mono (fun b hb j hj => hne (hx0.2.2.2.lt b hb) j hj) (fun _ _ => rfl)⟩
  | ap s c ix => exact ⟨hx.1, hx.2.1, fun y hy hyg => ⟨(hx.2.2 y hy hyg).1, (hx.2.2 y hy hyg).2.imp (fun hn b hb => ⟨(hn b hb).1, fun j hj => (hn b hb).2 j (hne ((hx0.2.2 y hy hyg).1.1.lt b hb) j hj)⟩) id⟩⟩
  | _ => exact hx
 refine ⟨hw.len, hw.tsz, hw.nodef, hw.slv, hw.high, hw.emp, hw.lock, hw.noap, ?_, ?_, ?_, ?_, hw.cnt, fun b j ho => hC b j (hw.olt b j ho), ?_, ?_, hw.ownlt⟩
 ·intro i s t hs hk
  obtain ⟨b, T, k1, k2, k3⟩ := h.box i s t hs hk
  obtain ⟨b', T', m1, m2, m3⟩ := hw.box i s t hs hk
  rw [k1] at m1
  simp only [Option.some.injEq, Addr.mk.injEq, and_true] at m1
  subst m1
  exact ⟨b, T', k1, m2, fun j hj => k3.1 j (hne (Array.getElem?_eq_some_iff.1 k2).1 j hj), k3.2⟩
 ·intro i s t src ix hs hk
  obtain ⟨b, o, k1, k2, k3⟩ := hw.ept i s t src ix hs hk
  exact ⟨b, o, k1, fun j y hy => ⟨hC _ _ (k2 j y hy).1, (k2 j y hy).2⟩, k3⟩
 ·exact fun i s hs x hx => hcell x (h.cells i s hs x hx) (hw.cells i s hs x hx)
 ·exact fun x hx => hcell x (h.hand x hx) (hw.hand x hx)
 ·intro b j hj
  rcases hN b j hj with hj | hj
  ·exact hw.clt b j hj
  ·exact hj.2
 ·intro b j hj
  rcases hN b j hj with hj | hj
  ·exact hw.cbase b j hj
  ·exact .inl (by omega)
theorem Inv.swapNew {zs rs : List (Cell Tg)} (h : Inv E S (zs ++ X) C a w) (hg : Grow w w') (hr : ∀ r ∈ rs, COk E w' C S (rs ++ X) r ∧ ∀ p q k, r.f ≠ .ap p q k)
  (hcnt : ∀ b, (rs.flatMap Cell.own).count b ≤ (zs.flatMap Cell.own).count b + if w.heap.size ≤ b then 1 else 0) (hlt : ∀ b ∈ rs.flatMap Cell.own, b < w'.heap.size) : Inv E S (rs ++ X) C a w' := by
 have h1 := h.grow hg
 have hown : ∀ b, (ownAll S (rs ++ X)).count b ≤ (ownAll S (zs ++ X)).count b + if w.heap.size ≤ b then 1 else 0 := by
  intro b
  have := hcnt b
  simp only [ownAll, List.flatMap_append, List.count_append]
  omega
 have hsmall : ∀ b, b < w.heap.size → (ownAll S (rs ++ X)).count b ≤ (ownAll S (zs ++ X)).count b := by
  intro b hb
  have := hown b
  rw [if_neg (by omega)] at this
  omega
 have hzero : ∀ b, w.heap.size ≤ b → (ownAll S (zs ++ X)).count b = 0 := by
  intro b hb
  rw [List.count_eq_zero]
  intro hm
  have := (h.ownlt b hm).1
  omega
 have hcok : ∀ x, COk E w C S (zs ++ X) x → COk E w' C S (zs ++ X) x → COk E w' C S (rs ++ X) x := by
  intro x h0 hx
  obtain ⟨v, f⟩ := x
  cases f with
  | ap s c ix =>
   obtain ⟨k2, k3, k4⟩ := hx
   refine ⟨k2, k3, fun y hy hyg => ⟨(k4 y hy hyg).1, (k4 y hy hyg).2.imp (fun hn b hb => ⟨fun hm => ?_, (hn b hb).2⟩) id⟩⟩
   have hb' : b < w.heap.size := (h0.2.2 y hy hyg).1.1.lt b hb
   have h2 := hsmall b hb'
   have h3 := List.count_pos_iff.2 hm
   exact (hn b hb).1 (List.count_pos_iff.1 (by omega))
  | _ => exact hx
 have hat : ∀ x ∈ cellsAll S X, COk E w C S (zs ++ X) x := by
  intro x hx
  rcases List.mem_append.1 hx with hx | hx
  ·exact h.ok x (List.mem_append.2 (.inl hx))
  ·exact h.ok x (List.mem_append.2 (.inr (List.mem_append.2 (.inr hx))))
 refine ⟨h1.len, h1.tsz, h1.nodef, h1.slv, h1.high, h1.emp, h1.lock, ?_, h1.box, ?_, ?_, ?_, ?_, h1.olt, h1.clt, h1.cbase, ?_⟩
 ·intro l hl hd
  obtain ⟨k1, k2⟩ := h1.noap l hl hd
  refine ⟨k1, fun x hx => ?_⟩
  rcases List.mem_append.1 hx with hx | hx
  ·exact (hr x hx).2
  ·exact k2 x (List.mem_append.2 (.inr hx))
 ·intro i s t src ix hs hk
  obtain ⟨b, o, k1, k2, k3⟩ := h1.ept i s t src ix hs hk
  exact ⟨b, o, k1, k2, k3⟩
 ·intro i s hs x hx
  exact hcok x (h.cells i s hs x hx) (h1.cells i s hs x hx)
 ·intro x hx
  rcases List.mem_append.1 hx with hx | hx
  ·exact (hr x hx).1
  ·exact hcok x (hat x (mem_hand hx)) (h1.hand x (List.mem_append.2 (.inr hx)))
 ·intro b
  by_cases hb : w.heap.size ≤ b
  ·have := hown b
   rw [if_pos hb, hzero b hb] at this
   omega
  ·exact Nat.le_trans (hsmall b (by omega)) (h1.cnt b)
 ·intro b hb
  by_cases hb' : w.heap.size ≤ b
  ·refine ⟨?_, fun j hj => ?_⟩
   ·have h2 := hzero b hb'
    have h3 : b ∉ ownAll S (zs ++ X) := List.count_eq_zero.1 h2
    simp only [ownAll, List.mem_append, List.flatMap_append] at hb h3
    rcases hb with hb | hb | hb
    ·exact absurd (.inl hb) h3
    ·exact hlt b hb
    ·exact absurd (.inr (.inr hb)) h3
   ·have := h.clt b j (h.olt b j hj)
    omega
  ·have h2 := hsmall b (by omega)
   have h3 := List.count_pos_iff.2 hb
   exact h1.ownlt b (List.count_pos_iff.1 (by omega))
theorem Inv.swapNewC {zs rs : List (Cell Tg)} (h : Inv E S (zs ++ X) C a w) (hg : Grow w w') {C' : Nat → Nat → Prop} (hC : ∀ b j, C b j → C' b j) (hN : ∀ b j, C' b j → C b j ∨ (w.heap.size ≤ b ∧ b < w'.heap.size)) (hb : E.base ≤ w.heap.size) (hr : ∀ r ∈ rs, COk E w' C' S (rs ++ X) r ∧ ∀ p q k, r.f ≠ .ap p q k)
  (hcnt : ∀ b, (rs.flatMap Cell.own).count b ≤ (zs.flatMap Cell.own).count b + if w.heap.size ≤ b then 1 else 0) (hlt : ∀ b ∈ rs.flatMap Cell.own, b < w'.heap.size) : Inv E S (rs ++ X) C' a w' := by
 have h1 := h.freshC hg hC hN hb
 have hown : ∀ b, (ownAll S (rs ++ X)).count b ≤ (ownAll S (zs ++ X)).count b + if w.heap.size ≤ b then 1 else 0 := by
  intro b
  have := hcnt b
  simp only [ownAll, List.flatMap_append, List.count_append]
  omega
 have hsmall : ∀ b, b < w.heap.size → (ownAll S (rs ++ X)).count b ≤ (ownAll S (zs ++ X)).count b := by
  intro b hb
  have := hown b
  rw [if_neg (by omega)] at this
  omega
 have hzero : ∀ b, w.heap.size ≤ b → (ownAll S (zs ++ X)).count b = 0 := by
  intro b hb
  rw [List.count_eq_zero]
  intro hm
  have := (h.ownlt b hm).1
  omega
 have hcok : ∀ x, COk E w C S (zs ++ X) x → COk E w' C' S (zs ++ X) x → COk E w' C' S (rs ++ X) x := by
  intro x h0 hx
  obtain ⟨v, f⟩ := x
  cases f with
  | ap s c ix =>
   obtain ⟨k2, k3, k4⟩ := hx
   refine ⟨k2, k3, fun y hy hyg => ⟨(k4 y hy hyg).1, (k4 y hy hyg).2.imp (fun hn b hb => ⟨fun hm => ?_, (hn b hb).2⟩) id⟩⟩
   have hb' : b < w.heap.size := (h0.2.2 y hy hyg).1.1.lt b hb
   have h2 := hsmall b hb'
   have h3 := List.count_pos_iff.2 hm
   exact (hn b hb).1 (List.count_pos_iff.1 (by omega))
  | _ => exact hx
 have hat : ∀ x ∈ cellsAll S X, COk E w C S (zs ++ X) x := by
  intro x hx
  rcases List.mem_append.1 hx with hx | hx
  ·exact h.ok x (List.mem_append.2 (.inl hx))
  ·exact h.ok x (List.mem_append.2 (.inr (List.mem_append.2 (.inr hx))))
 refine ⟨h1.len, h1.tsz, h1.nodef, h1.slv, h1.high, h1.emp, h1.lock, ?_, h1.box, ?_, ?_, ?_, ?_, h1.olt, h1.clt, h1.cbase, ?_⟩
 ·intro l hl hd
  obtain ⟨k1, k2⟩ := h1.noap l hl hd
  refine ⟨k1, fun x hx => ?_⟩
  rcases List.mem_append.1 hx with hx | hx
  ·exact (hr x hx).2
  ·exact k2 x (List.mem_append.2 (.inr hx))
 ·intro i s t src ix hs hk
  obtain ⟨b, o, k1, k2, k3⟩ := h1.ept i s t src ix hs hk
  exact ⟨b, o, k1, k2, k3⟩
 ·intro i s hs x hx
  exact hcok x (h.cells i s hs x hx) (h1.cells i s hs x hx)
 ·intro x hx
  rcases List.mem_append.1 hx with hx | hx
  ·exact (hr x hx).1
  ·exact hcok x (hat x (mem_hand hx)) (h1.hand x (List.mem_append.2 (.inr hx)))
 ·intro b
  by_cases hb : w.heap.size ≤ b
  ·have := hown b
   rw [if_pos hb, hzero b hb] at this
   omega
  ·exact Nat.le_trans (hsmall b (by omega)) (h1.cnt b)
 ·intro b hb
  by_cases hb' : w.heap.size ≤ b
  ·refine ⟨?_, fun j hj => ?_⟩
   ·have h2 := hzero b hb'
    have h3 : b ∉ ownAll S (zs ++ X) := List.count_eq_zero.1 h2
    simp only [ownAll, List.mem_append, List.flatMap_append] at hb h3
    rcases hb with hb | hb | hb
    ·exact absurd (.inl hb) h3
    ·exact hlt b hb
    ·exact absurd (.inr (.inr hb)) h3
   ·have := h.clt b j (h.olt b j hj)
    omega
  ·have h2 := hsmall b (by omega)
   have h3 := List.count_pos_iff.2 hb
   exact h1.ownlt b (List.count_pos_iff.1 (by omega))
theorem flatten_replicate_length {α : Type} (n : Nat) (z : List α) : (List.replicate n z).flatten.length = n * z.length := by
 rw [flatten_length (k := z.length) (by intro e he; rw [List.eq_of_mem_replicate he]), List.length_replicate]
theorem made_row_os {zs : List (Cell Tg)} (h : Inv E S (zs ++ X) C a w) (hb : E.base ≤ w.heap.size) (T : TypeId) {k : Nat} {es : List (List A)} (hk : ∀ e ∈ es, e.length = k) (hk0 : 0 < k) (hmax : es.length ≤ maxLen)
  (hs : ∀ c ∈ es.flatten, Rd E.sid w C c ∧ Fre E c) :
  Made E S X (fun b j => C b j ∨ (b = w.heap.size ∧ j < es.length * k)) a (w.alloc (.cells (es.flatten.map (VA.val E.sid)).toArray T)) ⟨.val, [⟨.row ⟨some ⟨w.heap.size, 0, none⟩, es.length, k⟩ es, .os false⟩]⟩ (.slice (some ⟨w.heap.size, 0, none⟩) es.length es.length) := by
 obtain ⟨h1, h2, h3⟩ := new_free h
 have hlen : es.flatten.length = es.length * k := flatten_length hk
 refine ⟨?_, fun _ => ⟨_, rfl, rfl⟩, by simp, by simp, by simp⟩
 refine h.swapNewC (rs := [⟨.row ⟨some ⟨w.heap.size, 0, none⟩, es.length, k⟩ es, .os false⟩]) (pushed_grow w _) (fun _ _ => .inl) (fun b j hj => hj.imp id (fun e => ⟨Nat.le_of_eq e.1.symm, by rw [e.1]; exact pushed_size w _⟩)) hb ?_ ?_ ?_
 ·intro r hr
  simp only [List.mem_singleton] at hr
  subst hr
  refine ⟨⟨rfl, .row _ _ hk (Nat.le_refl _) (fun j c hc => ⟨w.heap.size, 0, rfl, .inr ⟨rfl, ?_⟩, ?_⟩) (fun c hc => ?_), ?_, ?_⟩, by simp⟩
  ·have := (List.getElem?_eq_some_iff.1 hc).1
   omega
  ·rw [cell_of_heap (pushed_new w _)]
   have hc : es.flatten[j]? = some c := hc
   simp only [Nat.zero_add, List.getElem?_toArray, List.getElem?_map, hc]
   rfl
  ·exact (hs c hc).1.mono (fun _ _ => .inl) (fun b j hj => cell_same ((pushed_grow w _).block b (h.clt b j hj)))
  ·refine ⟨.row _ _ (fun c hc => (hs c hc).2.1), fun b hb' => ?_⟩
   simp only [VA.blks, blkR_map, List.mem_append, List.mem_singleton] at hb'
   rcases hb' with rfl | hb'
   ·exact hb
   ·obtain ⟨c, hc, hbc⟩ := List.mem_flatMap.1 hb'
    exact (hs c hc).2.2 b hbc
  ·refine ⟨_, es, rfl, .inr ⟨w.heap.size, _, T, rfl, pushed_new w _, Nat.le_refl _, hmax, ?_, hk0, by rintro rfl; rfl, fun j hj hc => ?_⟩⟩
   ·rw [List.size_toArray, List.length_map, hlen]
   ·rcases hc with hc | hc
    ·exact h1 j hc
    ·simp only at hj; omega
 ·intro b
  simp only [List.flatMap_cons, List.flatMap_nil, List.append_nil, Cell.own, hold, isOs, owns, VA.top, Bool.false_or, if_true, List.count_singleton]
  by_cases hb' : w.heap.size = b
  ·subst hb'; simp
  ·simp [hb']
 ·intro b hb'
  simp only [List.flatMap_cons, List.flatMap_nil, List.append_nil, Cell.own, hold, isOs, owns, VA.top, Bool.false_or, if_true, List.mem_singleton] at hb'
  subst hb'
  exact pushed_size w _
theorem made_row {zs : List (Cell Tg)} (h : Inv E S (zs ++ X) C a w) (hb : E.base ≤ w.heap.size) (T : TypeId) {k : Nat} {es : List (List A)} (hk : ∀ e ∈ es, e.length = k) (hk0 : 0 < k) (hmax : es.length ≤ maxLen)
  (hs : ∀ c ∈ es.flatten, Shp E.sid w C c ∧ ∀ b ∈ c.blks, E.base ≤ b) (hcnt : ∀ b, (es.flatten.flatMap VA.blks).count b ≤ (zs.flatMap Cell.own).count b) :
  Made E S X C a (w.alloc (.cells (es.flatten.map (VA.val E.sid)).toArray T)) ⟨.val, [⟨.row ⟨some ⟨w.heap.size, 0, none⟩, es.length, k⟩ es, .ow false⟩]⟩ (.slice (some ⟨w.heap.size, 0, none⟩) es.length es.length) := by
 obtain ⟨h1, h2, h3⟩ := new_free h
 have hshp : ∀ c ∈ es.flatten, Shp E.sid (w.alloc (.cells (es.flatten.map (VA.val E.sid)).toArray T)) C c := fun c hc =>
  (hs c hc).1.mono (fun _ _ _ => id) (fun b hb => (pushed_grow w _).block b ((hs c hc).1.lt b hb))
 have hblks : (VA.row ⟨some ⟨w.heap.size, 0, none⟩, es.length, k⟩ es : A).blks = w.heap.size :: es.flatten.flatMap VA.blks := by simp [VA.blks, blkR_map]
 refine ⟨?_, fun _ => ⟨_, rfl, rfl⟩, by simp, by simp, by simp⟩
 refine h.swapNew (rs := [⟨.row ⟨some ⟨w.heap.size, 0, none⟩, es.length, k⟩ es, .ow false⟩]) (pushed_grow w _) ?_ ?_ ?_
 ·intro r hr
  simp only [List.mem_singleton] at hr
  subst hr
  refine ⟨⟨rfl, ?_, ?_⟩, by simp⟩
  ·show Shp' E.sid _ C false _
   simp only [Shp', Bool.false_eq_true, if_false]
   refine .row _ _ _ _ _ T (pushed_new w _) (Nat.le_refl _) hmax ?_ hk hk0 (by rintro rfl; rfl) ?_ (fun j _ => h1 j) hshp
   ·rw [List.size_toArray, List.length_map, flatten_length hk]
   ·exact List.take_of_length_le (by rw [List.length_map, flatten_length hk]; exact Nat.le_refl _)
  ·intro b hb'
   rw [hblks] at hb'
   rcases List.mem_cons.1 hb' with rfl | hb'
   ·exact hb
   ·obtain ⟨c, hc, hbc⟩ := List.mem_flatMap.1 hb'
    exact (hs c hc).2 b hbc
 ·intro b
  simp only [List.flatMap_cons, List.flatMap_nil, List.append_nil, Cell.own, hold, isOs, owns, if_true, hblks, List.count_cons]
  have := hcnt b
  by_cases hb' : w.heap.size = b
  ·subst hb'
   have : (es.flatten.flatMap VA.blks).count w.heap.size = 0 := by
    rw [List.count_eq_zero]
    intro hm
    obtain ⟨c, hc, hbc⟩ := List.mem_flatMap.1 hm
    exact Nat.lt_irrefl _ ((hs c hc).1.lt _ hbc)
   simp [this]
  ·simp [hb']
   split <;> omega
 ·intro b hb'
  simp only [List.flatMap_cons, List.flatMap_nil, List.append_nil, Cell.own, hold, isOs, owns, if_true, hblks] at hb'
  rcases List.mem_cons.1 hb' with rfl | hb'
  ·exact pushed_size w _
  ·obtain ⟨c, hc, hbc⟩ := List.mem_flatMap.1 hb'
   exact Nat.lt_trans ((hs c hc).1.lt _ hbc) (pushed_size w _)
end
end Go.Vm
end
section
namespace Go.Vm
section
variable {E : Env} {cx : Cx} {S : StA} {X : List (Cell Tg)} {C : Nat → Nat → Prop} {a : Act} {w w' : World}
theorem const_shp {x : Value} {v : V} (h : constV x = some v) : Shp E.sid w C (cA v) ∧ (cA v).blks = [] := by
 obtain ⟨_, _, h3, _, _⟩ := constV_cA (sid := E.sid) h
 rcases h3 with h3 | h3
 ·exact ⟨.of_scal h3, blks_scal h3⟩
 ·rw [h3]; exact ⟨.nil 0, by simp [VA.blks, blkR]⟩
theorem consts_shp : ∀ {xs : List Value} {zs : List V}, mapO constV xs = some zs → ∀ c ∈ zs.map cA, Shp E.sid w C c ∧ c.blks = []
 | [], zs, h => by simp [mapO] at h; subst h; simp
 | x :: xs, zs, h => by
  unfold mapO at h
  cases h1 : constV x with
  | none => simp [h1] at h
  | some y => cases h2 : mapO constV xs with
   | none => simp [h1, h2] at h
   | some ys =>
    simp [h1, h2] at h; subst h
    intro c hc
    simp only [List.map_cons, List.mem_cons] at hc
    rcases hc with rfl | hc
    ·exact const_shp h1
    ·exact consts_shp h2 c hc
theorem replicate_at {α : Type} {l : List α} {n j : Nat} (hj : j < n * l.length) : (List.replicate n l).flatten[j]? = l[j % l.length]? := by
 have hl : 0 < l.length := by
  rcases Nat.eq_zero_or_pos l.length with h | h
  ·rw [h] at hj; simp at hj
  ·exact h
 have hd : j / l.length < n := Nat.div_lt_of_lt_mul (by rw [Nat.mul_comm]; exact hj)
 have := flatten_at (k := l.length) (es := List.replicate n l) (by intro e he; rw [List.eq_of_mem_replicate he]) (j := j / l.length) (e := l) (by simp [hd]) (j % l.length) (Nat.mod_lt _ hl)
 rwa [Nat.mul_comm, Nat.div_add_mod] at this
theorem madeCells_eq (z : Array Value) (n : Nat) : madeCells z (n * z.size) = (List.replicate n z.toList).flatten.toArray := by
 rw [← Array.toList_inj]
 apply List.ext_getElem?
 intro j
 by_cases hj : j < n * z.size
 ·rw [replicate_at (l := z.toList) (by simpa using hj)]
  have hz : 0 < z.size := by
   rcases Nat.eq_zero_or_pos z.size with h | h
   ·rw [h] at hj; simp at hj
   ·exact h
  have hm : j % z.size < z.size := Nat.mod_lt _ hz
  simp [madeCells, hj, hm]
 ·rw [List.getElem?_eq_none (by simp [madeCells]; omega), List.getElem?_eq_none (by rw [flatten_replicate_length]; simp; omega)]
theorem elemZ_some {P : Program} {t : TypeId} {zs : List V} (h : elemZ P t = some zs) : ∃ e i, P.underlying t = some (.slice e) ∧ P.info? e = some i ∧ i.bytes ≤ 128 ∧ zeroV P e = some zs := by
 unfold elemZ at h
 split at h
 ·rename_i e he
  split at h
  ·rename_i i hi
   split at h
   ·rename_i hb
    exact ⟨e, i, he, hi, hb, h⟩
   ·cases h
  ·cases h
 ·cases h
theorem sound_mkslice (hf : Fits E cx) (h : Inv E S X C a w) (hb : E.base ≤ w.heap.size) {o : Oper} {t : TypeId} {zs : List V} {ol oc : Operand} {l c : Opd} (ho : o.op = .makeSlice t ol oc) (hz : elemZ E.P t = some zs) (hl : cOpd cx ol = some l) (hc : cOpd cx oc = some c)
  {s : SU} {st1 : St} (hr : (evalIr cx.nt (.mkslice zs l c)).run (erS S) = some (s, st1)) : Makes E X a w o s st1 := by
 unfold evalIr at hr
 obtain ⟨n, st2, h1, h2⟩ := FM.bind_some hr
 clear hr
 obtain ⟨rfl, hv1⟩ := int_lift hf h hl h1
 obtain ⟨m, st3, h3, h4⟩ := FM.bind_some h2
 obtain ⟨rfl, hv2⟩ := int_lift hf h hc h3
 split at h4
 ·rename_i hh
  obtain ⟨hnm, hn0, hlim, hne⟩ := hh
  obtain ⟨rfl, rfl⟩ := ret_run h4
  obtain ⟨e, i, hu, hi, hbytes, hze⟩ := elemZ_some hz
  obtain ⟨i', z, hi', hz1, hz2, hz3⟩ := zeroV_some hze
  rw [hi] at hi'
  obtain rfl := Option.some.inj hi'
  obtain ⟨e1, e2, e3⟩ := constCells_ok (E := E) (w := w) (C := C) (S := S) (X := X) hz3
  have hsh := consts_shp (E := E) (w := w) (C := C) hz3
  have hzl : zs.length = i.size := by
   have := (mapO_some hz3).1
   rw [this, ← hz2]; simp
  have hzpos : 0 < zs.length := by
   cases zs with
   | nil => simp at hne
   | cons v r => simp
  have hlim' : n.2 ≤ 1099511627776 := by simpa [lim] using hlim
  have hmade := made_row (zs := []) (X := X) h hb e (k := zs.length) (es := List.replicate n.2.toNat (zs.map cA)) (by
    intro x hx; rw [List.eq_of_mem_replicate hx, List.length_map]) hzpos (by rw [List.length_replicate]; simp only [maxLen]; omega) (by
    intro x hx
    obtain ⟨y, hy, hxy⟩ := List.mem_flatten.1 hx
    rw [List.eq_of_mem_replicate hy] at hxy
    refine ⟨(hsh x hxy).1, ?_⟩
    rw [(hsh x hxy).2]; simp) (by
    intro b
    rw [List.count_eq_zero.2]
    ·simp
    ·intro hm
     obtain ⟨x, hx, hbx⟩ := List.mem_flatMap.1 hm
     obtain ⟨y, hy, hxy⟩ := List.mem_flatten.1 hx
     rw [List.eq_of_mem_replicate hy] at hxy
     rw [(hsh x hxy).2] at hbx
     simp at hbx)
  refine ⟨_, _, S, C, _, ?_, rfl, ?_, hmade, pushed_frame E w _ hb⟩
  ·have hrun := run_make (P := E.P) w t e i z hu hi hz1 n.1 m.1 n.2 m.2 hn0 (by omega) (by
    have : (i.bytes : Int) * m.2 ≤ 128 * 1099511627776 := Int.mul_le_mul (by omega) (by omega) (by omega) (by omega)
    omega) (by omega)
   have hcells : ((List.replicate n.2.toNat (zs.map cA)).flatten.map (VA.val E.sid)).toArray = madeCells z.cells (m.2.toNat * i.size) := by
    rw [← hz2, madeCells_eq, ← hnm, List.map_flatten, List.map_replicate]
    congr 3
    rw [← e3, List.map_map, List.map_map]
    rfl
   unfold execOp
   rw [ho]
   simp only [hv1, hv2]
   rw [Sem.run_bind, hrun, hcells, hnm, List.length_replicate]
   rfl
  ·simp only [Sl.er, Kd.er, List.map_cons, List.map_nil, Cell.er, VA.er, erR_map, List.map_replicate, List.map_map]
   congr 5
   have : (zs.map constCellA).map (fun x => x.er.v) = (zs.map constCell).map (fun x => x.v) := by
    have := congrArg (List.map (fun x : Cell Unit => x.v)) e1
    simpa [List.map_map] using this
   simp only [List.map_map] at this
   have h5 : zs.map (fun v => (constCell v).v) = zs := by simp [constCell]
   rw [show ((fun x : Cell Unit => x.v) ∘ constCell) = (fun v => (constCell v).v) from rfl, h5] at this
   exact this
 ·simp [FM.run] at h4
end
end Go.Vm
end
section
namespace Go.Vm
theorem foldl_splice : ∀ (vs : List Value) (n off : Nat) (cs : Array Value), ((vs.zipIdx n).foldl (fun cs (p : Value × Nat) => cs.setIfInBounds (off + p.2) p.1) cs).toList = splice cs.toList (off + n) vs
 | [], n, off, cs => rfl
 | v :: vs, n, off, cs => by
  simp only [List.zipIdx_cons, List.foldl_cons, splice]
  rw [foldl_splice vs (n + 1) off, Array.toList_setIfInBounds]
  rfl
theorem splice_map {α β : Type} (f : α → β) : ∀ (xs : List α) (cs : List α) (off : Nat), (splice cs off xs).map f = splice (cs.map f) off (xs.map f)
 | [], cs, off => rfl
 | x :: xs, cs, off => by
  simp only [splice, List.map_cons]
  rw [splice_map f xs, List.map_set]
theorem splice_length {α : Type} : ∀ (xs cs : List α) (off : Nat), (splice cs off xs).length = cs.length
 | [], cs, off => rfl
 | x :: xs, cs, off => by simp [splice, splice_length xs]
theorem splice_mem {α : Type} : ∀ (xs cs : List α) (off : Nat) {y : α}, y ∈ splice cs off xs → y ∈ cs ∨ y ∈ xs
 | [], cs, off, y, h => .inl h
 | x :: xs, cs, off, y, h => by
  rcases splice_mem xs (cs.set off x) (off + 1) h with h | h
  ·rcases List.mem_or_eq_of_mem_set h with h | h
   ·exact .inl h
   ·exact .inr (by simp [h])
  ·exact .inr (List.mem_cons_of_mem _ h)
theorem fill_step {place : Nat → Option (Nat × Nat)} {cells : Array Value} {i off size : Nat} {v : Value} {rest : List (Nat × Value)} (hp : place i = some (off, size)) (hs : v.cells.size = size) (hle : off + v.cells.size ≤ cells.size) :
  Instr.fill place cells ((i, v) :: rest) = Instr.fill place (splice cells.toList off v.cells.toList).toArray rest := by
 have h1 : (v.cells.zipIdx.foldl (fun cs (p : Value × Nat) => cs.setIfInBounds (off + p.2) p.1) cells) = (splice cells.toList off v.cells.toList).toArray := by
  rw [← Array.toList_inj]
  have := foldl_splice v.cells.toList 0 off cells
  rw [Nat.add_zero] at this
  rw [← this, ← Array.foldl_toList, Array.toList_zipIdx]
 have h2 : ¬ (v.cells.size ≠ size || off + v.cells.size > cells.size) = true := by simp [hs]; omega
 rw [← h1]
 conv => lhs; unfold Instr.fill
 simp only [hp]
 rw [if_neg h2]
theorem count_splice {α : Type} (f : α → List Nat) (b : Nat) : ∀ (xs cs : List α) (off : Nat), ((splice cs off xs).flatMap f).count b ≤ (cs.flatMap f).count b + (xs.flatMap f).count b
 | [], cs, off => by simp [splice]
 | x :: xs, cs, off => by
  simp only [splice, List.flatMap_cons, List.count_append]
  have h1 := count_splice f b xs (cs.set off x) (off + 1)
  have h2 : ((cs.set off x).flatMap f).count b ≤ (cs.flatMap f).count b + (f x).count b := by
   cases hc : cs[off]? with
   | none =>
    have : cs.set off x = cs := by rw [List.set_eq_of_length_le]; rw [List.getElem?_eq_none_iff] at hc; exact hc
    rw [this]; omega
   | some y =>
    have := count_set_flatMap f b cs off y x hc
    omega
  omega
section
variable {E : Env} {cx : Cx} {S : StA} {X : List (Cell Tg)} {C : Nat → Nat → Prop} {a : Act} {w w' : World}
theorem less_hand {zs rs : List (Cell Tg)} (h : ∀ b, (rs.flatMap Cell.own).count b ≤ (zs.flatMap Cell.own).count b) : Less S S (zs ++ X) (rs ++ X) := by
 refine ⟨fun b => ?_, fun _ _ h => h, fun s c y _ hy _ => ⟨y, hy, rfl, rfl⟩⟩
 have := h b
 simp only [ownAll, List.flatMap_append, List.count_append]
 omega
theorem Inv.splice {zs cur : List (Cell Tg)} (h : Inv E S (zs ++ (cur ++ X)) C a w) (off : Nat) (hz : ∀ z ∈ zs ++ cur, ∀ p q r, z.f ≠ .ap p q r) :
  Inv E S (Vm.splice cur off zs ++ X) C a w ∧ ∀ z ∈ Vm.splice cur off zs, ∀ p q r, z.f ≠ .ap p q r := by
 have hm : ∀ z ∈ Vm.splice cur off zs, z ∈ zs ++ cur := fun z hz => by
  rcases splice_mem _ _ _ hz with h | h
  ·exact List.mem_append.2 (.inr h)
  ·exact List.mem_append.2 (.inl h)
 refine ⟨?_, fun z hz' => hz z (hm z hz')⟩
 rw [← List.append_assoc] at h
 refine h.rehand (less_hand fun b => ?_) (fun z hz' => ?_) (fun z hz' => ?_)
 ·have := count_splice Cell.own b zs cur off
  simp only [List.flatMap_append, List.count_append]
  omega
 ·rcases List.mem_append.1 hz' with hz' | hz'
  ·exact h.hand z (List.mem_append.2 (.inl (hm z hz')))
  ·exact h.hand z (List.mem_append.2 (.inr hz'))
 ·rcases List.mem_append.1 hz' with hz' | hz'
  ·exact .inl (hz z (hm z hz'))
  ·exact .inr (List.mem_append.2 (.inr hz'))
theorem taken_cells {ox : Operand} {y : Bool} {zs : List (Cell Tg)} (h : if y then a.eval ox = .agg (zs.map (·.v.val E.sid)).toArray else ∃ z, zs = [z] ∧ a.eval ox = z.v.val E.sid) :
  (a.eval ox).cells = (zs.map (·.v.val E.sid)).toArray := by
 split at h
 ·rw [h]; rfl
 ·obtain ⟨z, rfl, hv⟩ := h
  rw [hv, val_cells]; rfl
theorem buildParts_lift (hf : Fits E cx) {pl : List (Nat × Nat)} : ∀ (ps : List (Nat × Operand)) {parts : List (Nat × Nat × Opd)}, cParts cx pl ps = some parts → ∀ {S : StA} {C : Nat → Nat → Prop} {cur : List (Cell Tg)},
  Inv E S (cur ++ X) C a w → (∀ z ∈ cur, ∀ p q r, z.f ≠ .ap p q r) → ∀ {cs : List (Cell Unit)} {st1 : St}, (buildParts parts (cur.map Cell.er)).run (erS S) = some (cs, st1) →
  ∃ S1 C1 zs, erS S1 = st1 ∧ zs.map Cell.er = cs ∧ Inv E S1 (zs ++ X) C1 a w ∧ Same S S1 ∧ (∀ b j, C b j → C1 b j) ∧
   Instr.fill (pl[·]?) (cur.map (·.v.val E.sid)).toArray (ps.map fun p => (p.1, a.eval p.2)) = some (zs.map (·.v.val E.sid)).toArray
 | [], parts, hc, S, C, cur, h, hap, cs, st1, hr => by
  simp only [cParts, Option.some.injEq] at hc; subst hc
  obtain ⟨rfl, rfl⟩ := ret_run hr
  exact ⟨S, C, cur, rfl, rfl, h, ⟨rfl, fun i s hs => ⟨s, hs, rfl, rfl⟩⟩, fun _ _ => id, rfl⟩
 | (i, ox) :: ps, parts, hc, S, C, cur, h, hap, cs, st1, hr => by
  simp only [cParts] at hc
  split at hc
  ·rename_i off n x ps' hi hx hps
   simp only [Option.some.injEq] at hc; subst hc
   unfold buildParts at hr
   obtain ⟨y, st2, h1, h2⟩ := FM.bind_some hr
   obtain ⟨S1, C1, zs, rfl, e2, e3, e4, e5, e6, e7⟩ := take_lift hf h hx h1
   split at h2
   ·rename_i hh
    obtain ⟨hn, hle⟩ := hh
    obtain ⟨k1, k2⟩ := e4.splice off (fun z hz => by
     rcases List.mem_append.1 hz with hz | hz
     ·exact taken_noap (e3 z hz)
     ·exact hap z hz)
    rw [← e2, ← splice_map] at h2
    obtain ⟨S2, C2, rs, rfl, m2, m3, m4, m5, m6⟩ := buildParts_lift hf ps hps k1 k2 h2
    have hcells := taken_cells e7
    have hzl : zs.length = n := by rw [← hn, ← e2, List.length_map]
    refine ⟨S2, C2, rs, rfl, m2, m3, e5.trans m4, fun b j hh => m5 b j (e6 b j hh), ?_⟩
    rw [List.map_cons, fill_step (off := off) (size := n) hi (by rw [hcells]; simpa using hzl) (by
     rw [hcells]
     simp only [List.size_toArray, List.length_map]
     rw [List.length_map] at hle
     omega), hcells]
    rw [splice_map] at m6
    exact m6
   ·simp [FM.run] at h2
  ·cases hc
theorem sound_build (hf : Fits E cx) (h : Inv E S X C a w) {o : Oper} {t : TypeId} {ps : Array (Nat × Operand)} {pl : List (Nat × Nat)} {zs : List V} {parts : List (Nat × Nat × Opd)} (ho : o.op = .build t ps) (hpl : places E.P t = some pl) (hz : zeroV E.P t = some zs)
  (hps : cParts cx pl ps.toList = some parts) {s : SU} {st1 : St} (hr : (evalIr cx.nt (.build zs parts)).run (erS S) = some (s, st1)) : Makes E X a w o s st1 := by
 unfold evalIr at hr
 obtain ⟨cs, st2, h1, h2⟩ := FM.bind_some hr
 clear hr
 obtain ⟨rfl, rfl⟩ := ret_run h2
 obtain ⟨i, z, hi, hz1, hz2, hz3⟩ := zeroV_some hz
 obtain ⟨e1, e2, e3⟩ := constCells_ok (E := E) (w := w) (C := C) (S := S) (X := X) hz3
 have hadd : Inv E S (zs.map constCellA ++ X) C a w := h.addAll _ fun z hz => ⟨(e2 z hz).1, (e2 z hz).2.1, .inl (taken_noap (e2 z hz).2.2)⟩
 rw [← e1] at h1
 obtain ⟨S1, C1, rs, rfl, m2, m3, m4, m5, m6⟩ := buildParts_lift hf ps.toList hps hadd (fun z hz => taken_noap (e2 z hz).2.2) h1
 refine ⟨_, w, S1, C1, ⟨.agg, rs⟩, ?_, rfl, by simp [Sl.er, Kd.er, m2], made_cells (agg := true) m3 (v := .agg (rs.map (·.v.val E.sid)).toArray) (by simp), Frame.refl E w⟩
 have hb : E.P.built t (ps.map fun p => (p.1, a.eval p.2)).toList = some (rs.map (·.v.val E.sid)).toArray := by
  unfold places at hpl
  split at hpl
  ·rename_i fs hu
   unfold Program.built
   rw [hi, hu, Array.toList_map]
   simp only [hz1, hpl]
   rw [e3] at m6
   simpa using m6
  ·cases hpl
 unfold execOp
 rw [ho]
 simp only
 rw [Sem.run_bind]
 rw [run_build w t _ _ hb]
 rfl
end
end Go.Vm
end
section
namespace Go.Vm
section
variable {E : Env} {cx : Cx} {S : StA} {X : List (Cell Tg)} {C : Nat → Nat → Prop} {a : Act} {w w' : World}
theorem Inv.fresh (h : Inv E S X C a w) (hg : Grow w w') {b0 : Nat} (h0 : w.heap.size ≤ b0) (h1 : b0 < w'.heap.size) (hb : E.base ≤ w.heap.size) : Inv E S X (fun b j => C b j ∨ b = b0) a w' :=
 h.freshC hg (fun _ _ => .inl) (fun b j hj => hj.imp id (fun e => by omega)) hb
theorem commitAll : ∀ (zs : List (Cell Tg)) {C : Nat → Nat → Prop}, Inv E S X C a w → (∀ z ∈ zs, z ∈ cellsAll S X) → ∃ C1, Inv E S X C1 a w ∧ (∀ b j, C b j → C1 b j) ∧ ∀ z ∈ zs, owns z.f = true → ∀ b j, InC z.v b j → C1 b j
 | [], C, h, _ => ⟨C, h, fun _ _ => id, by simp⟩
 | z :: zs, C, h, hm => by
  by_cases ho : owns z.f = true
  ·obtain ⟨C1, k1, k2, k3⟩ := commitAll zs (h.commit (hm z (List.mem_cons_self ..)) ho) (fun y hy => hm y (List.mem_cons_of_mem _ hy))
   refine ⟨C1, k1, fun b j hj => k2 b j (.inl hj), fun y hy hoy b j hj => ?_⟩
   rcases List.mem_cons.1 hy with rfl | hy
   ·exact k2 b j (.inr hj)
   ·exact k3 y hy hoy b j hj
  ·obtain ⟨C1, k1, k2, k3⟩ := commitAll zs h (fun y hy => hm y (List.mem_cons_of_mem _ hy))
   refine ⟨C1, k1, k2, fun y hy hoy b j hj => ?_⟩
   rcases List.mem_cons.1 hy with rfl | hy
   ·exact absurd hoy ho
   ·exact k3 y hy hoy b j hj
theorem set_flatten {α : Type} {k : Nat} : ∀ {es : List (List α)} (_ : ∀ e ∈ es, e.length = k) {i : Nat} (_ : i < es.length) {v : List α} (_ : v.length = k), (es.set i v).flatten = splice es.flatten (i * k) v := by
 intro es hk i hi v hv
 have key : ∀ (xs pre mid post : List α), mid.length = xs.length → splice (pre ++ mid ++ post) pre.length xs = pre ++ xs ++ post := by
  intro xs
  induction xs with
  | nil => intro pre mid post h; simp at h; subst h; rfl
  | cons x xs ih =>
   intro pre mid post h
   cases mid with
   | nil => simp at h
   | cons m mid =>
    have hl : mid.length = xs.length := by simpa using h
    have := ih (pre ++ [x]) mid post hl
    simp only [splice]
    have e1 : (pre ++ m :: mid ++ post).set pre.length x = pre ++ [x] ++ mid ++ post := by simp
    rw [e1, show pre.length + 1 = (pre ++ [x]).length by simp, this]
    simp
 have hsplit : es = es.take i ++ es[i] :: es.drop (i + 1) := by simp
 have h1 : es.set i v = es.take i ++ v :: es.drop (i + 1) := by
  rw [List.set_eq_take_append_cons_drop, if_pos hi]
 have hpre : (es.take i).flatten.length = i * k := by
  rw [flatten_length (k := k) (fun e he => hk e (List.mem_of_mem_take he)), List.length_take, Nat.min_eq_left (by omega)]
 rw [h1]
 conv => rhs; rw [hsplit]
 simp only [List.flatten_append, List.flatten_cons]
 have := key v (es.take i).flatten es[i] (es.drop (i + 1)).flatten (by rw [hv]; exact hk _ (List.getElem_mem ..))
 rw [hpre] at this
 simp only [List.append_assoc] at this
 rw [this]
def Keeps (E : Env) (w : World) (zs : List (Cell Tg)) (es : List (List A)) : Prop :=
 (∀ c ∈ es.flatten, ((∀ D, Shp E.sid w D c) ∧ c.blks = []) ∨ ∃ z ∈ zs, z.v = c ∧ z.f = .ow false) ∧
 ∀ b, (es.flatten.flatMap VA.blks).count b ≤ (zs.flatMap Cell.own).count b
theorem scal_shp {v : A} (h : scal v = true) (D : Nat → Nat → Prop) : Shp E.sid w D v := .of_scal h
theorem owned_cells {zs : List (Cell Tg)} (h : ∀ z ∈ zs, COk E w C S X z) (ho : Vm.owned (zs.map Cell.er) = true) :
  (∀ z ∈ zs, ((∀ D, Shp E.sid w D z.v) ∧ z.v.blks = []) ∨ z.f = .ow false) ∧ ∀ b, ((zs.map (·.v)).flatMap VA.blks).count b ≤ (zs.flatMap Cell.own).count b := by
 have h1 : ∀ z ∈ zs, (((∀ D, Shp E.sid w D z.v) ∧ z.v.blks = []) ∨ z.f = .ow false) ∧ ∀ b, z.v.blks.count b ≤ z.own.count b := by
  intro z hz
  have hk := h z hz
  have := List.all_eq_true.1 ho z.er (List.mem_map_of_mem hz)
  obtain ⟨v, f⟩ := z
  simp only [ownedCell, Cell.er] at this
  split at this
  ·have hs : scal v = true := hk
   exact ⟨.inl ⟨fun D => .of_scal hs, blks_scal hs⟩, fun b => by rw [blks_scal hs]; simp⟩
  ·obtain ⟨k, hv⟩ := hk
   have hv : v = .row ⟨none, 0, k⟩ [] := hv
   subst hv
   exact ⟨.inl ⟨fun D => .nil k, by simp [VA.blks, blkR]⟩, fun b => by simp [VA.blks, blkR]⟩
  ·exact ⟨.inr rfl, fun b => by simp [Cell.own, hold, isOs, owns]⟩
  ·cases this
 refine ⟨fun z hz => (h1 z hz).1, fun b => ?_⟩
 clear ho
 induction zs with
 | nil => simp
 | cons z zs ih =>
  have := (h1 z (List.mem_cons_self ..)).2 b
  have := ih (fun y hy => h y (List.mem_cons_of_mem _ hy)) (fun y hy => h1 y (List.mem_cons_of_mem _ hy))
  simp only [List.map_cons, List.flatMap_cons, List.count_append]
  omega
theorem readable_cells {zs : List (Cell Tg)} (h : ∀ z ∈ zs, COk E w C S X z) (holt : ∀ b j, E.old b j → C b j) (hc : ∀ z ∈ zs, owns z.f = true → ∀ b j, InC z.v b j → C b j) (hr : (zs.map Cell.er).all readable = true) (ht : ∀ z ∈ zs, Taken z.f = true) :
  ∀ z ∈ zs, Rd E.sid w C z.v := by
 intro z hz
 have hk := h z hz
 have htz := ht z hz
 have hcz := hc z hz
 have hrd := List.all_eq_true.1 hr z.er (List.mem_map_of_mem hz)
 obtain ⟨v, f⟩ := z
 have hrow : isRow v = true ∨ scal v = true := by
  simp only [readable, Cell.er, isRow_er, scal_er, Bool.and_eq_true, Bool.or_eq_true] at hrd
  exact hrd.1.1
 rcases hrow with hrow | hs
 ·have own' : ∀ g, Shp' E.sid w C g v → owns f = true → Rd E.sid w C v := fun g hs ho =>
   (own_rd hs).mono (fun b j hj => hj.elim id (hcz ho b j)) (fun _ _ _ => rfl)
  cases f with
  | sc => exact .of_scal hk
  | sp p q => exact hk.2.1.mono holt (fun _ _ _ => rfl)
  | sh => exact Rd.mono hk holt (fun _ _ _ => rfl)
  | nl =>
   obtain ⟨k, hv⟩ := hk
   have hv : v = .row ⟨none, 0, k⟩ [] := hv
   subst hv
   exact .row _ _ (by simp) (by simp) (by simp) (by simp)
  | ow g => exact own' g hk.2.1 rfl
  | mp i => exact own' false (by simpa [Shp'] using hk.1) rfl
  | fr => exact hk.2.1
  | no => exact hk.2
  | os n => exact hk.2.1
  | _ => simp [Taken] at htz
 ·exact .of_scal hs
theorem fre_cells {zs : List (Cell Tg)} (h : ∀ z ∈ zs, COk E w C S X z) (ho : (zs.map Cell.er).all freCell = true) : ∀ z ∈ zs, Fre E z.v := by
 intro z hz
 have hk := h z hz
 have := List.all_eq_true.1 ho z.er (List.mem_map_of_mem hz)
 obtain ⟨v, f⟩ := z
 simp only [freCell, Cell.er] at this
 split at this
 ·exact ⟨.scal _ hk, by rw [blks_scal (show scal v = true from hk)]; simp⟩
 ·obtain ⟨k, hv⟩ := hk
  have hv : v = .row ⟨none, 0, k⟩ [] := hv
  rw [hv]; exact ⟨.row _ _ (by simp), by simp [VA.blks, blkR]⟩
 ·have hs : Shp E.sid w C v := by simpa [Shp'] using hk.2.1
  exact ⟨hs.pur, hk.2.2⟩
 ·exact ⟨hk.2.2.1.pur, hk.2.2.2.2⟩
 ·exact hk.2.2.1
 ·cases this
theorem lv_own {x y : Lv} (h : x.and y = .own) : x = .own ∧ y = .own := by cases x <;> cases y <;> simp_all [Lv.and]
theorem lv_any {x y : Lv} (h : x.and y ≠ .any) : x ≠ .any ∧ y ≠ .any := by cases x <;> cases y <;> simp_all [Lv.and]
theorem lvOf_own {cs : List (Cell Unit)} (h : lvOf cs = .own) : Vm.owned cs = true := by
 unfold lvOf at h
 split at h
 ·assumption
 ·split at h <;> cases h
theorem lvOf_any {cs : List (Cell Unit)} (h : lvOf cs ≠ .any) : cs.all freCell = true := by
 unfold lvOf at h
 split at h
 ·rename_i ho
  unfold Vm.owned at ho
  rw [List.all_eq_true] at ho ⊢
  intro c hc
  have := ho c hc
  unfold ownedCell at this
  unfold freCell
  split at this <;> simp_all
 ·split at h
  ·assumption
  ·exact absurd rfl h
theorem flatten_set_length {α : Type} {k : Nat} {es : List (List α)} (hk : ∀ e ∈ es, e.length = k) {i : Nat} {v : List α} (hv : v.length = k) : ∀ e ∈ es.set i v, e.length = k := by
 intro e he
 rcases List.mem_or_eq_of_mem_set he with he | rfl
 ·exact hk e he
 ·exact hv
theorem sliceParts_lift (hf : Fits E cx) {k : Nat} : ∀ (ps : List (Nat × Operand)) {parts : List (Nat × Opd)}, cSParts cx ps = some parts → ∀ {S : StA} {C : Nat → Nat → Prop} {zs : List (Cell Tg)} {es : List (List A)} {ok : Lv},
  Inv E S (zs ++ X) C a w → (∀ z ∈ zs, ∀ p q r, z.f ≠ .ap p q r) → (∀ e ∈ es, e.length = k) → (∀ c ∈ es.flatten, Rd E.sid w C c) → (ok = .own → Keeps E w zs es) → (ok ≠ .any → ∀ c ∈ es.flatten, Fre E c) →
  ∀ {r : List (List V) × Lv} {st1 : St}, (sliceParts k parts (erR es) ok).run (erS S) = some (r, st1) →
  ∃ S1 C1 zs1 es1, erS S1 = st1 ∧ erR es1 = r.1 ∧ Inv E S1 (zs1 ++ X) C1 a w ∧ (∀ z ∈ zs1, ∀ p q r, z.f ≠ .ap p q r) ∧ Same S S1 ∧ (∀ b j, C b j → C1 b j) ∧ es1.length = es.length ∧ (∀ e ∈ es1, e.length = k) ∧
   (∀ c ∈ es1.flatten, Rd E.sid w C1 c) ∧ (r.2 = .own → Keeps E w zs1 es1) ∧ (r.2 ≠ .any → ∀ c ∈ es1.flatten, Fre E c) ∧
   Instr.fill (fun i => some (i * k, k)) (es.flatten.map (VA.val E.sid)).toArray (ps.map fun p => (p.1, a.eval p.2)) = some (es1.flatten.map (VA.val E.sid)).toArray
 | [], parts, hc, S, C, zs, es, ok, h, hap, hk, hrd, hkp, hfr, r, st1, hr => by
  simp only [cSParts, Option.some.injEq] at hc; subst hc
  obtain ⟨rfl, rfl⟩ := ret_run hr
  exact ⟨S, C, zs, es, rfl, rfl, h, hap, ⟨rfl, fun i s hs => ⟨s, hs, rfl, rfl⟩⟩, fun _ _ => id, rfl, hk, hrd, hkp, hfr, rfl⟩
 | (i, ox) :: ps, parts, hc, S, C, zs, es, ok, h, hap, hk, hrd, hkp, hfr, r, st1, hr => by
  simp only [cSParts] at hc
  split at hc
  ·rename_i x ps' hx hps
   simp only [Option.some.injEq] at hc; subst hc
   unfold sliceParts at hr
   obtain ⟨y, st2, h1, h2⟩ := FM.bind_some hr
   clear hr
   obtain ⟨S1, C1, ys, rfl, e2, e3, e4, e5, e6, e7⟩ := take_lift hf h hx h1
   split at h2
   ·rename_i hh
    obtain ⟨hn, hi, hread⟩ := hh
    rw [← e2] at h2 hread hn
    have hil : i < es.length := by rw [erR_map, List.length_map] at hi; exact hi
    have hyl : (ys.map (·.v)).length = k := by simpa using hn
    obtain ⟨C2, k1, k2, k3⟩ := commitAll ys e4 (fun z hz => mem_hand (List.mem_append.2 (.inl hz)))
    have hcok : ∀ z ∈ ys, COk E w C2 S1 (ys ++ (zs ++ X)) z := fun z hz => k1.hand z (List.mem_append.2 (.inl hz))
    have hyr := readable_cells hcok k1.olt k3 hread e3
    rw [← List.append_assoc] at k1
    have hfl := set_flatten hk hil hyl
    have hmem : ∀ c ∈ (es.set i (ys.map (·.v))).flatten, c ∈ es.flatten ∨ ∃ z ∈ ys, z.v = c := by
     intro c hc'
     rw [hfl] at hc'
     rcases splice_mem _ _ _ hc' with hc' | hc'
     ·exact .inl hc'
     ·rw [List.mem_map] at hc'; exact .inr hc'
    have heq : (erR es).set i (vals (ys.map Cell.er)) = erR (es.set i (ys.map (·.v))) := by
     rw [erR_map, erR_map, List.map_set]
     congr 1
     simp [vals, List.map_map, Function.comp_def, Cell.er]
    rw [heq] at h2
    obtain ⟨S2, C3, zs1, es1, rfl, m2, m3, m4, m5, m6, m7, m8, m9, m10, m12, m11⟩ := sliceParts_lift hf ps hps k1 (fun z hz => by
      rcases List.mem_append.1 hz with hz | hz
      ·exact taken_noap (e3 z hz)
      ·exact hap z hz) (flatten_set_length hk hyl) (fun c hc' => by
      rcases hmem c hc' with hc' | ⟨z, hz, rfl⟩
      ·exact (hrd c hc').mono (fun b j hj => k2 b j (e6 b j hj)) (fun _ _ _ => rfl)
      ·exact hyr z hz) (fun hok => by
      obtain ⟨hok1, hok2⟩ := lv_own hok
      replace hok2 := lvOf_own hok2
      obtain ⟨q1, q2⟩ := hkp hok1
      obtain ⟨p1, p2⟩ := owned_cells hcok hok2
      refine ⟨fun c hc' => ?_, fun b => ?_⟩
      ·rcases hmem c hc' with hc' | ⟨z, hz, rfl⟩
       ·exact (q1 c hc').imp id (fun ⟨z, hz, hzv⟩ => ⟨z, List.mem_append.2 (.inr hz), hzv⟩)
       ·exact (p1 z hz).imp id (fun hzf => ⟨z, List.mem_append.2 (.inl hz), rfl, hzf⟩)
      ·rw [hfl]
       have := count_splice VA.blks b (ys.map (·.v)) es.flatten (i * k)
       have := p2 b
       have := q2 b
       simp only [List.flatMap_append, List.count_append]
       omega) (fun hok => by
      obtain ⟨hok1, hok2⟩ := lv_any hok
      have hq := fre_cells hcok (lvOf_any hok2)
      intro c hc'
      rcases hmem c hc' with hc' | ⟨z, hz, rfl⟩
      ·exact hfr hok1 c hc'
      ·exact hq z hz) h2
    have hcells := taken_cells e7
    refine ⟨S2, C3, zs1, es1, rfl, m2, m3, m4, e5.trans m5, fun b j hj => m6 b j (k2 b j (e6 b j hj)), by rw [m7, List.length_set], m8, m9, m10, m12, ?_⟩
    have hle : i * k + k ≤ es.flatten.length := by
     rw [flatten_length hk, ← Nat.succ_mul]
     exact Nat.mul_le_mul_right k hil
    have hyl' : ys.length = k := by simpa using hyl
    rw [List.map_cons, fill_step (off := i * k) (size := k) rfl (by rw [hcells]; simpa using hyl') (by
     rw [hcells]
     simp only [List.size_toArray, List.length_map]
     omega), hcells]
    rw [hfl, splice_map, List.map_map] at m11
    exact m11
   ·simp [FM.run] at h2
  ·cases hc
theorem consts_plain : ∀ {xs : List Value} {zs : List V}, mapO constV xs = some zs → ∀ c ∈ zs.map cA, scal c = true ∨ c = .row ⟨none, 0, 0⟩ []
 | [], zs, h => by simp [mapO] at h; subst h; simp
 | x :: xs, zs, h => by
  unfold mapO at h
  cases h1 : constV x with
  | none => simp [h1] at h
  | some y => cases h2 : mapO constV xs with
   | none => simp [h1, h2] at h
   | some ys =>
    simp [h1, h2] at h; subst h
    intro c hc
    simp only [List.map_cons, List.mem_cons] at hc
    rcases hc with rfl | hc
    ·exact (constV_cA (sid := fun _ => 0) h1).2.2.1
    ·exact consts_plain h2 c hc
theorem made_row_no {zs : List (Cell Tg)} (h : Inv E S (zs ++ X) C a w) (hb : E.base ≤ w.heap.size) (T : TypeId) {k : Nat} {es : List (List A)} (hk : ∀ e ∈ es, e.length = k) (hs : ∀ c ∈ es.flatten, Rd E.sid w C c) :
  Made E S X (fun b j => C b j ∨ b = w.heap.size) a (w.alloc (.cells (es.flatten.map (VA.val E.sid)).toArray T)) ⟨.val, [⟨.row ⟨some ⟨w.heap.size, 0, none⟩, es.length, k⟩ es, .no⟩]⟩ (.slice (some ⟨w.heap.size, 0, none⟩) es.length es.length) := by
 have h1 := (h.dropAll).fresh (pushed_grow w (.cells (es.flatten.map (VA.val E.sid)).toArray T)) (Nat.le_refl _) (pushed_size w _) hb
 refine ⟨h1.addAll [_] ?_, fun _ => ⟨_, rfl, rfl⟩, by simp, by simp, by simp⟩
 simp only [List.mem_singleton]
 rintro z rfl
 refine ⟨⟨rfl, .row _ _ hk (Nat.le_refl _) (fun j c hc => ⟨w.heap.size, 0, rfl, .inr rfl, ?_⟩) (fun c hc => ?_)⟩, rfl, .inl (by simp)⟩
 ·rw [cell_of_heap (pushed_new w _)]
  have hc : es.flatten[j]? = some c := hc
  simp only [Nat.zero_add, List.getElem?_toArray, List.getElem?_map, hc]
  rfl
 ·exact (hs c hc).mono (fun _ _ => .inl) (fun b j hj => cell_same ((pushed_grow w _).block b (h.clt b j hj)))
theorem run_buildSlice {P : Program} {t e : TypeId} {i : TypeInfo} {z : Value} (ht : P.underlying t = some (.slice e)) (hi : P.info? e = some i) (hz : i.zero = some z) {len : Nat} (hlim : len * i.size ≤ 16777216) {parts : Array (Nat × Value)} {cells : Array Value}
  (hfill : Instr.fill (fun q => some (q * i.size, i.size)) (madeCells z.cells (len * i.size)) parts.toList = some cells) :
  (Instr.buildSlice t len parts).run P w = .ok (.slice (some ⟨w.heap.size, 0, none⟩) len len) (w.alloc (.cells cells e)) := by
 have n1 : ¬ (16777216 < len * i.size) := by omega
 unfold madeCells at hfill
 by_cases hn : len * i.size = 0
 ·rw [hn] at hfill
  have : (Array.range 0).map (fun x => z.cells[x % z.cells.size]!) = #[] := by simp [Array.range_zero']
  rw [this] at hfill
  simp [Instr.buildSlice, run_underlying ht, sizeOf, typeInfo, hi, hn, newRow, Array.range_zero', hfill]
 ·simp [Instr.buildSlice, run_underlying ht, sizeOf, typeInfo, hi, hn, n1, newRow, zeroValue, hz, hfill]
theorem consts_er : ∀ {xs : List Value} {zs : List V}, mapO constV xs = some zs → (zs.map cA).map VA.er = zs
 | [], zs, h => by simp [mapO] at h; subst h; rfl
 | x :: xs, zs, h => by
  unfold mapO at h
  cases h1 : constV x with
  | none => simp [h1] at h
  | some y => cases h2 : mapO constV xs with
   | none => simp [h1, h2] at h
   | some ys =>
    simp [h1, h2] at h; subst h
    simp only [List.map_cons]
    rw [consts_er h2, (constV_cA (sid := fun _ => 0) h1).1]
theorem sound_bslice (hf : Fits E cx) (h : Inv E S X C a w) (hb : E.base ≤ w.heap.size) {o : Oper} {t : TypeId} {len : Nat} {ps : Array (Nat × Operand)} {zs : List V} {parts : List (Nat × Opd)} (ho : o.op = .buildSlice t len ps) (hz : elemZ E.P t = some zs)
  (hlim : len ≤ 4096 ∧ len * zs.length ≤ 16777216) (hps : cSParts cx ps.toList = some parts) {s : SU} {st1 : St} (hr : (evalIr cx.nt (.bslice zs len parts)).run (erS S) = some (s, st1)) : Makes E X a w o s st1 := by
 unfold evalIr at hr
 simp only at hr
 split at hr
 ·simp [FM.run] at hr
 ·rename_i hne
  obtain ⟨r, st2, h1, h2⟩ := FM.bind_some hr
  clear hr
  obtain ⟨rfl, rfl⟩ := ret_run h2
  obtain ⟨e, i, hu, hi, hbytes, hze⟩ := elemZ_some hz
  obtain ⟨i', z, hi', hz1, hz2, hz3⟩ := zeroV_some hze
  rw [hi] at hi'
  obtain rfl := Option.some.inj hi'
  obtain ⟨e1, e2, e3⟩ := constCells_ok (E := E) (w := w) (C := C) (S := S) (X := X) hz3
  have hzl : zs.length = i.size := by
   have := (mapO_some hz3).1
   rw [this, ← hz2]; simp
  have hzpos : 0 < zs.length := by
   cases zs with
   | nil => simp at hne
   | cons v r => simp
  have hsh : ∀ D, ∀ c ∈ zs.map cA, Shp E.sid w D c ∧ c.blks = [] := fun D => consts_shp (E := E) (w := w) (C := D) hz3
  have hin : ∀ c ∈ (List.replicate len (zs.map cA)).flatten, c ∈ zs.map cA := by
   intro c hc
   obtain ⟨y, hy, hcy⟩ := List.mem_flatten.1 hc
   rw [List.eq_of_mem_replicate hy] at hcy
   exact hcy
  have her : erR (List.replicate len (zs.map cA)) = List.replicate len zs := by
   rw [erR_map, List.map_replicate, consts_er hz3]
  rw [← her] at h1
  obtain ⟨S1, C1, zs1, es1, rfl, m2, m3, m4, m5, m6, m7, m8, m9, m10, m12, m11⟩ := sliceParts_lift (X := X) (zs := []) hf ps.toList hps h (by simp) (k := zs.length) (by
    intro x hx; rw [List.eq_of_mem_replicate hx, List.length_map]) (by
    intro c hc
    rcases consts_plain hz3 c (hin c hc) with hs | hs
    ·exact .of_scal hs
    ·rw [hs]; exact .row _ _ (by simp) (by simp) (by simp) (by simp)) (by
    intro _
    refine ⟨fun c hc => .inl ⟨fun D => (hsh D c (hin c hc)).1, (hsh C c (hin c hc)).2⟩, fun b => ?_⟩
    rw [List.count_eq_zero.2]
    ·simp
    ·intro hm
     obtain ⟨x, hx, hbx⟩ := List.mem_flatMap.1 hm
     rw [(hsh C x (hin x hx)).2] at hbx
     simp at hbx) (by
    intro _ c hc
    exact ⟨(hsh C c (hin c hc)).1.pur, by rw [(hsh C c (hin c hc)).2]; simp⟩) h1
  have hl1 : es1.length = len := by rw [m7, List.length_replicate]
  have hcells : ((List.replicate len (zs.map cA)).flatten.map (VA.val E.sid)).toArray = madeCells z.cells (len * i.size) := by
   rw [← hz2, madeCells_eq, List.map_flatten, List.map_replicate]
   congr 3
   rw [← e3, List.map_map, List.map_map]
   rfl
  have hrun := run_buildSlice (w := w) (P := E.P) hu hi hz1 (len := len) (by rw [← hzl]; exact hlim.2) (parts := ps.map fun p => (p.1, a.eval p.2)) (cells := (es1.flatten.map (VA.val E.sid)).toArray) (by
   rw [← hcells, ← hzl, Array.toList_map]
   exact m11)
  have hex : (execOp a.eval o).run E.P w = .ok (.value (.slice (some ⟨w.heap.size, 0, none⟩) len len)) (w.alloc (.cells (es1.flatten.map (VA.val E.sid)).toArray e)) := by
   unfold execOp
   rw [ho]
   simp only
   rw [Sem.run_bind]
   rw [hrun]
   rfl
  have hmax : es1.length ≤ maxLen := by rw [hl1]; simp only [maxLen]; omega
  cases hok : r.2 with
  | own =>
   obtain ⟨q1, q2⟩ := m10 hok
   have hmade := made_row (zs := zs1) (X := X) m3 hb e m8 hzpos hmax (fun c hc => by
    rcases q1 c hc with ⟨hs, hbl⟩ | ⟨z', hz', rfl, hzf⟩
    ·exact ⟨hs C1, by rw [hbl]; simp⟩
    ·have := m3.hand z' (List.mem_append.2 (.inl hz'))
     obtain ⟨v, f⟩ := z'
     simp only at hzf; subst hzf
     have h6 : Shp' E.sid w C1 false v := this.2.1
     exact ⟨by simpa [Shp'] using h6, this.2.2⟩) q2
   refine ⟨_, _, S1, C1, _, hex, rfl, ?_, by rw [← hl1]; exact hmade, pushed_frame E w _ hb⟩
   simp [Sl.er, Kd.er, Cell.er, VA.er, m2, rowFl]
  | fre =>
   have hmade := made_row_os (zs := zs1) (X := X) m3 hb e m8 hzpos hmax (fun c hc => ⟨m9 c hc, m12 (by rw [hok]; simp) c hc⟩)
   refine ⟨_, _, S1, _, _, hex, rfl, ?_, by rw [← hl1]; exact hmade, pushed_frame E w _ hb⟩
   simp [Sl.er, Kd.er, Cell.er, VA.er, m2, rowFl]
  | any =>
   have hmade := made_row_no (zs := zs1) (X := X) m3 hb e m8 m9
   refine ⟨_, _, S1, _, _, hex, rfl, ?_, by rw [← hl1]; exact hmade, pushed_frame E w _ hb⟩
   simp [Sl.er, Kd.er, Cell.er, VA.er, m2, rowFl]
end
end Go.Vm
end
section
namespace Go.Vm
structure Tail (w w' : World) (b0 n : Nat) : Prop where
 blk : ∃ cur cur' T T', w.heap[b0]? = some (.cells cur T (0, 0)) ∧ w'.heap[b0]? = some (.cells cur' T' (0, 0)) ∧ cur'.size = cur.size ∧ ∀ j, j < n → cur'[j]? = cur[j]?
 size : w'.heap.size = w.heap.size
 other : ∀ b, b ≠ b0 → w'.heap[b]? = w.heap[b]?
section
variable {E : Env} {cx : Cx} {S : StA} {X : List (Cell Tg)} {C : Nat → Nat → Prop} {a : Act} {w w' : World}
theorem Tail.cell {b0 n : Nat} (ht : Tail w w' b0 n) {b j : Nat} (h : b = b0 → j < n) : w'.cell? ⟨b, j, none⟩ = w.cell? ⟨b, j, none⟩ := by
 by_cases hb : b = b0
 ·obtain ⟨cur, cur', T, T', h1, h2, h3, h4⟩ := ht.blk
  subst hb
  rw [cell_of_heap h1, cell_of_heap h2, h4 j (h rfl)]
 ·exact cell_same (ht.other b hb)
theorem Tail.rd {b0 n : Nat} (ht : Tail w w' b0 n) (hC : ∀ j, C b0 j → j < n) {v : A} (h : Rd E.sid w C v) : Rd E.sid w' C v :=
 h.mono (fun _ _ => id) (fun _ j hj => ht.cell (fun e => hC j (e ▸ hj)))
theorem Tail.shp {b0 n : Nat} (ht : Tail w w' b0 n) (hC : ∀ j, C b0 j → j < n) {D : Nat → Nat → Prop} {v : A} (h : Shp E.sid w D v) (hr : Rd E.sid w C v) : Shp E.sid w' D v := by
 induction h with
 | int k n => exact .int k n
 | bool b => exact .bool b
 | str s => exact .str s
 | nil k => exact .nil k
 | row b cap k es cur e hb hcap hmax hsize hk hk0 hne htake hfree hr' ih =>
  have hsub : ∀ c ∈ es.flatten, Shp E.sid w' D c := fun c hc => ih c hc (hr.sub hc)
  by_cases hbe : b = b0
  ·subst hbe
   obtain ⟨c1, c2, T, T', h1, h2, h3, h4⟩ := ht.blk
   rw [hb] at h1
   simp only [Option.some.injEq, Obj.cells.injEq, and_true] at h1
   obtain ⟨rfl, rfl⟩ := h1
   refine .row b cap k es c2 T' h2 hcap hmax (h3.trans hsize) hk hk0 hne ?_ hfree hsub
   rw [← htake]
   have hle : es.length * k ≤ n ∨ es.length * k = 0 := by
    by_cases h0 : es.length * k = 0
    ·exact .inr h0
    ·refine .inl ?_
     cases hr with
     | row _ _ _ _ hh _ =>
      have hlt : es.length * k - 1 < es.flatten.length := by rw [flatten_length hk]; omega
      obtain ⟨b', o', e1, e2, _⟩ := hh (es.length * k - 1) _ (List.getElem?_eq_getElem hlt)
      simp only [Option.some.injEq, Addr.mk.injEq, and_true] at e1
      obtain ⟨rfl, rfl⟩ := e1
      have := hC _ e2
      omega
   rcases hle with hle | hle
   ·apply List.ext_getElem?
    intro j
    rw [List.getElem?_take, List.getElem?_take]
    split
    ·rw [Array.getElem?_toList, Array.getElem?_toList, h4 j (by omega)]
    ·rfl
   ·rw [hle]; simp
  ·exact .row b cap k es cur e ((ht.other b hbe).trans hb) hcap hmax hsize hk hk0 hne htake hfree hsub
theorem Tail.shp' {b0 n : Nat} (ht : Tail w w' b0 n) (hC : ∀ j, C b0 j → j < n) {g : Bool} {v : A} (h : Shp' E.sid w C g v) (hr : b0 ∈ v.blks → Rd E.sid w C v) : Shp' E.sid w' C g v := by
 by_cases hb : b0 ∈ v.blks
 ·cases g with
  | false =>
   have h' : Shp E.sid w C v := by simpa [Shp'] using h
   simpa [Shp'] using ht.shp hC h' (hr hb)
  | true =>
   have h' : ShpG w C v := by simpa [Shp'] using h
   obtain ⟨b, cap, cur, e, rfl, h2, h3, h4, h5⟩ := h'
   have hbe : b0 = b := by simpa [VA.blks, blkR] using hb
   subst hbe
   obtain ⟨c1, c2, T, T', k1, k2, k3, _⟩ := ht.blk
   rw [h2] at k1
   simp only [Option.some.injEq, Obj.cells.injEq, and_true] at k1
   obtain ⟨rfl, rfl⟩ := k1
   show Shp' E.sid w' C true _
   simp only [Shp', if_true]
   exact ⟨b0, cap, c2, T', rfl, k2, h3, k3.trans h4, h5⟩
 ·exact h.world (fun b hb' => ht.other b (fun e => hb (e ▸ hb'))) (fun _ _ _ => id)
theorem Tail.fst {b0 n : Nat} (ht : Tail w w' b0 n) (hC : ∀ j, C b0 j → j < n) {v : A} (h : Fst E w v) (hr : Rd E.sid w C v) : Fst E w' v :=
 ⟨ht.shp hC h.1 hr, h.2⟩
theorem Tail.spn {b0 n : Nat} (ht : Tail w w' b0 n) {v : A} (h : Spn w C v) : Spn w' C v := by
 obtain ⟨t, es, rfl, h⟩ := h
 refine ⟨t, es, rfl, h.imp id ?_⟩
 rintro ⟨b, cur, e, h1, h2, h3, h4, h5, h6, h7, h8⟩
 by_cases hb : b = b0
 ·subst hb
  obtain ⟨c1, c2, T, T', k1, k2, k3, _⟩ := ht.blk
  rw [h2] at k1
  simp only [Option.some.injEq, Obj.cells.injEq, and_true] at k1
  obtain ⟨rfl, rfl⟩ := k1
  exact ⟨b, c2, T', h1, k2, h3, h4, k3.trans h5, h6, h7, h8⟩
 ·exact ⟨b, cur, e, h1, (ht.other b hb).trans h2, h3, h4, h5, h6, h7, h8⟩
theorem Inv.tail (h : Inv E S X C a w) {b0 n : Nat} (ht : Tail w w' b0 n) (hC : ∀ j, C b0 j → j < n) (hown : ∀ x ∈ cellsAll S X, owns x.f = true → b0 ∈ x.v.blks → Rd E.sid w C x.v)
  (hbox : ∀ s ∈ S, b0 ∉ s.boxOwn) (hap : ∀ x ∈ cellsAll S X, ∀ p q r, x.f = .ap p q r → ∀ y, cellAt S p q = some y → (∃ g, y.f = .ow g) → b0 ∉ x.v.blks) : Inv E S X C a w' := by
 have hcell : ∀ x ∈ cellsAll S X, COk E w' C S X x := by
  intro x hx
  have hk := h.ok x hx
  have ho := hown x hx
  have hax := hap x hx
  have hro : ∀ {v : A}, Rd E.sid w E.old v → Rd E.sid w' E.old v := fun hr => hr.mono (fun _ _ => id) (fun b j hj => ht.cell (fun e => hC j (e ▸ h.olt b j hj)))
  obtain ⟨v, f⟩ := x
  cases f with
  | sp p q => exact ⟨hk.1, hro hk.2.1, hk.2.2⟩
  | sh => exact hro hk
  | ow g => exact ⟨hk.1, ht.shp' hC hk.2.1 (ho rfl), hk.2.2⟩
  | nw g => exact ⟨hk.1, ht.shp' hC hk.2.1 (ho rfl), hk.2.2⟩
  | mp i =>
   refine ⟨?_, hk.2⟩
   have := ht.shp' (g := false) hC (v := v) (by simpa [Shp'] using hk.1) (ho rfl)
   simpa [Shp'] using this
  | cp ck s c ix => exact ⟨hk.1, ht.rd hC hk.2.1, hk.2.2.1, fun e => ht.fst hC (hk.2.2.2 e) hk.2.1⟩
  | ap s c ix =>
   refine ⟨hk.1, hk.2.1, fun y hy hg => ⟨?_, (hk.2.2 y hy hg).2⟩⟩
   have h1 := (hk.2.2 y hy hg).1
   have h2 := hax s c ix rfl y hy hg
   exact ⟨h1.1.mono (fun _ _ _ => id) (fun b hb => ht.other b (fun e => h2 (e ▸ hb))), h1.2⟩
  | fr => exact ⟨hk.1, ht.rd hC hk.2.1, ht.fst hC hk.2.2 hk.2.1⟩
  | no => exact ⟨hk.1, ht.rd hC hk.2⟩
  | os m => exact ⟨hk.1, ht.rd hC hk.2.1, hk.2.2.1, ht.spn hk.2.2.2⟩
  | _ => exact hk
 refine ⟨h.len, h.tsz, h.nodef, h.slv, h.high, h.emp, h.lock, h.noap, ?_, ?_, ?_, ?_, h.cnt, h.olt, ?_, h.cbase, ?_⟩
 ·intro i s t hs hk
  obtain ⟨b, T, h1, h2, h3⟩ := h.box i s t hs hk
  refine ⟨b, T, h1, (ht.other b (fun e => ?_)).trans h2, h3⟩
  subst e
  exact hbox s (List.mem_of_getElem? hs) (by simp [Sl.boxOwn, hk, h1])
 ·intro i s t src ix hs hk
  obtain ⟨b, o, h1, h2, h3⟩ := h.ept i s t src ix hs hk
  exact ⟨b, o, h1, fun j x hx => ⟨(h2 j x hx).1, (ht.cell (fun e => hC _ (e ▸ (h2 j x hx).1))).trans (h2 j x hx).2⟩, h3⟩
 ·exact fun i s hs x hx => hcell x (mem_cellsAll hs hx)
 ·exact fun x hx => hcell x (mem_hand hx)
 ·exact fun b j hj => by rw [ht.size]; exact h.clt b j hj
 ·exact fun b hb => ⟨by rw [ht.size]; exact (h.ownlt b hb).1, (h.ownlt b hb).2⟩
theorem Inv.keepBlk {zs rs : List (Cell Tg)} (h : Inv E S (zs ++ X) C a w) {d : Cell Tg} (hd : d ∈ zs) {b0 : Nat} (hb0 : b0 ∈ d.own) (hbase : E.base ≤ b0 ∨ E.chg b0) {C' : Nat → Nat → Prop} (hC : ∀ b j, C b j → C' b j) (hN : ∀ b j, C' b j → C b j ∨ b = b0)
  (hrs : ∀ r ∈ rs, COk E w C' S (rs ++ X) r ∧ ∀ p q k, r.f ≠ .ap p q k) (hro : ∀ b, (rs.flatMap Cell.own).count b ≤ [b0].count b) : Inv E S (rs ++ X) C' a w := by
 have hdm : d ∈ cellsAll S (zs ++ X) := mem_hand (List.mem_append.2 (.inl hd))
 have hin : b0 ∈ ownAll S (zs ++ X) := by
  rw [← List.count_pos_iff, count_ownAll]
  have := List.count_pos_iff.2 (List.mem_flatMap.2 ⟨d, hdm, hb0⟩)
  omega
 have hout : b0 ∉ ownAll S X := by
  intro hm
  have h1 := h.cnt b0
  have h2 := List.count_pos_iff.2 hm
  have h3 : 0 < (zs.flatMap Cell.own).count b0 := List.count_pos_iff.2 (List.mem_flatMap.2 ⟨d, hd, hb0⟩)
  simp only [ownAll, List.flatMap_append, List.count_append] at h1 h2
  omega
 have hw := h.dropAll
 have hle : ∀ b, (ownAll S (rs ++ X)).count b ≤ (ownAll S (zs ++ X)).count b := by
  intro b
  have h1 := hro b
  simp only [ownAll, List.flatMap_append, List.count_append]
  by_cases e : b = b0
  ·subst e
   have h3 : 0 < (zs.flatMap Cell.own).count b := List.count_pos_iff.2 (List.mem_flatMap.2 ⟨d, hd, hb0⟩)
   have : ([b] : List Nat).count b = 1 := by simp
   omega
  ·have : ([b0] : List Nat).count b = 0 := by rw [List.count_eq_zero]; simp [e]
   omega
 have hne : ∀ {b : Nat}, b ≠ b0 → ∀ j, C' b j → C b j := fun hb j hj => (hN _ j hj).resolve_right hb
 have hrd : ∀ {v : A}, Rd E.sid w C v → Rd E.sid w C' v := fun hr => hr.mono hC (fun _ _ _ => rfl)
 have hnb : ∀ x ∈ cellsAll S X, owns x.f = true → b0 ∉ x.v.blks := by
  intro x hx hox hb
  refine hout ?_
  rw [← List.count_pos_iff, count_ownAll]
  have := List.count_pos_iff.2 (List.mem_flatMap.2 ⟨x, hx, own_of hox hb⟩)
  omega
 have hcell : ∀ x ∈ cellsAll S X, COk E w C' S (rs ++ X) x := by
  intro x hx
  have hk := hw.ok x hx
  have hx' : x ∈ cellsAll S (zs ++ X) := by
   rcases List.mem_append.1 hx with hx | hx
   ·exact List.mem_append.2 (.inl hx)
   ·exact mem_hand (List.mem_append.2 (.inr hx))
  have hk0 := h.ok x hx'
  have hn := hnb x hx
  obtain ⟨v, f⟩ := x
  cases f with
  | ow g => exact ⟨hk.1, hk.2.1.world (fun _ _ => rfl) (fun b hb j hj => hne (fun e => hn rfl (e ▸ hb)) j hj), hk.2.2⟩
  | nw g => exact ⟨hk.1, hk.2.1.world (fun _ _ => rfl) (fun b hb j hj => hne (fun e => hn rfl (e ▸ hb)) j hj), hk.2.2⟩
  | mp i => exact ⟨hk.1.mono (fun b hb j hj => hne (fun e => hn rfl (e ▸ hb)) j hj) (fun _ _ => rfl), hk.2⟩
  | cp ck s c ix => exact ⟨hk.1, hrd hk.2.1, hk.2.2⟩
  | fr => exact ⟨hk.1, hrd hk.2.1, hk.2.2⟩
  | no => exact ⟨hk.1, hrd hk.2⟩
  | os m =>
   refine ⟨hk.1, hrd hk.2.1, hk.2.2.1, hk.2.2.2.mono (fun b hb j hj => hne (fun e => ?_) j hj) (fun _ _ => rfl)⟩
   refine hout ?_
   rw [← List.count_pos_iff, count_ownAll]
   have := List.count_pos_iff.2 (List.mem_flatMap.2 ⟨_, hx, own_os (x := ⟨v, .os m⟩) rfl hb⟩)
   rw [e] at this
   omega
  | ap s c ix =>
   refine ⟨hk.1, hk.2.1, fun y hy hg => ⟨(hk.2.2 y hy hg).1, ?_⟩⟩
   rcases (hk0.2.2 y hy hg).2 with h1 | h1
   ·refine .inl fun b hb => ⟨fun hm => (h1 b hb).1 ?_, fun j hj => (h1 b hb).2 j (hne (fun e => (h1 b hb).1 (by rw [e]; exact hin)) j hj)⟩
    have := hle b
    have := List.count_pos_iff.2 hm
    exact List.count_pos_iff.1 (by omega)
   ·exact .inr h1
  | _ => exact hk
 refine ⟨hw.len, hw.tsz, hw.nodef, hw.slv, hw.high, hw.emp, hw.lock, ?_, ?_, ?_, ?_, ?_, fun b => Nat.le_trans (hle b) (h.cnt b), fun b j ho => hC b j (hw.olt b j ho), ?_, ?_, fun b hb => h.ownlt b (List.count_pos_iff.1 (Nat.lt_of_lt_of_le (List.count_pos_iff.2 hb) (hle b)))⟩
 ·intro l hl hk
  obtain ⟨k1, k2⟩ := hw.noap l hl hk
  refine ⟨k1, fun x hx => ?_⟩
  rcases List.mem_append.1 hx with hx | hx
  ·exact (hrs x hx).2
  ·exact k2 x hx
 ·intro i s t hs hk
  obtain ⟨b, T, h1, h2, h3⟩ := hw.box i s t hs hk
  refine ⟨b, T, h1, h2, fun j hj => h3.1 j (hne (fun e => ?_) j hj), h3.2⟩
  subst e
  exact h.boxApart hs (by simp [Sl.boxOwn, hk, h1]) hdm (hb0)
 ·intro i s t src ix hs hk
  obtain ⟨b, o, k1, k2, k3⟩ := hw.ept i s t src ix hs hk
  exact ⟨b, o, k1, fun j y hy => ⟨hC _ _ (k2 j y hy).1, (k2 j y hy).2⟩, k3⟩
 ·exact fun i s hs x hx => hcell x (mem_cellsAll hs hx)
 ·intro x hx
  rcases List.mem_append.1 hx with hx | hx
  ·exact (hrs x hx).1
  ·exact hcell x (mem_hand hx)
 ·intro b j hj
  rcases hN b j hj with hj | rfl
  ·exact hw.clt b j hj
  ·exact (h.ownlt _ hin).1
 ·intro b j hj
  rcases hN b j hj with hj | rfl
  ·exact hw.cbase b j hj
  ·exact hbase.imp id .inr
theorem Inv.dropBlk {zs : List (Cell Tg)} (h : Inv E S (zs ++ X) C a w) {d : Cell Tg} (hd : d ∈ zs) (ho : owns d.f = true) {b0 : Nat} (hb0 : b0 ∈ d.v.blks) : Inv E S X (fun b j => C b j ∨ b = b0) a w :=
 h.keepBlk (rs := []) hd (own_of ho hb0) (COk.own_base (h.ok d (mem_hand (List.mem_append.2 (.inl hd)))) ho b0 hb0) (fun _ _ => .inl) (fun _ _ hj => hj) (by simp) (by simp)
theorem Inv.setLock (h : Inv E S X C a w) {l : SA} (hl : S[lockS E.nt]? = some l) (hk : l.k = .dead) : Inv E (S.set (lockS E.nt) ⟨.und, []⟩) X C a w := by
 have hcs : l.cs = [] := h.emp _ l hl (.inl hk)
 have hfree : Free l := ⟨by simp [hk], by simp [hcs]⟩
 have hlS := (List.getElem?_eq_some_iff.1 hl).1
 have hnt : E.nt ≤ lockS E.nt := by unfold lockS; omega
 have hL : Less S (S.set (lockS E.nt) ⟨.und, []⟩) X X := by
  have := less_put (X := X) (zs := []) (s := ⟨.und, []⟩) hl hfree rfl (by simp)
  simpa using this
 have hbox := boxAddr_set (s := ⟨.und, []⟩) hl hfree.1 (by simp)
 have hget : ∀ {i : Nat} {s' : SA}, (S.set (lockS E.nt) ⟨.und, []⟩)[i]? = some s' → (i = lockS E.nt ∧ s' = ⟨.und, []⟩) ∨ (i ≠ lockS E.nt ∧ S[i]? = some s') := by
  intro i s' hi
  rw [List.getElem?_set] at hi
  split at hi
  ·rename_i e
   simp only [Option.some.injEq] at hi
   exact .inl ⟨e.symm, hi.symm⟩
  ·rename_i e
   exact .inr ⟨fun h => e h.symm, hi⟩
 refine ⟨by simp [h.len], h.tsz, h.nodef, ?_, ?_, ?_, ?_, ?_, ?_, ?_, ?_, ?_, ?_, h.olt, h.clt, h.cbase, fun b hb => h.ownlt b (hL.mem hb)⟩
 ·intro i s' hi hs'
  rcases hget hs' with ⟨rfl, rfl⟩ | ⟨hne, hs'⟩
  ·omega
  ·exact (h.slv i s' hi hs').set hbox
 ·intro i s' hi hs'
  rcases hget hs' with ⟨rfl, rfl⟩ | ⟨hne, hs'⟩
  ·exact .inr (.inl rfl)
  ·exact h.high i s' hi hs'
 ·intro i s' hs' hk
  rcases hget hs' with ⟨rfl, rfl⟩ | ⟨hne, hs'⟩
  ·rfl
  ·exact h.emp i s' hs' hk
 ·intro i s' hi hs' hk
  rcases hget hs' with ⟨rfl, rfl⟩ | ⟨hne, hs'⟩
  ·rfl
  ·exact h.lock i s' hi hs' hk
 ·intro l' hl' hk
  rcases hget hl' with ⟨_, rfl⟩ | ⟨hne, hl'⟩
  ·simp at hk
  ·exact absurd rfl hne
 ·intro i s' t hs' hk
  rcases hget hs' with ⟨rfl, rfl⟩ | ⟨hne, hs'⟩
  ·simp at hk
  ·exact h.box i s' t hs' hk
 ·intro i s' t src ix hs' hk
  rcases hget hs' with ⟨rfl, rfl⟩ | ⟨hne, hs'⟩
  ·simp at hk
  ·exact (h.ept i s' t src ix hs' hk).less hL
 ·intro i s' hs' x hx
  rcases hget hs' with ⟨rfl, rfl⟩ | ⟨hne, hs'⟩
  ·simp at hx
  ·exact (h.cells i s' hs' x hx).less hL
 ·exact fun x hx => (h.hand x hx).less hL
 ·exact fun b => Nat.le_trans (hL.own b) (h.cnt b)
end
end Go.Vm
end
section
namespace Go.Vm
section
variable {E : Env} {cx : Cx} {S : StA} {X : List (Cell Tg)} {C : Nat → Nat → Prop} {a : Act} {w w' : World}
theorem oneCell_val {sid : Nat → Nat} (v : A) : (v.val sid).oneCell' = true := by cases v <;> rfl
theorem run_rowCells {P : Program} {t : Tg} {es : List (List A)} {k : Nat} (h : Rd E.sid w C (.row t es)) (hk : ∀ e ∈ es, e.length = k) :
  (Builtin.firstCells k es.length ((VA.row t es : A).val E.sid)).run P w = .ok (es.flatten.map (VA.val E.sid)).toArray w := by
 have hfl := flatten_length hk
 cases h with
 | row _ _ _ _ hh _ =>
  cases hta : t.a with
  | none =>
   have : es.flatten = [] := by
    cases hf : es.flatten with
    | nil => rfl
    | cons c r =>
     obtain ⟨b, o, h1, _⟩ := hh 0 c (by rw [hf]; rfl)
     rw [hta] at h1; cases h1
   simp only [VA.val, hta, this]
   exact run_firstCells_none w k es.length es.length t.cap
  | some ad =>
   simp only [VA.val, hta]
   refine run_firstCells_some w k es.length ad es.length t.cap _ (by rw [List.length_map, hfl]) (fun j v hv => ?_)
   rw [List.getElem?_map, Option.map_eq_some_iff] at hv
   obtain ⟨c, hc, rfl⟩ := hv
   obtain ⟨b, o, h1, _, h3⟩ := hh j c hc
   rw [hta] at h1
   simp only [Option.some.injEq] at h1
   rw [h1, add_addr]; exact h3
theorem run_append_in {P : Program} {t u ty e e' : TypeId} {i : TypeInfo} (ht : P.underlying t = some (.slice e)) (hu : P.underlying u = some (.slice e')) (hi : P.info? e = some i) {g n cap : Nat} {cur : Array Value} {T : TypeId}
  (hg : w.heap[g]? = some (.cells cur T (0, 0))) {t' : Tg} {ys : List (List A)} (hys : Rd E.sid w C (.row t' ys)) (hk : ∀ e ∈ ys, e.length = i.size) (hroom : n + ys.length ≤ cap) (hsz : cur.size = cap * i.size) :
  (Builtin.append_ #[t, u] ty #[.slice (some ⟨g, 0, none⟩) n cap, (VA.row t' ys : A).val E.sid]).run P w =
   .ok (.slice (some ⟨g, 0, none⟩) (n + ys.length) cap) (w.setRow g (cur.toList.take (n * i.size) ++ ys.flatten.map (VA.val E.sid) ++ cur.toList.drop (n * i.size + ys.flatten.length)).toArray) := by
 have hf := run_rowCells (P := P) hys hk
 have hfl := flatten_length hk
 have hst := run_storeCells_at P g (n * i.size) T (ys.flatten.map (VA.val E.sid)) 0 cur w hg (by
  rw [List.length_map, hfl, hsz, Nat.add_zero, ← Nat.add_mul]; exact Nat.mul_le_mul_right _ hroom) (by
  intro v hv
  obtain ⟨c, _, rfl⟩ := List.mem_map.1 hv
  exact oneCell_val c)
 simp only [Nat.add_zero, List.length_map] at hst
 simp only [VA.val] at hf
 simp [Builtin.append_, run_underlying ht, run_underlying hu, sizeOf, typeInfo, hi, VA.val, Builtin.lenOf, hroom, hf, Addr.add_lit, hst, -List.map_flatten]
theorem run_append_zero {P : Program} {t u ty e e' : TypeId} {i : TypeInfo} (ht : P.underlying t = some (.slice e)) (hu : P.underlying u = some (.slice e')) (hi : P.info? e = some i) {t' : Tg} (hys : Rd E.sid w C (.row t' [])) :
  (Builtin.append_ #[t, u] ty #[.slice none 0 0, (VA.row t' [] : A).val E.sid]).run P w = .ok (.slice none 0 0) w := by
 have hf := run_rowCells (P := P) (k := i.size) hys (by simp)
 simp only [VA.val] at hf
 have hf' : (Builtin.firstCells i.size 0 (.slice t'.a 0 t'.cap)).run P w = .ok #[] w := hf
 simp [Builtin.append_, run_underlying ht, run_underlying hu, sizeOf, typeInfo, hi, VA.val, Builtin.lenOf, hf']
theorem run_append_new {P : Program} {t u ty e e' : TypeId} {i : TypeInfo} {z : Value} (ht : P.underlying t = some (.slice e)) (hu : P.underlying u = some (.slice e')) (hi : P.info? e = some i) (hz : i.zero = some z)
  {tx ty' : Tg} {xs ys : List (List A)} (hxs : Rd E.sid w C (.row tx xs)) (hkx : ∀ e ∈ xs, e.length = i.size) (hys : Rd E.sid w C (.row ty' ys)) (hky : ∀ e ∈ ys, e.length = i.size)
  (hcap : tx.cap < xs.length + ys.length) (hlim : xs.length + ys.length ≤ 1099511627776) (hby : i.bytes ≤ 128) :
  (Builtin.append_ #[t, u] ty #[(VA.row tx xs : A).val E.sid, (VA.row ty' ys : A).val E.sid]).run P w =
   .ok (.slice (some ⟨w.heap.size, 0, none⟩) (xs.length + ys.length) (grownCap w (xs.length + ys.length) tx.cap e))
    (w.drew.alloc (.cells (((xs ++ ys).flatten.map (VA.val E.sid)).toArray ++ Builtin.zeroCells z.cells (grownCap w (xs.length + ys.length) tx.cap e - (xs.length + ys.length))) e)) := by
 have hxs' : Rd E.sid w.drew C (.row tx xs) := hxs.mono (fun _ _ => id) (fun _ _ _ => rfl)
 have hys' : Rd E.sid w.drew C (.row ty' ys) := hys.mono (fun _ _ => id) (fun _ _ _ => rfl)
 have hfx := run_rowCells (P := P) hxs' hkx
 have hfy := run_rowCells (P := P) hys' hky
 simp only [VA.val] at hfx hfy
 have hn : ¬ (xs.length + ys.length ≤ tx.cap) := by omega
 have h63 : ¬ (9223372036854775807 < ((xs.length : Int) + (ys.length : Int))) := by omega
 have hfit : Builtin.nextslicecap (xs.length + ys.length) tx.cap * i.bytes ≤ 281474976710656 := growslice_fits hcap (by
  have := Nat.mul_le_mul hlim hby
  omega)
 have h48 : ¬ (281474976710656 < Builtin.nextslicecap (xs.length + ys.length) tx.cap * i.bytes) := by omega
 simp [Builtin.append_, run_underlying ht, run_underlying hu, sizeOf, typeInfo, zeroValue, hi, hz, VA.val, Builtin.lenOf, hn, h63, h48, Question.forced, hfx, hfy, newRow, grownCap, -List.map_flatten, -List.flatten_append]
 congr 2
 apply Array.ext'
 simp [List.append_assoc]
theorem made_rowc {zs : List (Cell Tg)} (h : Inv E S (zs ++ X) C a w) (hb : E.base ≤ w.heap.size) (T : TypeId) {k cap : Nat} {cur : Array Value} {es : List (List A)} (hk : ∀ e ∈ es, e.length = k) (hk0 : 0 < k) (hcap : es.length ≤ cap) (hmax : cap ≤ maxLen) (hsize : cur.size = cap * k)
  (hne : es = [] → cap = 0) (htake : cur.toList.take (es.length * k) = es.flatten.map (VA.val E.sid))
  (hs : ∀ c ∈ es.flatten, Shp E.sid w C c ∧ ∀ b ∈ c.blks, E.base ≤ b) (hcnt : ∀ b, (es.flatten.flatMap VA.blks).count b ≤ (zs.flatMap Cell.own).count b) :
  Made E S X C a (w.alloc (.cells cur T)) ⟨.val, [⟨.row ⟨some ⟨w.heap.size, 0, none⟩, cap, k⟩ es, .ow false⟩]⟩ (.slice (some ⟨w.heap.size, 0, none⟩) es.length cap) := by
 obtain ⟨h1, h2, h3⟩ := new_free h
 have hshp : ∀ c ∈ es.flatten, Shp E.sid (w.alloc (.cells cur T)) C c := fun c hc =>
  (hs c hc).1.mono (fun _ _ _ => id) (fun b hb => (pushed_grow w _).block b ((hs c hc).1.lt b hb))
 have hblks : (VA.row ⟨some ⟨w.heap.size, 0, none⟩, cap, k⟩ es : A).blks = w.heap.size :: es.flatten.flatMap VA.blks := by simp [VA.blks, blkR_map]
 refine ⟨?_, fun _ => ⟨_, rfl, rfl⟩, by simp, by simp, by simp⟩
 refine h.swapNew (rs := [⟨.row ⟨some ⟨w.heap.size, 0, none⟩, cap, k⟩ es, .ow false⟩]) (pushed_grow w _) ?_ ?_ ?_
 ·intro r hr
  simp only [List.mem_singleton] at hr
  subst hr
  refine ⟨⟨rfl, ?_, ?_⟩, by simp⟩
  ·show Shp' E.sid _ C false _
   simp only [Shp', Bool.false_eq_true, if_false]
   exact .row _ _ _ _ _ T (pushed_new w _) hcap hmax hsize hk hk0 hne htake (fun j _ => h1 j) hshp
  ·intro b hb'
   rw [hblks] at hb'
   rcases List.mem_cons.1 hb' with rfl | hb'
   ·exact hb
   ·obtain ⟨c, hc, hbc⟩ := List.mem_flatMap.1 hb'
    exact (hs c hc).2 b hbc
 ·intro b
  simp only [List.flatMap_cons, List.flatMap_nil, List.append_nil, Cell.own, hold, isOs, owns, Bool.or_false, Bool.true_or, Bool.false_eq_true, if_false, if_true, hblks, List.count_cons]
  have := hcnt b
  by_cases hb' : w.heap.size = b
  ·subst hb'
   have : (es.flatten.flatMap VA.blks).count w.heap.size = 0 := by
    rw [List.count_eq_zero]
    intro hm
    obtain ⟨c, hc, hbc⟩ := List.mem_flatMap.1 hm
    exact Nat.lt_irrefl _ ((hs c hc).1.lt _ hbc)
   simp [this]
  ·simp [hb']
   split <;> omega
 ·intro b hb'
  simp only [List.flatMap_cons, List.flatMap_nil, List.append_nil, Cell.own, hold, isOs, owns, Bool.or_false, Bool.true_or, Bool.false_eq_true, if_false, if_true, hblks] at hb'
  rcases List.mem_cons.1 hb' with rfl | hb'
  ·exact pushed_size w _
  ·obtain ⟨c, hc, hbc⟩ := List.mem_flatMap.1 hb'
   exact Nat.lt_trans ((hs c hc).1.lt _ hbc) (pushed_size w _)
theorem rd_row_block {b cap k : Nat} {cur : Array Value} {T : TypeId} {es : List (List A)} (hb : w.heap[b]? = some (.cells cur T (0, 0))) (hcap : es.length ≤ cap) (hk : ∀ e ∈ es, e.length = k)
  (htake : cur.toList.take (es.length * k) = es.flatten.map (VA.val E.sid)) (hC : ∀ j, j < es.length * k → C b j) (hs : ∀ c ∈ es.flatten, Rd E.sid w C c) : Rd E.sid w C (.row ⟨some ⟨b, 0, none⟩, cap, k⟩ es) := by
 refine .row _ _ hk hcap (fun j c hc => ?_) hs
 have hlt : j < es.length * k := by rw [← flatten_length hk]; exact (List.getElem?_eq_some_iff.1 hc).1
 refine ⟨b, 0, rfl, by rw [Nat.zero_add]; exact hC j hlt, ?_⟩
 rw [Nat.zero_add, cell_of_heap hb, ← Array.getElem?_toList]
 have h1 : (cur.toList.take (es.length * k))[j]? = (es.flatten.map (VA.val E.sid))[j]? := by rw [htake]
 rw [List.getElem?_take, if_pos hlt, List.getElem?_map, hc] at h1
 exact h1
theorem made_rowc_no {zs : List (Cell Tg)} (h : Inv E S (zs ++ X) C a w) (hb : E.base ≤ w.heap.size) (T : TypeId) {k cap : Nat} {cur : Array Value} {es : List (List A)} (hk : ∀ e ∈ es, e.length = k) (hcap : es.length ≤ cap)
  (htake : cur.toList.take (es.length * k) = es.flatten.map (VA.val E.sid)) (hs : ∀ c ∈ es.flatten, Rd E.sid w C c) :
  Made E S X (fun b j => C b j ∨ b = w.heap.size) a (w.alloc (.cells cur T)) ⟨.val, [⟨.row ⟨some ⟨w.heap.size, 0, none⟩, cap, k⟩ es, .no⟩]⟩ (.slice (some ⟨w.heap.size, 0, none⟩) es.length cap) := by
 have h1 := (h.dropAll).fresh (pushed_grow w (.cells cur T)) (Nat.le_refl _) (pushed_size w _) hb
 refine ⟨h1.addAll [_] ?_, fun _ => ⟨_, rfl, rfl⟩, by simp, by simp, by simp⟩
 simp only [List.mem_singleton]
 rintro z rfl
 refine ⟨⟨rfl, rd_row_block (pushed_new w _) hcap hk htake (fun _ _ => .inr rfl) (fun c hc => ?_)⟩, rfl, .inl (by simp)⟩
 exact (hs c hc).mono (fun _ _ => .inl) (fun b j hj => cell_same ((pushed_grow w _).block b (h.clt b j hj)))
theorem made_rowc_os {zs : List (Cell Tg)} (h : Inv E S (zs ++ X) C a w) (hb : E.base ≤ w.heap.size) (T : TypeId) {k cap : Nat} {cur : Array Value} {es : List (List A)} (hk : ∀ e ∈ es, e.length = k) (hk0 : 0 < k) (hcap : es.length ≤ cap) (hmax : cap ≤ maxLen) (hsize : cur.size = cap * k)
  (hne : es = [] → cap = 0) (htake : cur.toList.take (es.length * k) = es.flatten.map (VA.val E.sid)) (hs : ∀ c ∈ es.flatten, Rd E.sid w C c ∧ Fre E c) :
  Made E S X (fun b j => C b j ∨ (b = w.heap.size ∧ j < es.length * k)) a (w.alloc (.cells cur T)) ⟨.val, [⟨.row ⟨some ⟨w.heap.size, 0, none⟩, cap, k⟩ es, .os false⟩]⟩ (.slice (some ⟨w.heap.size, 0, none⟩) es.length cap) := by
 obtain ⟨h1, h2, h3⟩ := new_free h
 refine ⟨?_, fun _ => ⟨_, rfl, rfl⟩, by simp, by simp, by simp⟩
 refine h.swapNewC (rs := [⟨.row ⟨some ⟨w.heap.size, 0, none⟩, cap, k⟩ es, .os false⟩]) (pushed_grow w _) (fun _ _ => .inl) (fun b j hj => hj.imp id (fun e => ⟨Nat.le_of_eq e.1.symm, by rw [e.1]; exact pushed_size w _⟩)) hb ?_ ?_ ?_
 ·intro r hr
  simp only [List.mem_singleton] at hr
  subst hr
  refine ⟨⟨rfl, rd_row_block (pushed_new w _) hcap hk htake (fun j hj => .inr ⟨rfl, hj⟩) (fun c hc => ?_), ?_, ?_⟩, by simp⟩
  ·exact (hs c hc).1.mono (fun _ _ => .inl) (fun b j hj => cell_same ((pushed_grow w _).block b (h.clt b j hj)))
  ·refine ⟨.row _ _ (fun c hc => (hs c hc).2.1), fun b hb' => ?_⟩
   simp only [VA.blks, blkR_map, List.mem_append, List.mem_singleton] at hb'
   rcases hb' with rfl | hb'
   ·exact hb
   ·obtain ⟨c, hc, hbc⟩ := List.mem_flatMap.1 hb'
    exact (hs c hc).2.2 b hbc
  ·refine ⟨_, es, rfl, .inr ⟨w.heap.size, _, T, rfl, pushed_new w _, hcap, hmax, hsize, hk0, hne, fun j hj hc => ?_⟩⟩
   rcases hc with hc | hc
   ·exact h1 j hc
   ·simp only at hj; omega
 ·intro b
  simp only [List.flatMap_cons, List.flatMap_nil, List.append_nil, Cell.own, hold, isOs, owns, VA.top, Bool.false_or, if_true, List.count_singleton]
  by_cases hb' : w.heap.size = b
  ·subst hb'; simp
  ·simp [hb']
 ·intro b hb'
  simp only [List.flatMap_cons, List.flatMap_nil, List.append_nil, Cell.own, hold, isOs, owns, VA.top, Bool.false_or, if_true, List.mem_singleton] at hb'
  subst hb'
  exact pushed_size w _
def Mine (zs : List (Cell Tg)) (t : Tg) (ys : List (List A)) : Prop := (∀ c ∈ ys.flatten, scal c = true) ∨ zs = [⟨.row t ys, .ow false⟩]
theorem blks_scals {l : List A} (h : ∀ c ∈ l, scal c = true) : l.flatMap VA.blks = [] := by
 rw [List.flatMap_eq_nil_iff]
 exact fun c hc => blks_scal (h c hc)
theorem mine_elems {zs R : List (Cell Tg)} (h : Inv E S (zs ++ R) C a w) {t : Tg} {ys : List (List A)} (hm : Mine zs t ys) :
  (∀ c ∈ ys.flatten, Shp E.sid w C c ∧ ∀ b ∈ c.blks, E.base ≤ b) ∧ ∀ b, (ys.flatten.flatMap VA.blks).count b ≤ (zs.flatMap Cell.own).count b := by
 rcases hm with hm | rfl
 ·exact ⟨fun c hc => ⟨.of_scal (hm c hc), by rw [blks_scal (hm c hc)]; simp⟩, fun b => by rw [blks_scals hm]; simp⟩
 ·have hk := h.hand ⟨.row t ys, .ow false⟩ (by simp)
  obtain ⟨_, k2, k3⟩ := hk
  have k2 : Shp E.sid w C (.row t ys) := by simpa [Shp'] using k2
  refine ⟨fun c hc => ⟨?_, fun b hb => k3 b (blks_mem hc hb)⟩, fun b => ?_⟩
  ·cases k2 with
   | nil => simp at hc
   | row b cap k es cur e hb hcap hmax hsize hk hk0 hne htake hfree hr => exact hr c hc
  ·simp only [List.flatMap_cons, List.flatMap_nil, List.append_nil, Cell.own, hold, isOs, owns, Bool.or_false, Bool.true_or, Bool.false_eq_true, if_false, if_true, VA.blks, List.count_append, blkR_map]
   omega
end
end Go.Vm
end
