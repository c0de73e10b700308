/- The value machine, part 6: code read as work on values, and its soundness over memory. -/
import Derived.Test.YthfbmkhjanmeaaaVmE
import Derived.Lib.LazyBuf
import Derived.WalkSpells
set_option maxHeartbeats 4000000
set_option maxRecDepth 10000
set_option linter.unusedVariables false
set_option linter.unusedSimpArgs false
section
namespace Go.Vm
abbrev Mp := List (Nat × SU)
def FM.wpL {α : Type} (L : Nat) : FM α → Mp → List Nat → List Nat → (α → Mp → List Nat → List Nat → Prop) → Prop
 | .ret a, m, r, w, Q => Q a m r w
 | .get i k, m, r, w, Q => match Nat.blt i L with
  | true => (k (look m i)).wpL L m (i :: r) w Q
  | false => False
 | .set i s k, m, r, w, Q => match Nat.blt i L with
  | true => k.wpL L (ins m i s) (i :: r) (i :: w) Q
  | false => False
 | .fail, _, _, _, _ => False
theorem wpL_run {α : Type} {L : Nat} : ∀ (p : FM α) {m : Mp} {r w : List Nat} {Q : α → Mp → List Nat → List Nat → Prop}, p.wpL L m r w Q →
  ∃ a m', p.run (S L m) = some (a, S L m') ∧ Q a m' ((p.log (S L m)).1.reverse ++ r) ((p.log (S L m)).2.reverse ++ w)
 | .ret a, m, r, w, Q, h => ⟨a, m, rfl, h⟩
 | .get i k, m, r, w, Q, h => by
  unfold FM.wpL at h
  split at h
  ·rename_i hb
   have hi : i < L := by simpa [Nat.blt_eq] using hb
   have hg : (S L m)[i]? = some (look m i) := by rw [S_get, if_pos hi]
   obtain ⟨a, m', h1, h2⟩ := wpL_run (k (look m i)) h
   refine ⟨a, m', by simp only [FM.run, hg]; exact h1, ?_⟩
   simp only [FM.log, hg, List.reverse_cons, List.append_assoc, List.singleton_append]
   exact h2
  ·exact h.elim
 | .set i s k, m, r, w, Q, h => by
  unfold FM.wpL at h
  split at h
  ·rename_i hb
   have hi : i < L := by simpa [Nat.blt_eq] using hb
   obtain ⟨a, m', h1, h2⟩ := wpL_run k h
   refine ⟨a, m', by simp only [FM.run, S_len, hi, if_true, S_set]; exact h1, ?_⟩
   simp only [FM.log, S_len, hi, if_true, S_set, List.reverse_cons, List.append_assoc, List.singleton_append]
   exact h2
  ·exact h.elim
 | .fail, m, r, w, Q, h => h.elim
section
variable (P : Prims) (O : Orac) (md : Modes) (nt L : Nat)
def retK (g : Nat) (as : List SU) (b : Bool) : FM SU := match O g as with
 | some ⟨rs, [], none⟩ => match b || rs.all noNo with
  | true => .ret (retSl rs)
  | false => .fail
 | _ => .fail
def boxK (g : Nat) (as : List SU) (r : Nat) (t : Unit) (cs0 : List (Cell Unit)) : FM SU := match O g as with
 | some ⟨rs, [], some cs⟩ => (opt (reBox cs cs0)).bind fun cs' => (setS r ⟨.box t, cs'⟩).bind fun _ => .ret (retSl rs)
 | _ => .fail
def callValsP (g : Nat) (args : List Opd) (caps : List V) : FM SU :=
 (argVs 0 args).bind fun as => retK O g (as ++ capSlots caps) (as.all noCaps && caps.isEmpty)
def callBoxP (g : Nat) (xs : List Opd) (r : Nat) (b : SU) : FM SU :=
 match b.k with
 | .box t => match plainBox b.cs with
  | true => (opt (boxArg b)).bind fun b' => (argVs 1 xs).bind fun as => match as.all noCaps with
    | false => .fail
    | true => boxK O g (b' :: as) r t b.cs
  | false => .fail
 | _ => .fail
def callK (g : Nat) (args : List Opd) (ms : List Pm) : FM SU := match ms with
 | .mbox :: ms => match args with
  | x :: xs => match isMut ms with
   | true => .fail
   | false => (rootOf x).bind fun r => (getS r).bind fun b => callBoxP O g xs r b
  | [] => .fail
 | ms => match isMut ms with
  | true => .fail
  | false => callValsP O g args []
def evalCallP : Ir → FM SU
 | .call g args => callK O g args (md g)
 | .callv f args => (opd f).bind fun sl =>
  match sl.k, sl.cs with
  | .val, [⟨.fn g caps, .sh⟩] => match isMut (md g) with
   | true => .fail
   | false => callValsP O g args caps
  | .clo g roots, _ => match isMut (md g) with
   | true => .fail
   | false => (capsOf roots).bind fun caps => callValsP O g args caps
  | _, _ => .fail
 | op => evalIrP P nt op
def evalIoP (o : Io) : FM Unit :=
 match o.op, o.dst with
 | .assign x, some d => evalAssign nt d x
 | .store n a x, none => evalStore n a x
 | op, some d => (evalCallP P O md nt op).bind fun s => putS nt d s
 | op, none => (evalCallP P O md nt op).bind fun _ => .ret ()
def wantC (g : Option (Nat × Bool)) (m : Mp) (k : Bool → List Nat → Prop) : Prop := match g with
 | none => k true []
 | some (j, b) => match Nat.blt j L with
  | false => False
  | true => match (look m j).k, (look m j).cs with
   | .val, [c] => match c.v with
    | .bool x => match x with
     | true => k b [j]
     | false => k (!b) [j]
    | _ => False
   | .und, _ => k false [j]
   | _, _ => False
def rowAtL (m : Mp) (s c : Nat) : Option (List (List V) × Fl) := match Nat.blt s L with
 | true => match (look m s).cs[c]? with
  | some ⟨.row _ es, .ow false⟩ => some (es, .ow false)
  | some ⟨.row _ es, .mp i⟩ => some (es, .mp i)
  | _ => none
 | false => none
def setRowL (m : Mp) (s c : Nat) (v : V) : Mp := match (look m s).cs[c]? with
 | some x => ins m s ⟨(look m s).k, (look m s).cs.set c ⟨v, x.f⟩⟩
 | none => m
def homeIsL (p : Fl → Bool) (m : Mp) (h : Nat × Nat × Option Nat) : Bool := match rowAtL L m h.1 h.2.1 with
 | some (_, f) => p f
 | none => false
def homeOkL (m : Mp) (hs : List (Nat × Nat × Option Nat)) : Bool := hs.all (homeIsL L isOw m) || hs.all (homeIsL L isMp m)
def putOutsL : List (Nat × Nat × Option Nat) → List V → Mp → (Mp → Prop) → Prop
 | [], [], m, Q => Q m
 | (s, c, ix) :: hs, v :: vs, m, Q =>
  match rowAtL L m s c with
  | none => False
  | some (es, _) => match ix with
   | none => putOutsL hs vs (setRowL m s c v) Q
   | some ix => match P.set es ix [v] with
    | some es' => putOutsL hs vs (setRowL m s c (.row () es')) Q
    | none => False
 | _, _, _, _ => False
def mutK (d : Option Nat) (hs : List (Nat × Nat × Option Nat)) (m : Mp) (Q : Mp → Prop) (g : Nat) (as : List SU) : Prop := match O g as with
 | some ⟨rs, outs, none⟩ => putOutsL P L hs outs (los m) fun m => match d with
  | none => Q m
  | some d => match Nat.blt d L && freeS (look m d) && Nat.blt d nt && rs.all scalS with
   | true => Q (ins m d (retSl rs))
   | false => False
 | _ => False
def wpEff (o : Io) (m : Mp) (Q : Mp → Prop) : Prop := match o.op, o.dst with
 | .clear, some d => match Nat.blt d L && freeS (look m d) && Nat.blt d nt with
  | true => Q (del m d)
  | false => False
 | .rstore n a x, none => (opd a).wpL L m [] [] fun sl m _ _ => match sl.k with
  | .ept _ (some (s, c)) ix => (takeAp s c ix x).wpL L m [] [] fun cs m _ _ => match Nat.blt 0 n && Nat.beq cs.length n && owned cs with
   | true => match rowAtL L (los m) s c with
    | some (es, _) => match P.set es ix (vals cs) with
     | some es' => Q (setRowL (los m) s c (.row () es'))
     | none => False
    | none => False
   | false => False
  | _ => False
 | .call g args, d => match md g, args with
  | .mrow :: ms, x :: xs => match isMut ms with
   | true => False
   | false => (opd x).wpL L m [] [] fun sl m _ _ => match valAgg sl.k with
    | false => False
    | true => match homes (slotOf x) 0 sl.cs with
     | none => False
     | some hs => match apartHomes hs && homeOkL L m hs with
      | false => False
      | true => (opds xs).wpL L m [] [] fun as m _ _ => match as.all scalS with
       | false => False
       | true => mutK P O nt L d hs m Q g (⟨sl.k, mpCells 0 sl.cs⟩ :: as)
  | _, _ => False
 | _, _ => False
def lgR (l : Lg) : Lg := l.map fun l => (l.1.reverse, l.2.reverse)
def chk (an : List Nat) (before : List Lg) (l : Lg) : Bool := before.zipIdx.all fun (m, i) => an.contains i || swaps m l
def nextIo (d : Bool) (an : List Nat) (before : List Lg) (l : Lg) (k : List Lg → Prop) : Prop := match d with
 | false => k []
 | true => match chk an before l with
  | true => k (before ++ [l])
  | false => False
def wpIos (d : Bool) : List Io → Mp → List Lg → (Mp → Prop) → Prop
 | [], m, _, Q => Q m
 | o :: os, m, before, Q => wantC L o.guard m fun x r => match effect md o.op with
  | false => match x with
   | true => (evalIoP P O md nt o).wpL L m r [] fun _ m r w => nextIo d o.anc before (some (r, w)) fun b => wpIos d os m b Q
   | false => (skipF nt o).wpL L m r [] fun _ m r w => nextIo d o.anc before (some (r, w)) fun b => wpIos d os m b Q
  | true => match x with
   | true => wpEff P O md nt L o m fun m => nextIo d o.anc before none fun b => wpIos d os m b Q
   | false => (skipF nt o).wpL L m [] [] fun _ m _ _ => nextIo d o.anc before none fun b => wpIos d os m b Q
def Wp (c : Cd) (st : St) (Q : Ex → St → Prop) : Prop := ∃ n ex st', code O md nt n c st = some (ex, st') ∧ Q ex st'
inductive LoopP (c : Cd) (m : Mp) (Q : Ex → Mp → Prop) : Prop
 | mk (h : Wp O md nt (.loop c) (S L m) fun ex st => ∃ m', st = S L m' ∧ Q ex m')
def wpc : Cd → Mp → (Ex → Mp → Prop) → Prop
 | .skip, m, Q => Q .normal m
 | .region d k0 k1 ops, m, Q => wpIos P O md nt L d ops (kil (lockS nt :: k0) m) [] fun m => Q .normal (kil (lockS nt :: k1) m)
 | .seq a b, m, Q => wpc a m fun ex m => match ex with
  | .normal => wpc b m Q
  | .exit i => Q (.exit i) m
  | .ret => Q .ret m
 | .cond x a b, m, Q => match x with
  | .t i => match Nat.blt i L with
   | true => match (look m i).k, (look m i).cs with
    | .val, [⟨.bool b', _⟩] => match b' with
     | true => wpc a (del m i) Q
     | false => wpc b (del m i) Q
    | _, _ => False
   | false => False
  | .c false [.bool b'] => match b' with
   | true => wpc a m Q
   | false => wpc b m Q
  | _ => False
 | .block id c, m, Q => wpc c m fun ex m => match ex with
  | .exit i => match Nat.beq i id with
   | true => Q .normal m
   | false => Q (.exit i) m
  | .normal => Q .normal m
  | .ret => Q .ret m
 | .loop c, m, Q => LoopP O md nt L c m Q
 | .exit id, m, Q => Q (.exit id) m
 | .ret, m, Q => Q .ret m
 | .bad, _, _ => False
end
section
variable {O : Orac} {md : Modes} {nt L : Nat}
theorem retK_eq (g : Nat) (as : List SU) (b : Bool) : retK O g as b = (match O g as with | some ⟨rs, [], none⟩ => if b || rs.all noNo then .ret (retSl rs) else .fail | _ => .fail) := by
 unfold retK
 split
 ·split <;> rename_i h <;> simp [h]
 ·rfl
theorem callVals_std (g : Nat) (args : List Opd) (caps : List V) : callValsP O g args caps = callVals O g args caps := by
 unfold callValsP callVals
 refine bind_ext fun as => ?_
 rw [retK_eq]
 cases O g (as ++ capSlots caps) with
 | none => rfl
 | some x =>
  obtain ⟨rs, outs, ob⟩ := x
  cases outs <;> cases ob <;> rfl
theorem callBox_std (g : Nat) (xs : List Opd) (r : Nat) (b : SU) : callBoxP O g xs r b = callBox O g xs r b := by
 unfold callBoxP callBox
 cases b.k with
 | box t =>
  simp only
  cases plainBox b.cs with
  | true =>
   simp only [if_true]
   refine bind_ext fun b' => bind_ext fun as => ?_
   cases h : as.all noCaps <;> rfl
  | false => rfl
 | _ => rfl
theorem evalCall_std (op : Ir) : evalCallP std O md nt op = evalCall O md nt op := by
 cases op with
 | call g args =>
  unfold evalCallP evalCall
  simp only
  generalize md g = l
  have v : ∀ l : List Pm, (match isMut l with | true => (.fail : FM SU) | false => callValsP O g args []) = if isMut l then .fail else callVals O g args [] := by
   intro l
   cases isMut l with
   | true => rfl
   | false => exact callVals_std g args []
  match l with
  | [] => exact v []
  | .val :: ms => exact v (.val :: ms)
  | .mrow :: ms => exact v (.mrow :: ms)
  | .mbox :: ms =>
   cases args with
   | nil => rfl
   | cons x xs =>
    show (match isMut ms with | true => (.fail : FM SU) | false => (rootOf x).bind fun r => (getS r).bind fun b => callBoxP O g xs r b) = if isMut ms then .fail else (rootOf x).bind fun r => (getS r).bind fun b => callBox O g xs r b
    cases isMut ms with
    | true => rfl
    | false => exact bind_ext fun r => bind_ext fun b => callBox_std g xs r b
 | callv f args =>
  unfold evalCallP evalCall
  refine bind_ext fun sl => ?_
  obtain ⟨k, cs⟩ := sl
  have v : ∀ g caps, (match isMut (md g) with | true => (.fail : FM SU) | false => callValsP O g args caps) = if isMut (md g) then .fail else callVals O g args caps := by
   intro g caps
   cases isMut (md g) with
   | true => rfl
   | false => exact callVals_std g args caps
  cases k with
  | val => match cs with
   | [] => rfl
   | [⟨w, f⟩] => cases w with
    | fn g caps => cases f with
     | sh => exact v g caps
     | _ => rfl
    | _ => rfl
   | ⟨w, f⟩ :: _ :: _ => cases w with
    | fn g caps => cases f <;> rfl
    | _ => rfl
  | clo g roots =>
   show (match isMut (md g) with | true => (.fail : FM SU) | false => (capsOf roots).bind fun caps => callValsP O g args caps) = if isMut (md g) then .fail else (capsOf roots).bind fun caps => callVals O g args caps
   cases isMut (md g) with
   | true => rfl
   | false => exact bind_ext fun caps => callVals_std g args caps
  | _ => rfl
 | _ => first | rfl | (unfold evalCallP evalCall; exact evalIr_std nt _)
theorem evalIo_std (o : Io) : evalIoP std O md nt o = evalIo O md nt o := by
 obtain ⟨d, op, g, an⟩ := o
 unfold evalIoP evalIo
 cases op <;> cases d <;> simp only [evalCall_std]
theorem want_run {o : Io} {m : Mp} {k : Bool → List Nat → Prop} (h : wantC L o.guard m k) : ∃ x r, (wantF o).run (S L m) = some (x, S L m) ∧ (wantF o).log (S L m) = (r.reverse, []) ∧ k x r := by
 unfold wantC at h
 unfold wantF
 cases hg : o.guard with
 | none =>
  rw [hg] at h
  exact ⟨true, [], rfl, rfl, h⟩
 | some p =>
  obtain ⟨j, b⟩ := p
  rw [hg] at h
  simp only at h ⊢
  split at h
  ·exact h.elim
  ·rename_i hb
   have hj : j < L := by simpa [Nat.blt_eq] using hb
   have hget : (S L m)[j]? = some (look m j) := by rw [S_get, if_pos hj]
   have e1 : (getS j).run (S L m) = some (look m j, S L m) := by simp only [getS, FM.run, hget]
   have e2 : (getS j).log (S L m) = ([j], []) := by simp only [getS, FM.log, hget]
   rw [FM.run_bind, e1, FM.log_bind _ _ e1, e2]
   generalize look m j = sl at h ⊢
   obtain ⟨kd, cs⟩ := sl
   cases kd with
   | und => exact ⟨false, [j], rfl, rfl, h⟩
   | val => match cs, h with
    | [], h => exact h.elim
    | [c], h =>
     obtain ⟨v, f⟩ := c
     cases v with
     | bool x => cases x with
      | true => cases b <;> exact ⟨_, [j], rfl, rfl, h⟩
      | false => cases b <;> exact ⟨_, [j], rfl, rfl, h⟩
     | _ => exact h.elim
    | c :: c' :: r, h => exact h.elim
   | _ => exact h.elim
theorem rowAt_L {m : Mp} {s c : Nat} : rowAtL L m s c = rowAt (S L m) s c := by
 unfold rowAtL rowAt
 rw [S_get]
 by_cases h : s < L
 ·have hb : Nat.blt s L = true := by simpa [Nat.blt_eq] using h
  rw [hb, if_pos h]
  simp only
  cases (look m s).cs[c]? with
  | none => rfl
  | some x =>
   obtain ⟨v, f⟩ := x
   cases v with
   | row t es => cases f with
    | ow g => cases g <;> rfl
    | _ => rfl
   | _ => rfl
 ·have hb : Nat.blt s L = false := by
   cases hb : Nat.blt s L
   ·rfl
   ·exact absurd (by simpa [Nat.blt_eq] using hb) h
  rw [hb, if_neg h]
theorem setRow_L {m : Mp} {s c : Nat} {v : V} (hs : s < L) : S L (setRowL m s c v) = setRow (S L m) s c v := by
 unfold setRowL setRow
 rw [S_get, if_pos hs]
 cases h : (look m s).cs[c]? with
 | some x => simp only [h]; rw [S_set]
 | none => simp only [h]
theorem rowAtL_lt {m : Mp} {s c : Nat} {r : List (List V) × Fl} (h : rowAtL L m s c = some r) : s < L := by
 unfold rowAtL at h
 split at h
 ·rename_i hb; simpa [Nat.blt_eq] using hb
 ·cases h
theorem homeOk_L {m : Mp} (hs : List (Nat × Nat × Option Nat)) : homeOkL L m hs = homeOk (S L m) hs := by
 unfold homeOkL homeOk
 have : ∀ p, homeIsL L p m = homeIs p (S L m) := by
  intro p; funext h
  unfold homeIsL homeIs
  rw [rowAt_L]
  cases rowAt (S L m) h.1 h.2.1 <;> rfl
 rw [this, this]
theorem putOuts_L : ∀ (hs : List (Nat × Nat × Option Nat)) (vs : List V) (m : Mp) {Q : Mp → Prop}, putOutsL std L hs vs m Q → ∃ m', putOuts hs vs (S L m) = some (S L m') ∧ Q m'
 | [], [], m, Q, h => ⟨m, rfl, h⟩
 | [], _ :: _, m, Q, h => h.elim
 | _ :: _, [], m, Q, h => h.elim
 | (s, c, ix) :: hs, v :: vs, m, Q, h => by
  unfold putOutsL at h
  unfold putOuts
  rw [← rowAt_L]
  split at h
  ·exact h.elim
  ·rename_i es f hr
   rw [hr]
   have hlt := rowAtL_lt hr
   split at h
   ·simp only
    rw [← setRow_L hlt]
    exact putOuts_L hs vs _ h
   ·rename_i ix
    simp only
    have e : std.set es ix [v] = setFlat es ix [v] := rfl
    rw [e] at h
    split at h
    ·rename_i es' hset
     rw [hset]
     simp only
     rw [← setRow_L hlt]
     exact putOuts_L hs vs _ h
    ·exact h.elim
theorem eff_sound {o : Io} {m : Mp} {Q : Mp → Prop} (h : wpEff std O md nt L o m Q) : ∃ m', stepEff O md nt o (S L m) = some (S L m') ∧ Q m' := by
 obtain ⟨d, op, g, an⟩ := o
 unfold wpEff at h
 simp only at h
 split at h
 ·rename_i d
  split at h
  ·rename_i hb
   simp only [Bool.and_eq_true, Nat.blt_eq] at hb
   refine ⟨_, ?_, h⟩
   unfold stepEff
   simp only
   rw [S_get, if_pos hb.1.1]
   simp only [hb.1.2, hb.2, and_self, if_true, S_del]
  ·exact h.elim
 ·rename_i n a x
  obtain ⟨sl, m1, h1, h2⟩ := wpL_run _ h
  split at h2
  ·rename_i t s c ix hk
   obtain ⟨cs, m2, h3, h4⟩ := wpL_run _ h2
   split at h4
   ·rename_i hb
    simp only [Bool.and_eq_true, Nat.blt_eq, Nat.beq_eq] at hb
    split at h4
    ·rename_i es f hr
     have e : std.set es ix (vals cs) = setFlat es ix (vals cs) := rfl
     rw [e] at h4
     split at h4
     ·rename_i es' hset
      refine ⟨_, ?_, h4⟩
      unfold stepEff storeS
      simp only [runFM, h1, hk, h3]
      rw [if_pos ⟨by omega, hb.1.2, hb.2⟩, S_lose, ← rowAt_L, hr]
      simp only [hset]
      rw [← setRow_L (rowAtL_lt hr)]
     ·exact h4.elim
    ·exact h4.elim
   ·exact h4.elim
  ·exact h2.elim
 ·rename_i gf args d'
  split at h
  ·rename_i ms x xs hm
   split at h
   ·exact h.elim
   ·rename_i hmut
    obtain ⟨sl, m1, h1, h2⟩ := wpL_run _ h
    split at h2
    ·exact h2.elim
    ·rename_i hv
     split at h2
     ·exact h2.elim
     ·rename_i hs hh
      split at h2
      ·exact h2.elim
      ·rename_i hap
       obtain ⟨as, m2, h3, h4⟩ := wpL_run _ h2
       split at h4
       ·exact h4.elim
       ·rename_i hsc
        unfold mutK at h4
        split at h4
        ·rename_i rs outs hO
         obtain ⟨m3, h5, h6⟩ := putOuts_L hs outs _ h4
         rw [homeOk_L] at hap
         unfold stepEff
         simp only
         unfold callM
         rw [hm]
         simp only [hmut, Bool.false_eq_true, if_false, runFM, h1, hv, if_true, hh, hap, h3, hsc, hO, S_lose, h5]
         split at h6
         ·exact ⟨_, rfl, h6⟩
         ·rename_i d
          split at h6
          ·rename_i hb
           simp only [Bool.and_eq_true, Nat.blt_eq] at hb
           refine ⟨_, ?_, h6⟩
           simp only
           rw [S_get, if_pos hb.1.1.1]
           simp only [hb.1.1.2, hb.1.2, hb.2, and_self, if_true, S_set]
          ·exact h6.elim
        ·exact h4.elim
  ·exact h.elim
 ·exact h.elim
theorem disj_rev (a b : List Nat) : disj a.reverse b.reverse = disj a b := by
 unfold disj
 rw [List.all_reverse]
 congr 1
 funext x
 simp
theorem swaps_rev (a b : Lg) : swaps (lgR a) (lgR b) = swaps a b := by
 cases a <;> cases b <;> simp [swaps, lgR, disj_rev]
theorem chk_rev (an : List Nat) (before : List Lg) (l : Lg) : chk an (before.map lgR) (lgR l) = chk an before l := by
 unfold chk
 have key : ∀ (bs : List Lg) (n : Nat), ((bs.map lgR).zipIdx n).all (fun (m, i) => an.contains i || swaps m (lgR l)) = (bs.zipIdx n).all (fun (m, i) => an.contains i || swaps m l) := by
  intro bs
  induction bs with
  | nil => intro n; rfl
  | cons b bs ih =>
   intro n
   simp only [List.map_cons, List.zipIdx_cons, List.all_cons, swaps_rev, ih]
 exact key before 0
theorem ios_sound {d : Bool} : ∀ (ops : List Io) (m : Mp) (bs : List Lg) {b : List Lg} {Q : Mp → Prop}, (d = true → b = bs.map lgR) → wpIos std O md nt L d ops m b Q →
  ∃ m', stepIos O md nt ops (S L m) = some (S L m') ∧ (d = true → drawOk ops (logs O md nt ops (S L m)) bs = true) ∧ Q m'
 | [], m, bs, b, Q, hb, h => ⟨m, rfl, fun _ => by simp [drawOk], h⟩
 | o :: os, m, bs, b, Q, hb, h => by
  have fin : ∀ {m1 : Mp} (l : Lg), stepIo O md nt o (S L m) = some (S L m1) → lgR (logIo O md nt o (S L m)) = l →
    nextIo d o.anc b l (fun b => wpIos std O md nt L d os m1 b Q) → ∃ m', stepIos O md nt (o :: os) (S L m) = some (S L m') ∧ (d = true → drawOk (o :: os) (logs O md nt (o :: os) (S L m)) bs = true) ∧ Q m' := by
   intro m1 l h1 hl hq
   unfold nextIo at hq
   cases d with
   | false =>
    obtain ⟨m', k1, _, k3⟩ := ios_sound os m1 [] (by simp) hq
    exact ⟨m', by unfold stepIos; rw [h1]; exact k1, by simp, k3⟩
   | true =>
    simp only at hq
    split at hq
    ·rename_i hc
     have hb := hb rfl
     obtain ⟨m', k1, k2, k3⟩ := ios_sound os m1 (bs ++ [logIo O md nt o (S L m)]) (fun _ => by rw [hb, List.map_append, ← hl]; rfl) hq
     refine ⟨m', by unfold stepIos; rw [h1]; exact k1, fun _ => ?_, k3⟩
     unfold logs
     rw [h1]
     simp only [drawOk, Bool.and_eq_true]
     refine ⟨?_, k2 rfl⟩
     rw [hb, ← hl] at hc
     exact (chk_rev _ _ _).symm.trans hc
    ·exact hq.elim
  unfold wpIos at h
  obtain ⟨x, r, hw, hlw, h⟩ := want_run h
  split at h
  ·rename_i he
   split at h
   ·rw [evalIo_std] at h
    obtain ⟨u, m1, h1, h2⟩ := wpL_run _ h
    refine fin _ ?_ ?_ h2
    ·unfold stepIo runFM ioF
     simp only [he, Bool.false_eq_true, if_false, FM.run_bind, hw, if_true, h1]
    ·unfold logIo ioF
     simp only [he, Bool.false_eq_true, if_false, lgR, Option.map_some, FM.log_bind _ _ hw, hlw, if_true, List.reverse_append, List.reverse_reverse, List.nil_append, List.append_nil]
   ·obtain ⟨u, m1, h1, h2⟩ := wpL_run _ h
    refine fin _ ?_ ?_ h2
    ·unfold stepIo runFM ioF
     simp only [he, Bool.false_eq_true, if_false, FM.run_bind, hw, h1]
    ·unfold logIo ioF
     simp only [he, Bool.false_eq_true, if_false, lgR, Option.map_some, FM.log_bind _ _ hw, hlw, List.reverse_append, List.reverse_reverse, List.nil_append, List.append_nil]
  ·rename_i he
   have hl : lgR (logIo O md nt o (S L m)) = none := by
    unfold logIo
    simp only [he, if_true, lgR, Option.map_none]
   split at h
   ·obtain ⟨m2, h3, h4⟩ := eff_sound h
    refine fin _ ?_ hl h4
    unfold stepIo effF runFM
    simp only [he, if_true, hw, h3]
   ·obtain ⟨u, m2, h3, h4⟩ := wpL_run _ h
    refine fin _ ?_ hl h4
    unfold stepIo effF runFM
    simp only [he, if_true, hw, Bool.false_eq_true, if_false, h3]
theorem code_mono {c : Cd} {m k : Nat} {st : St} {r : Ex × St} (h : code O md nt m c st = some r) (hk : m ≤ k) : code O md nt k c st = some r := by
 obtain ⟨N, hN⟩ := ev_code (O := O) (o := fun _ => O) (fun g args r h => Ev.of fun _ => h) _ _ _ h
 exact hN N (Nat.le_refl _) k hk
variable {st : St} {Qe : Ex → St → Prop}
theorem Wp.mono {c : Cd} {Q' : Ex → St → Prop} (h : Wp O md nt c st Q') (hq : ∀ ex st, Q' ex st → Qe ex st) : Wp O md nt c st Qe := by
 obtain ⟨m, ex, st', h1, h2⟩ := h
 exact ⟨m, ex, st', h1, hq _ _ h2⟩
theorem Wp_seq {a b : Cd} (h : Wp O md nt a st (fun ex st' => match ex with | .normal => Wp O md nt b st' Qe | .exit i => Qe (.exit i) st' | .ret => Qe .ret st')) : Wp O md nt (.seq a b) st Qe := by
 obtain ⟨m, ex, s1, h1, hQ⟩ := h
 cases ex with
 | normal =>
  obtain ⟨k, ex, st', h2, hQ⟩ := hQ
  exact ⟨m + k, ex, st', by unfold code; rw [code_mono h1 (Nat.le_add_right m k)]; exact code_mono h2 (Nat.le_add_left k m), hQ⟩
 | exit i => exact ⟨m, .exit i, s1, by unfold code; rw [h1], hQ⟩
 | ret => exact ⟨m, .ret, s1, by unfold code; rw [h1], hQ⟩
theorem Wp_block {id : Nat} {c : Cd} (h : Wp O md nt c st (fun ex st' => match ex with | .exit i => if i = id then Qe .normal st' else Qe (.exit i) st' | ex => Qe ex st')) : Wp O md nt (.block id c) st Qe := by
 obtain ⟨m, ex, s1, h1, hQ⟩ := h
 cases ex with
 | normal => exact ⟨m, .normal, s1, by unfold code; rw [h1], hQ⟩
 | ret => exact ⟨m, .ret, s1, by unfold code; rw [h1], hQ⟩
 | exit i =>
  simp only at hQ
  split at hQ
  ·rename_i hi
   exact ⟨m, .normal, s1, by unfold code; rw [h1]; simp [hi], hQ⟩
  ·rename_i hi
   exact ⟨m, .exit i, s1, by unfold code; rw [h1]; simp [hi], hQ⟩
theorem Wp_loop {c : Cd} (h : Wp O md nt c st (fun ex st' => match ex with | .normal => Wp O md nt (.loop c) st' Qe | .exit i => Qe (.exit i) st' | .ret => Qe .ret st')) : Wp O md nt (.loop c) st Qe := by
 obtain ⟨m, ex, s1, h1, hQ⟩ := h
 cases ex with
 | normal =>
  obtain ⟨k, ex, st', h2, hQ⟩ := hQ
  refine ⟨m + k + 1, ex, st', ?_, hQ⟩
  have h3 := code_mono h2 (Nat.le_add_left k m)
  unfold code at h3 ⊢
  unfold loopN
  rw [code_mono h1 (by omega : m ≤ m + k + 1)]
  exact loopN_mono (fun st r hr => code_mono hr (Nat.le_succ _)) _ _ _ (Nat.le_refl _) h3
 | exit i => exact ⟨m + 1, .exit i, s1, by unfold code loopN; rw [code_mono h1 (Nat.le_succ m)], hQ⟩
 | ret => exact ⟨m + 1, .ret, s1, by unfold code loopN; rw [code_mono h1 (Nat.le_succ m)], hQ⟩
theorem wpc_sound : ∀ (c : Cd) (m : Mp) {Q : Ex → Mp → Prop}, wpc std O md nt L c m Q → Wp O md nt c (S L m) fun ex st => ∃ m', st = S L m' ∧ Q ex m'
 | .skip, m, Q, h => ⟨0, .normal, _, rfl, m, rfl, h⟩
 | .exit i, m, Q, h => ⟨0, .exit i, _, rfl, m, rfl, h⟩
 | .ret, m, Q, h => ⟨0, .ret, _, rfl, m, rfl, h⟩
 | .bad, m, Q, h => h.elim
 | .loop c, m, Q, h => by
  obtain ⟨h⟩ := h
  exact h
 | .region d k0 k1 ops, m, Q, h => by
  unfold wpc at h
  obtain ⟨m', h1, h2, h3⟩ := ios_sound ops _ [] (by simp) h
  refine ⟨0, .normal, _, ?_, _, rfl, h3⟩
  unfold code region
  rw [S_kill, h1]
  have : ¬ ((d && !drawOk ops (logs O md nt ops (S L (kil (lockS nt :: k0) m))) []) = true) := by
   cases d with
   | false => simp
   | true => simp [h2 rfl]
  rw [if_neg this]
  simp only
  rw [S_kill]
 | .seq a b, m, Q, h => by
  unfold wpc at h
  refine Wp_seq ((wpc_sound a m h).mono fun ex st hq => ?_)
  obtain ⟨m', rfl, hq⟩ := hq
  cases ex with
  | normal => exact wpc_sound b m' hq
  | exit i => exact ⟨m', rfl, hq⟩
  | ret => exact ⟨m', rfl, hq⟩
 | .cond x a b, m, Q, h => by
  unfold wpc at h
  split at h
  ·rename_i i
   split at h
   ·rename_i hb
    have hi : i < L := by simpa [Nat.blt_eq] using hb
    have hg : (S L m)[i]? = some (look m i) := by rw [S_get, if_pos hi]
    split at h
    ·rename_i b' f hk hcs
     have hc : condS (.t i) (S L m) = some (b', S L (del m i)) := by
      unfold condS
      simp only [hg, hk, hcs, S_del]
     split at h
     ·obtain ⟨n, ex, st', h1, h2⟩ := wpc_sound a _ h
      exact ⟨n, ex, st', by unfold code; rw [hc]; exact h1, h2⟩
     ·obtain ⟨n, ex, st', h1, h2⟩ := wpc_sound b _ h
      exact ⟨n, ex, st', by unfold code; rw [hc]; exact h1, h2⟩
    ·exact h.elim
   ·exact h.elim
  ·rename_i b'
   split at h
   ·obtain ⟨n, ex, st', h1, h2⟩ := wpc_sound a _ h
    exact ⟨n, ex, st', by unfold code; exact h1, h2⟩
   ·obtain ⟨n, ex, st', h1, h2⟩ := wpc_sound b _ h
    exact ⟨n, ex, st', by unfold code; exact h1, h2⟩
  ·exact h.elim
 | .block id c, m, Q, h => by
  unfold wpc at h
  refine Wp_block ((wpc_sound c m h).mono fun ex st hq => ?_)
  obtain ⟨m', rfl, hq⟩ := hq
  cases ex with
  | normal => exact ⟨m', rfl, hq⟩
  | ret => exact ⟨m', rfl, hq⟩
  | exit i =>
   simp only at hq ⊢
   split at hq
   ·rename_i hb
    rw [if_pos (by simpa [Nat.beq_eq] using hb)]
    exact ⟨m', rfl, hq⟩
   ·rename_i hb
    rw [if_neg (fun e => by subst e; simp at hb)]
    exact ⟨m', rfl, hq⟩
theorem loop_round {P : Prims} (hP : P = std) {c : Cd} {m : Mp} {Q : Ex → Mp → Prop} (h : wpc P O md nt L c m fun ex m => match ex with | .normal => LoopP O md nt L c m Q | .exit i => Q (.exit i) m | .ret => Q .ret m) : LoopP O md nt L c m Q := by
 subst hP
 refine ⟨Wp_loop ((wpc_sound c m h).mono fun ex st hq => ?_)⟩
 obtain ⟨m', rfl, hq⟩ := hq
 cases ex with
 | normal => exact hq.1
 | exit i => exact ⟨m', rfl, hq⟩
 | ret => exact ⟨m', rfl, hq⟩
end
def finQ (fn : FnIr) (args : List SU) (L : Nat) (r : Ret) (ex : Ex) (m : Mp) : Prop := match ex with
 | .normal => finish fn args (S L m) = some r
 | .ret => finish fn args (S L m) = some r
 | .exit _ => False
theorem fix_wp {T : Nat → Option FnIr} {md : Modes} {g : Nat} {fn : FnIr} (hT : T g = some fn) (hsp : fn.sp = 0) {args : List SU} (hlen : args.length = fn.np) (hle : fn.np ≤ fn.ntmps) {r : Ret} {m : Mp} (hm : start fn (shutArgs fn.modes args) = S (2 * fn.ntmps + 2) m)
  (hw : wpc std (fix T md) md fn.ntmps (2 * fn.ntmps + 2) fn.body m (finQ fn (shutArgs fn.modes args) (2 * fn.ntmps + 2) r)) : fix T md g args = some r := by
 obtain ⟨n, ex, st, h, m', rfl, hq⟩ := wpc_sound _ _ hw
 rw [← hm] at h
 cases ex with
 | normal => exact fix_body hT hsp hlen hle h (.inl rfl) hq
 | ret => exact fix_body hT hsp hlen hle h (.inr rfl) hq
 | exit i => exact hq.elim
theorem shut_len (ms : List Pm) (args : List SU) : (shutArgs ms args).length = args.length := by
 unfold shutArgs
 split <;> simp
theorem fix_vals {T : Nat → Option FnIr} {md : Modes} {g : Nat} {fn : FnIr} (hT : T g = some fn) (hsp : fn.sp = 0) {args : List SU} (hlen : args.length = fn.np) (hle : fn.np ≤ fn.ntmps) (hb : args.all noBox = true) {r : Ret}
  (hw : ∀ P : Prims, P = std → wpc P (fix T md) md fn.ntmps (2 * fn.ntmps + 2) fn.body (enumS 0 (shutArgs fn.modes args)) (finQ fn (shutArgs fn.modes args) (2 * fn.ntmps + 2) r)) : fix T md g args = some r := by
 refine fix_wp hT hsp hlen hle ?_ (hw std rfl)
 refine start_S (by rw [shut_len]; exact hlen) hle (fun s l t e hk => ?_)
 unfold shutArgs at e
 have hbs : ∀ x ∈ args, noBox x = true := by simpa using hb
 split at e
 ·have := hbs s (by rw [e]; exact List.mem_cons_self ..)
  simp [noBox, hk] at this
 ·cases args with
  | nil => simp at e
  | cons x xs =>
   simp only [List.map_cons, List.cons.injEq] at e
   have := hbs x (List.mem_cons_self ..)
   obtain ⟨k, cs⟩ := x
   rw [← e.1] at hk
   cases k <;> simp [shutS] at hk
   simp [noBox] at this
end Go.Vm
end
section
namespace Go.Vm
structure Facts (add sub mul : IntKind → Int → Int → Int) (arith : BinOp → IntKind → Int → Int → Option V) (eq ne lt le gt ge : Int → Int → Bool) (neg conv : IntKind → Int → Int) (mn mx : Int → Int → Int) (not : Bool → Bool) (beq : Bool → Bool → Bool)
  (len : List (List V) → Int) (at' : Nat → List (List V) → Int → Option (Nat × List V)) (ln : List (List V) → Nat) (bd : Nat → Int → Option Nat) (cut : Nat → List (List V) → Nat → Nat → Option (List (List V))) (app : Nat → List (List V) → List (List V) → Option (List (List V)))
  (allS isNil : List (List V) → Bool) (mks : List V → Int → Int → Option (List (List V))) (set : List (List V) → Nat → List V → Option (List (List V))) : Prop where
 add : ∀ k x y, add k x y = k.wrap (x + y)
 sub : ∀ k x y, sub k x y = k.wrap (x - y)
 mul : ∀ k x y, mul k x y = k.wrap (x * y)
 arith : ∀ op k x y, arith op k x y = std.arith op k x y
 eq : ∀ x y, eq x y = decide (x = y)
 ne : ∀ x y, ne x y = decide (x ≠ y)
 lt : ∀ x y, lt x y = decide (x < y)
 le : ∀ x y, le x y = decide (x ≤ y)
 gt : ∀ x y, gt x y = decide (y < x)
 ge : ∀ x y, ge x y = decide (y ≤ x)
 neg : ∀ k x, neg k x = k.wrap (0 - x)
 conv : ∀ k x, conv k x = k.wrap x
 mn : ∀ x y, mn x y = if y < x then y else x
 mx : ∀ x y, mx x y = if y > x then y else x
 not : ∀ b, not b = !b
 beq : ∀ a b, beq a b = (a == b)
 len : ∀ es, len es = es.length
 at' : ∀ k es i, at' k es i = stdAt k es i
 ln : ∀ es, ln es = es.length
 bd : ∀ n i, bd n i = stdBd n i
 cut : ∀ k es h l, cut k es h l = stdCut k es h l
 app : ∀ k es ys, app k es ys = stdApp k es ys
 allS : ∀ es, allS es = allScal es
 isNil : ∀ es, isNil es = stdNil es
 mks : ∀ z n m, mks z n m = stdMk z n m
 set : ∀ es ix vs, set es ix vs = setFlat es ix vs
def Sym (F : Prims → Orac → Prop) (O : Orac) : Prop :=
 ∀ add sub mul arith eq ne lt le gt ge neg conv mn mx not beq len at' ln bd cut app allS isNil mks set (o : Orac), Prims.mk add sub mul arith eq ne lt le gt ge neg conv mn mx not beq len at' ln bd cut app allS isNil mks set = std → Facts add sub mul arith eq ne lt le gt ge neg conv mn mx not beq len at' ln bd cut app allS isNil mks set → o = O →
  F ⟨add, sub, mul, arith, eq, ne, lt, le, gt, ge, neg, conv, mn, mx, not, beq, len, at', ln, bd, cut, app, allS, isNil, mks, set⟩ o
theorem facts_std : Facts std.add std.sub std.mul std.arith std.eq std.ne std.lt std.le std.gt std.ge std.neg std.conv std.mn std.mx std.not std.beq std.len std.at' std.ln std.bd std.cut std.app std.allS std.isNil std.mks std.set := by
 refine ⟨?_, ?_, ?_, ?_, ?_, ?_, ?_, ?_, ?_, ?_, ?_, ?_, ?_, ?_, ?_, ?_, ?_, ?_, ?_, ?_, ?_, ?_, ?_, ?_, ?_, ?_⟩ <;> intros <;> first | rfl | (simp [std]; done) | (simp only [std, bne]; rename_i x y; by_cases h : x = y <;> simp [h])
theorem Sym.at {F : Prims → Orac → Prop} {O : Orac} (h : Sym F O) : F std O := by
 have := h std.add std.sub std.mul std.arith std.eq std.ne std.lt std.le std.gt std.ge std.neg std.conv std.mn std.mx std.not std.beq std.len std.at' std.ln std.bd std.cut std.app std.allS std.isNil std.mks std.set O rfl facts_std rfl
 exact this
theorem fix_fn {T : Nat → Option FnIr} {md : Modes} {g : Nat} {fn : FnIr} (hT : T g = some fn) (hsp : fn.sp = 0) {args : List SU} (hlen : args.length = fn.np) (hle : fn.np ≤ fn.ntmps) (hb : args.all noBox = true) {r : Ret}
  (hw : Sym (fun P O => wpc P O md fn.ntmps (2 * fn.ntmps + 2) fn.body (enumS 0 (shutArgs fn.modes args)) (finQ fn (shutArgs fn.modes args) (2 * fn.ntmps + 2) r)) (fix T md)) : fix T md g args = some r :=
 fix_vals hT hsp hlen hle hb fun P hP => by subst hP; exact hw.at
theorem both {x : Bool} {A B : Prop} (h1 : x = true → A) (h2 : x = false → B) : (match (generalizing := false) x with | true => A | false => B) := by
 cases x
 ·exact h2 rfl
 ·exact h1 rfl
def At (i : Int) (n : Nat) : Prop := i = n
def row {α : Type} (f : α → List V) (l : List α) : List (List V) := l.map f
theorem row_len {α : Type} (f : α → List V) (l : List α) : (row f l).length = l.length := by simp [row]
theorem row_at {α : Type} {f : α → List V} {k : Nat} (hk : ∀ a, (f a).length = k) (h0 : k ≠ 0) {pre : List α} {x : α} {suf : List α} : stdAt k (row f (pre ++ x :: suf)) (pre.length : Int) = some (pre.length * k, f x) := by
 unfold stdAt idx
 rw [row_len, if_pos ⟨by omega, by simp; omega⟩]
 simp [row, hk, h0]
theorem row_at_get {α : Type} {f : α → List V} {k : Nat} (hk : ∀ a, (f a).length = k) (h0 : k ≠ 0) {l : List α} {i : Int} {x : α} (h : 0 ≤ i) (hx : l[i.toNat]? = some x) : stdAt k (row f l) i = some (i.toNat * k, f x) := by
 have hlt : i.toNat < l.length := (List.getElem?_eq_some_iff.1 hx).1
 unfold stdAt idx
 rw [row_len, if_pos ⟨h, by omega⟩]
 have hall : (row f l).all (fun e => decide (e.length = k)) = true := by
  rw [List.all_eq_true]
  intro e he
  obtain ⟨a, _, rfl⟩ := List.mem_map.1 he
  simp [hk]
 have hg : (row f l)[i.toNat]? = some (f x) := by unfold row; rw [List.getElem?_map, hx]; rfl
 simp only [hg]
 rw [if_pos ⟨h0, hk x, hall⟩]
theorem row_of {α : Type} {f : α → List V} {k : Nat} (hk : ∀ a, (f a).length = k) (l : List α) : rowsOf k (row f l) = true := by
 unfold rowsOf
 rw [List.all_eq_true]
 intro e he
 obtain ⟨a, _, rfl⟩ := List.mem_map.1 he
 simp [hk]
theorem row_app {α : Type} {f : α → List V} {k : Nat} (hk : ∀ a, (f a).length = k) {l l' : List α} (h : l.length + l'.length ≤ lim) : stdApp k (row f l) (row f l') = some (row f (l ++ l')) := by
 unfold stdApp
 rw [if_pos ⟨row_of hk l, row_of hk l', by rw [row_len, row_len]; exact h⟩]
 simp [row]
theorem row_cut {α : Type} {f : α → List V} {k : Nat} (hk : ∀ a, (f a).length = k) {l : List α} {h l0 : Nat} : stdCut k (row f l) h l0 = some (row f ((l.take h).drop l0)) := by
 have := row_of hk l
 unfold rowsOf at this
 unfold stdCut
 rw [if_pos this]
 simp [row]
theorem row_nil {α : Type} {f : α → List V} {l : List α} : stdNil (row f l) = l.isEmpty := by
 cases l <;> rfl
theorem row_scal {α : Type} {f : α → List V} (hf : ∀ a, (f a).all scal = true) {l : List α} : allScal (row f l) = true := by
 unfold allScal
 rw [List.all_eq_true]
 intro e he
 obtain ⟨a, _, rfl⟩ := List.mem_map.1 he
 exact hf a
theorem row_mk {α : Type} {f : α → List V} {z : List V} {a : α} (hz : z = f a) (hne : f a ≠ []) {n : Nat} (h : n ≤ lim) : stdMk z (n : Int) (n : Int) = some (row f (List.replicate n a)) := by
 subst hz
 unfold stdMk
 rw [if_pos ⟨rfl, by omega, by exact_mod_cast h, by cases hf : f a with | nil => exact absurd hf hne | cons x xs => rfl⟩]
 simp [row]
def fI (n : Int) : List V := [.int .i64 n]
def fB (b : Bool) : List V := [.bool b]
abbrev I (n : Int) : SU := ⟨.val, [⟨.int .i64 n, .sc⟩]⟩
abbrev B (b : Bool) : SU := ⟨.val, [⟨.bool b, .sc⟩]⟩
abbrev R (es : List (List V)) (f : Fl) : SU := ⟨.val, [⟨.row () es, f⟩]⟩
theorem wrap64 {x : Int} (h : -9223372036854775808 ≤ x) (h' : x < 9223372036854775808) : IntKind.wrap .i64 x = x := by
 have e1 : IntKind.bits .i64 = 64 := rfl
 have e2 : IntKind.signed .i64 = true := rfl
 unfold IntKind.wrap
 simp only [e1, e2, Bool.true_and]
 by_cases hx : 0 ≤ x
 ·have hm : x % (2 ^ 64 : Int) = x := Int.emod_eq_of_lt hx (by omega)
  rw [hm, if_neg (by simp; omega)]
 ·have hm : x % (2 ^ 64 : Int) = x + 2 ^ 64 := by omega
  rw [hm, if_pos (by simp; omega)]
  omega
theorem loop_ind {P : Prims} {O : Orac} {md : Modes} {nt L : Nat} (hP : P = std) {c : Cd} {m : Mp} {Q : Ex → Mp → Prop} {σ : Type} (st : σ → Mp) (inv : σ → Prop) (μ : σ → Nat) (s0 : σ) (hm : m = st s0) (h0 : inv s0)
  (step : ∀ s, inv s → (∀ s', inv s' → μ s' < μ s → LoopP O md nt L c (st s') Q) → wpc P O md nt L c (st s) fun ex m => match ex with | .normal => LoopP O md nt L c m Q | .exit i => Q (.exit i) m | .ret => Q .ret m) : LoopP O md nt L c m Q := by
 have key : ∀ (n : Nat) (s : σ), μ s < n → inv s → LoopP O md nt L c (st s) Q := by
  intro n
  induction n with
  | zero => intro s h; omega
  | succ n ih =>
   intro s h hi
   exact loop_round hP (step s hi fun s' hi' hlt => ih s' (by omega) hi')
 rw [hm]
 exact key (μ s0 + 1) s0 (Nat.lt_succ_self _) h0
theorem split_flat {α : Type} {f : α → List V} {k : Nat} (hk : ∀ a, (f a).length = k) {pre : List α} {x : α} {suf : List α} {j : Nat} (hj : j < k) : splitIx (pre.length * k + j) (row f (pre ++ x :: suf)) = some (pre.length, j) := by
 induction pre with
 | nil => simp [row, splitIx, hk, hj]
 | cons p ps ih =>
  simp only [List.cons_append, row, List.map_cons, splitIx, hk, List.length_cons]
  rw [if_neg (by rw [Nat.succ_mul]; omega), show (ps.length + 1) * k + j - k = ps.length * k + j by rw [Nat.succ_mul]; omega]
  have := ih
  unfold row at this
  rw [this]; rfl
theorem set_one {α : Type} {pre suf : List α} {f : α → List V} {x y : α} {v : V} (h1 : ∀ a, (f a).length = 1) (hy : f y = [v]) : setFlat (row f (pre ++ x :: suf)) (pre.length * 1) [v] = some (row f (pre ++ y :: suf)) := by
 have h := split_flat (f := f) h1 (pre := pre) (x := x) (suf := suf) (j := 0) (by omega)
 unfold setFlat
 rw [Nat.add_zero] at h
 rw [h]
 have hg : (row f (pre ++ x :: suf))[pre.length]? = some (f x) := by simp [row]
 simp only [hg, setFlat, Option.some.injEq]
 have hl := h1 x
 have hs : (f x).set 0 v = f y := by
  rw [hy]
  cases hfx : f x with
  | nil => rw [hfx] at hl; simp at hl
  | cons a r => cases r with
   | nil => rfl
   | cons b r => rw [hfx] at hl; simp at hl
 rw [hs]
 simp [row]
def inFl : Fl → Bool
 | .sp _ _ | .nl | .sh => true
 | _ => false
theorem shut_in {v : V} {f : Fl} (h : inFl f = true) : shutCell (⟨v, f⟩ : Cell Unit) = ⟨v, .sh⟩ := by
 cases f <;> simp [inFl] at h <;> rfl
end Go.Vm
end
section
namespace Go.Vm
section
variable {add sub mul : IntKind → Int → Int → Int} {arith : BinOp → IntKind → Int → Int → Option V} {eq ne lt le gt ge : Int → Int → Bool} {neg conv : IntKind → Int → Int} {mn mx : Int → Int → Int} {not : Bool → Bool} {beq : Bool → Bool → Bool}
 {len : List (List V) → Int} {at' : Nat → List (List V) → Int → Option (Nat × List V)} {ln : List (List V) → Nat} {bd : Nat → Int → Option Nat} {cut : Nat → List (List V) → Nat → Nat → Option (List (List V))} {app : Nat → List (List V) → List (List V) → Option (List (List V))}
 {allS isNil : List (List V) → Bool} {mks : List V → Int → Int → Option (List (List V))} {set : List (List V) → Nat → List V → Option (List (List V))}
 (F : Facts add sub mul arith eq ne lt le gt ge neg conv mn mx not beq len at' ln bd cut app allS isNil mks set)
include F
theorem Facts.len_at {α : Type} {f : α → List V} {l : List α} {e : List (List V)} (h : e = row f l) : At (len e) l.length := by
 unfold At; rw [F.len, h, row_len]
theorem Facts.lt_t {i j : Int} {n m : Nat} (hi : At i n) (hj : At j m) (h : n < m) : lt i j = true := by
 unfold At at hi hj; rw [F.lt, hi, hj]; simp; omega
theorem Facts.lt_f {i j : Int} {n m : Nat} (hi : At i n) (hj : At j m) (h : m ≤ n) : lt i j = false := by
 unfold At at hi hj; rw [F.lt, hi, hj]; simp; omega
theorem Facts.ne_t {i j : Int} (h : i ≠ j) : ne i j = true := by rw [F.ne]; simp [h]
theorem Facts.ne_f {i j : Int} (h : i = j) : ne i j = false := by rw [F.ne]; simp [h]
theorem Facts.eq_t {i j : Int} (h : i = j) : eq i j = true := by rw [F.eq]; simp [h]
theorem Facts.eq_f {i j : Int} (h : i ≠ j) : eq i j = false := by rw [F.eq]; simp [h]
theorem Facts.inc {i : Int} {n : Nat} (hi : At i n) (h : n ≤ 1099511627776) : At (add .i64 i 1) (n + 1) := by
 unfold At at hi ⊢; rw [F.add, hi, wrap64 (by omega) (by omega)]; rfl
theorem Facts.get {α : Type} {f : α → List V} {k : Nat} {i : Int} {e : List (List V)} {l pre suf : List α} {x : α} (hi : At i pre.length) (he : e = row f l) (hl : l = pre ++ x :: suf) (hk : ∀ a, (f a).length = k) (h0 : k ≠ 0) : at' k e i = some (pre.length * k, f x) := by
 unfold At at hi
 rw [F.at', he, hi, hl]; exact row_at hk h0
theorem Facts.app' {α : Type} {f : α → List V} {k : Nat} {e1 e2 : List (List V)} {l1 l2 : List α} (h1 : e1 = row f l1) (h2 : e2 = row f l2) (hk : ∀ a, (f a).length = k) (h : l1.length + l2.length ≤ 1099511627776) : app k e1 e2 = some (row f (l1 ++ l2)) := by
 rw [F.app, h1, h2]; exact row_app hk h
theorem Facts.scal {α : Type} {f : α → List V} {e : List (List V)} {l : List α} (h : e = row f l) (hf : ∀ a, (f a).all scal = true) : allS e = true := by
 rw [F.allS, h]; exact row_scal hf
theorem Facts.nil {α : Type} {f : α → List V} {e : List (List V)} {l : List α} (h : e = row f l) : isNil e = l.isEmpty := by
 rw [F.isNil, h]; exact row_nil
theorem Facts.app_nil {α : Type} {f : α → List V} {k : Nat} {e : List (List V)} {l : List α} (h : e = row f l) (hk : ∀ a, (f a).length = k) (hl : l.length ≤ 1099511627776) : app k [] e = some e := by
 have := F.app' (f := f) (l1 := []) (e1 := []) rfl h hk (by simpa using hl)
 rw [this, h]; rfl
theorem Facts.push {α : Type} {f : α → List V} {k : Nat} {e : List (List V)} {l : List α} {x : α} {c : List V} (h : e = row f l) (hk : ∀ a, (f a).length = k) (hc : f x = c) (hl : l.length < 1099511627776) : app k e [c] = some (row f (l ++ [x])) :=
 F.app' (f := f) (l2 := [x]) h (by simp [row, hc]) hk (by simp; omega)
theorem Facts.bd' {i : Int} {n m : Nat} (hi : At i n) (h : n ≤ m) : bd m i = some n := by
 unfold At at hi
 rw [F.bd]; unfold stdBd
 rw [if_pos ⟨by omega, by omega⟩]; simp [hi]
theorem Facts.ln' {α : Type} {f : α → List V} {l : List α} {e : List (List V)} (h : e = row f l) : ln e = l.length := by rw [F.ln, h, row_len]
theorem Facts.cut' {α : Type} {f : α → List V} {k : Nat} {e : List (List V)} {l : List α} {h0 l0 : Nat} (h : e = row f l) (hk : ∀ a, (f a).length = k) : cut k e h0 l0 = some (row f ((l.take h0).drop l0)) := by
 rw [F.cut, h]; exact row_cut hk
theorem Facts.le_n {i k : Int} {n m : Nat} (hi : At i n) (hk : k = (m : Int)) : le i k = decide (n ≤ m) := by unfold At at hi; rw [F.le, hi, hk]; simp
theorem Facts.lt_n {i k : Int} {n m : Nat} (hi : At i n) (hk : k = (m : Int)) : lt i k = decide (n < m) := by unfold At at hi; rw [F.lt, hi, hk]; simp
theorem Facts.gt_n {i k : Int} {n m : Nat} (hi : At i n) (hk : k = (m : Int)) : gt i k = decide (m < n) := by unfold At at hi; rw [F.gt, hi, hk]; simp
theorem Facts.ge_n {i k : Int} {n m : Nat} (hi : At i n) (hk : k = (m : Int)) : ge i k = decide (m ≤ n) := by unfold At at hi; rw [F.ge, hi, hk]; simp
theorem Facts.eq_n {i k : Int} {n m : Nat} (hi : At i n) (hk : k = (m : Int)) : eq i k = decide (n = m) := by unfold At at hi; rw [F.eq, hi, hk]; simp; omega
theorem Facts.ne_n {i k : Int} {n m : Nat} (hi : At i n) (hk : k = (m : Int)) : ne i k = decide (n ≠ m) := by unfold At at hi; rw [F.ne, hi, hk]; simp; omega
theorem Facts.not_t {b : Bool} (h : not b = true) : b = false := by rw [F.not] at h; simpa using h
theorem Facts.not_f {b : Bool} (h : not b = false) : b = true := by rw [F.not] at h; simpa using h
end
def md (g : Nat) : List Pm := if g < 1000 then [] else if g < 2000 then [.mrow, .val] else if g < 3000 then [.mrow] else [.mbox]
theorem fix_fn2 {T : Nat → Option FnIr} {md : Modes} {g : Nat} {fn : FnIr} (hT : T g = some fn) (hsp : fn.sp = 0) {args : List SU} (hlen : args.length = fn.np) (hle : fn.np ≤ fn.ntmps) (hb : args.all noBox = true) {r : Ret}
  (hw : ∀ Q, Q = finQ fn (shutArgs fn.modes args) (2 * fn.ntmps + 2) r → Sym (fun P O => wpc P O md fn.ntmps (2 * fn.ntmps + 2) fn.body (enumS 0 (shutArgs fn.modes args)) Q) (fix T md)) : fix T md g args = some r :=
 fix_fn hT hsp hlen hle hb (hw _ rfl)
theorem loop_ind2 {P : Prims} {O : Orac} {md : Modes} {nt L : Nat} (hP : P = std) {c : Cd} {m : Mp} {Q : Ex → Mp → Prop} {σ : Type} (st : σ → Mp) (inv : σ → Prop) (μ : σ → Nat) (s0 : σ) (hm : m = st s0) (h0 : inv s0)
  (step : ∀ (c' : Cd) (Q' : Ex → Mp → Prop), c' = c → Q' = Q → ∀ s, inv s → (∀ s', inv s' → μ s' < μ s → LoopP O md nt L c' (st s') Q') → wpc P O md nt L c (st s) fun ex m => match ex with | .normal => LoopP O md nt L c' m Q' | .exit i => Q' (.exit i) m | .ret => Q' .ret m) : LoopP O md nt L c m Q :=
 loop_ind hP st inv μ s0 hm h0 (step c Q rfl rfl)
theorem at0 : At 0 0 := rfl
theorem at_len {i : Int} {n m : Nat} (h : At i n) (e : n = m) : At i m := e ▸ h
def inR (n lo hi : Int) : Bool := decide (lo ≤ n) && decide (n ≤ hi)
def bytes (l : List Int) : Bool := l.all fun n => inR n 0 255
end Go.Vm
end
section
namespace Go.Vm
open Go.RowKit
theorem fit_int {k : IntKind} {v : V} (h : Fit (.int k) v) : ∃ n, v = .int k n ∧ k.min ≤ n ∧ n ≤ k.max := by cases h; exact ⟨_, rfl, by assumption, by assumption⟩
theorem fit_i64 {v : V} (h : Fit (.int .i64) v) : ∃ n, v = .int .i64 n ∧ -9223372036854775808 ≤ n ∧ n ≤ 9223372036854775807 := by
 obtain ⟨n, h1, h2, h3⟩ := fit_int h
 exact ⟨n, h1, Int.le_trans (by decide) h2, Int.le_trans h3 (by decide)⟩
theorem fit_bool {v : V} (h : Fit .bool v) : ∃ b, v = .bool b := by cases h; exact ⟨_, rfl⟩
theorem fitL_nil {vs : List V} (h : FitL [] vs) : vs = [] := by simpa using h.1
theorem fitL_cons {s : Sh} {l : List Sh} {vs : List V} (h : FitL (s :: l) vs) : ∃ v vs', vs = v :: vs' ∧ Fit s v ∧ FitL l vs' := by
 obtain ⟨h1, h2⟩ := h
 match vs, h1 with
 | v :: vs', h1 => exact ⟨v, vs', rfl, h2 0 s v rfl rfl, by simpa using h1, fun i s' v' a b => h2 (i + 1) s' v' (by simpa using a) (by simpa using b)⟩
theorem fit_row {α : Type} {f : α → List V} {Q : α → Prop} {l : List Sh} (hf : ∀ vs, FitL l vs → ∃ a, vs = f a ∧ Q a) {v : V} (h : Fit (.row l) v) : ∃ as : List α, v = .row () (row f as) ∧ as.length ≤ 9223372036854775807 ∧ ∀ a ∈ as, Q a := by
 cases h with
 | row _ es hl hk he =>
  have key : ∀ es : List (List V), (∀ e ∈ es, FitL l e) → ∃ as : List α, es = row f as ∧ ∀ a ∈ as, Q a := by
   intro es
   induction es with
   | nil => intro _; exact ⟨[], rfl, by simp⟩
   | cons e es ih =>
    intro h
    obtain ⟨a, h1, h2⟩ := hf e (h e (by simp))
    obtain ⟨as, h3, h4⟩ := ih (fun x hx => h x (by simp [hx]))
    exact ⟨a :: as, by simp [row, h1, h3], by simpa using ⟨h2, h4⟩⟩
  obtain ⟨as, h1, h2⟩ := key es (fun e h => ⟨hk e h, he e h⟩)
  refine ⟨as, by rw [h1], ?_, h2⟩
  rw [h1, row_len] at hl
  simpa [maxLen] using hl
def Int64 (n : Int) : Prop := -9223372036854775808 ≤ n ∧ n ≤ 9223372036854775807
theorem fitL_I {vs : List V} (h : FitL [.int .i64] vs) : ∃ n, vs = fI n ∧ Int64 n := by
 obtain ⟨v, vs', rfl, h1, h2⟩ := fitL_cons h
 obtain ⟨n, rfl, h3⟩ := fit_i64 h1
 exact ⟨n, by rw [fitL_nil h2]; rfl, h3⟩
theorem fitL_B {vs : List V} (h : FitL [.bool] vs) : ∃ b, vs = fB b ∧ True := by
 obtain ⟨v, vs', rfl, h1, h2⟩ := fitL_cons h
 obtain ⟨n, rfl⟩ := fit_bool h1
 exact ⟨n, by rw [fitL_nil h2]; rfl, trivial⟩
def fR (l : List Int) : List V := [.row () (row fI l)]
theorem fit_ints {v : V} (h : Fit (.row [.int .i64]) v) : ∃ l : List Int, v = .row () (row fI l) ∧ l.length ≤ 9223372036854775807 ∧ ∀ n ∈ l, Int64 n := fit_row (fun _ => fitL_I) h
theorem fitL_R {vs : List V} (h : FitL [.row [.int .i64]] vs) : ∃ l, vs = fR l ∧ (l.length ≤ 9223372036854775807 ∧ ∀ n ∈ l, Int64 n) := by
 obtain ⟨v, vs', rfl, h1, h2⟩ := fitL_cons h
 obtain ⟨n, rfl, h3⟩ := fit_ints h1
 exact ⟨n, by rw [fitL_nil h2]; rfl, h3⟩
def ForArgs : List (Bool × List Sh) → (List (Bool × List V) → Prop) → Prop
 | [], p => p []
 | x :: ls, p => ∀ vs, FitL x.2 vs → ForArgs ls (fun xs => p ((x.1, vs) :: xs))
theorem forArgs_iff : ∀ (ls : List (Bool × List Sh)) (p : List (Bool × List V) → Prop), ForArgs ls p → ∀ xs : List (Bool × List V), xs.length = ls.length → (∀ (i : Nat) x y, xs[i]? = some x → ls[i]? = some y → x.1 = y.1 ∧ FitL y.2 x.2) → p xs
 | [], p, h, xs, hl, _ => by
  have : xs = [] := by simpa using hl
  subst this
  exact h
 | y :: ls, p, h, xs, hl, hf => by
  match xs, hl, hf with
  | x :: xs, hl, hf =>
   obtain ⟨h1, h2⟩ := hf 0 x y rfl rfl
   have := forArgs_iff ls _ (h x.2 h2) xs (by simpa using hl) (fun i x' y' a b => hf (i + 1) x' y' (by simpa using a) (by simpa using b))
   rw [← h1] at this
   exact this
theorem answers_of {T : Nat → Option FnIr} {modes : Modes} {g : Nat} {ls : List (Bool × List Sh)} (h : ForArgs ls fun xs => fix T modes g (inSls 0 xs) = some ⟨[B true], [], none⟩) : Answers T modes g ls := by
 intro xs h1 h2
 obtain ⟨n, hn⟩ := fix_iff.1 (forArgs_iff ls _ h xs h1 h2)
 exact ⟨n, _, hn⟩
def Good (P : Program) (sid : Nat → Nat) (canon : Nat → Option Nat) (p : Nat × FnIr) : Prop :=
 (p.2.sp = 0 ∧ ∃ fn ms, P.funcs[sid p.1]? = some fn ∧ (fn.name == "runtime.NumGoroutine") = false ∧ cFn P canon 0 ms fn = some p.2) ∨ (p.2.sp ≠ 0 ∧ Special P sid p.1 p.2.sp)
theorem lookup_mem {β : Type} {g : Nat} {x : β} : ∀ {L : List (Nat × β)}, L.lookup g = some x → (g, x) ∈ L
 | [], h => by simp at h
 | (k, y) :: L, h => by
  rw [List.lookup_cons] at h
  split at h
  ·rename_i e
   rw [beq_iff_eq] at e
   simp only [Option.some.injEq] at h
   subst e; subst h
   exact List.mem_cons_self ..
  ·exact List.mem_cons_of_mem _ (lookup_mem h)
theorem fnTab_of {P : Program} {sid : Nat → Nat} (L : List (Nat × Nat)) (hL : ∀ p ∈ L, sid p.2 = p.1) (hm : P.follows .mixedOrders = true) (tbl : List (Nat × FnIr)) (h : ∀ p ∈ tbl, Good P sid (fun f => L.lookup f) p) : FnTab P sid (fun f => L.lookup f) (fun g => tbl.lookup g) where
 ids f g hf := hL (f, g) (lookup_mem hf)
 mixed := hm
 fn g ir hg := h (g, ir) (lookup_mem hg)
theorem split_raw {k : Nat} {A : List (List V)} (hA : ∀ a ∈ A, a.length = k) {e : List V} (he : e.length = k) {Z : List (List V)} {j : Nat} (hj : j < k) : splitIx (A.length * k + j) (A ++ e :: Z) = some (A.length, j) := by
 induction A with
 | nil => simp [splitIx, he, hj]
 | cons p ps ih =>
  have hp : p.length = k := hA p (by simp)
  simp only [List.cons_append, splitIx, List.length_cons, hp]
  rw [if_neg (by rw [Nat.succ_mul]; omega), show (ps.length + 1) * k + j - k = ps.length * k + j by rw [Nat.succ_mul]; omega]
  rw [ih (fun a ha => hA a (by simp [ha]))]; rfl
theorem set_raw {k : Nat} : ∀ (vs : List V) (j : Nat) (A : List (List V)) (e : List V) (Z : List (List V)), (∀ a ∈ A, a.length = k) → e.length = k → j + vs.length ≤ k → setFlat (A ++ e :: Z) (A.length * k + j) vs = some (A ++ (e.take j ++ vs ++ e.drop (j + vs.length)) :: Z)
 | [], j, A, e, Z, _, _, _ => by simp [setFlat]
 | v :: vs, j, A, e, Z, hA, he, hj => by
  simp only [List.length_cons] at hj
  unfold setFlat
  rw [split_raw hA he (by omega)]
  have hg : (A ++ e :: Z)[A.length]? = some e := by simp
  simp only [hg]
  have hs : (A ++ e :: Z).set A.length (e.set j v) = A ++ e.set j v :: Z := by simp
  rw [hs, Nat.add_assoc, set_raw vs (j + 1) A (e.set j v) Z hA (by simpa using he) (by omega)]
  congr 3
  have h1 : (e.set j v).take (j + 1) = e.take j ++ [v] := by
   rw [List.take_succ_eq_append_getElem (by simp; omega), List.take_set_of_le (Nat.le_refl j)]
   simp
  rw [h1, List.drop_set_of_lt (by omega)]
  simp only [List.append_assoc, List.cons_append, List.nil_append, List.length_cons]
  rw [show j + 1 + vs.length = j + (vs.length + 1) by omega]
theorem set_all {α : Type} {pre suf : List α} {f : α → List V} {k : Nat} {x y : α} {vs : List V} (hk : ∀ a, (f a).length = k) (hy : f y = vs) : setFlat (row f (pre ++ x :: suf)) (pre.length * k) vs = some (row f (pre ++ y :: suf)) := by
 have := set_raw (k := k) vs 0 (row f pre) (f x) (row f suf) (by intro a ha; obtain ⟨b, _, rfl⟩ := List.mem_map.1 ha; exact hk b) (hk x) (by rw [← hy, hk]; omega)
 rw [row_len, Nat.add_zero] at this
 rw [show row f (pre ++ x :: suf) = row f pre ++ f x :: row f suf by simp [row], this]
 have hl : vs.length = k := by rw [← hy, hk]
 simp [row, ← hy, hk]
end Go.Vm
end
section
set_option linter.unusedVariables false
namespace Go.Vm
def sz1 (n : Nat) (left : Int) : Int := if left - (n : Int) < 0 then -1 else left - (n : Int)
structure Sz (n : Int → Int) (P : Prop) : Prop where
 lo : ∀ left, left ≤ 1048576 → -1 ≤ n left
 hi : ∀ left, 0 ≤ n left → n left ≤ left
 neg : ∀ left, left < 0 → n left = -1
 ok : ∀ left, left ≤ 1048576 → 0 ≤ n left → P
theorem Sz.up {n : Int → Int} {P : Prop} (h : Sz n P) {left : Int} (hl : left ≤ 1048576) : n left ≤ 1048576 := by
 by_cases h0 : 0 ≤ n left
 ·exact Int.le_trans (h.hi left h0) hl
 ·omega
theorem Sz.of1 (k : Nat) : Sz (sz1 k) (k ≤ 1048576) where
 lo left h := by unfold sz1; split <;> omega
 hi left h := by unfold sz1 at *; split <;> split at h <;> omega
 neg left h := by unfold sz1; split <;> omega
 ok left h h' := by unfold sz1 at h'; split at h' <;> omega
theorem Sz.comp {n n' : Int → Int} {P P' : Prop} (h : Sz n P) (h' : Sz n' P') : Sz (fun l => n' (n l)) (P ∧ P') where
 lo left hl := h'.lo _ (h.up hl)
 hi left hl := by
  have h1 := h'.hi _ hl
  exact Int.le_trans h1 (h.hi left (Int.le_trans hl h1))
 neg left hl := h'.neg _ (by rw [h.neg left hl]; decide)
 ok left hl h0 := by
  have h1 := h'.hi _ h0
  exact ⟨h.ok left hl (Int.le_trans h0 h1), h'.ok _ (h.up hl) h0⟩
theorem Sz.id0 : Sz (sz1 0) True where
 lo left h := (Sz.of1 0).lo left h
 hi left h := (Sz.of1 0).hi left h
 neg left h := (Sz.of1 0).neg left h
 ok _ _ _ := trivial
def szL {α : Type} (f : α → Int → Int) (l : List α) (left : Int) : Int := l.foldl (fun a x => f x a) (sz1 l.length left)
theorem szF_hi {α : Type} {f : α → Int → Int} {P : α → Prop} (h : ∀ x, Sz (f x) (P x)) : ∀ (l : List α) (left : Int), 0 ≤ l.foldl (fun a x => f x a) left → l.foldl (fun a x => f x a) left ≤ left
 | [], left, _ => Int.le_refl _
 | x :: l, left, h0 => by
  rw [List.foldl_cons] at *
  have h1 := szF_hi h l (f x left) h0
  exact Int.le_trans h1 ((h x).hi left (by omega))
theorem szF_neg {α : Type} {f : α → Int → Int} {P : α → Prop} (h : ∀ x, Sz (f x) (P x)) : ∀ (l : List α) (left : Int), left = -1 → l.foldl (fun a x => f x a) left = -1
 | [], left, h0 => h0
 | x :: l, left, h0 => by
  rw [List.foldl_cons]
  exact szF_neg h l _ ((h x).neg left (by omega))
theorem szF_lo {α : Type} {f : α → Int → Int} {P : α → Prop} (h : ∀ x, Sz (f x) (P x)) : ∀ (l : List α) (left : Int), -1 ≤ left → left ≤ 1048576 → -1 ≤ l.foldl (fun a x => f x a) left
 | [], left, h0, _ => h0
 | x :: l, left, h0, h1 => by
  rw [List.foldl_cons]
  exact szF_lo h l _ ((h x).lo left h1) ((h x).up h1)
theorem szF_ok {α : Type} {f : α → Int → Int} {P : α → Prop} (h : ∀ x, Sz (f x) (P x)) : ∀ (l : List α) (left : Int), left ≤ 1048576 → 0 ≤ l.foldl (fun a x => f x a) left → ∀ x ∈ l, P x
 | [], left, _, _ => by simp
 | x :: l, left, h1, h0 => by
  rw [List.foldl_cons] at h0
  have h2 := szF_hi h l _ h0
  intro y hy
  rcases List.mem_cons.1 hy with rfl | hy
  ·exact (h y).ok left h1 (by omega)
  ·exact szF_ok h l _ ((h x).up h1) h0 y hy
theorem Sz.list {α : Type} {f : α → Int → Int} {P : α → Prop} (h : ∀ x, Sz (f x) (P x)) (l : List α) : Sz (szL f l) (l.length ≤ 1048576 ∧ ∀ x ∈ l, P x) where
 lo left hl := szF_lo h l _ ((Sz.of1 _).lo left hl) ((Sz.of1 _).up hl)
 hi left hl := by
  have h1 := szF_hi h l _ hl
  unfold szL at *
  exact Int.le_trans h1 ((Sz.of1 _).hi left (by omega))
 neg left hl := szF_neg h l _ ((Sz.of1 _).neg left hl)
 ok left hl h0 := by
  have h1 := szF_hi h l _ h0
  unfold szL at *
  exact ⟨(Sz.of1 _).ok left hl (by omega), szF_ok h l _ ((Sz.of1 _).up hl) h0⟩
def szR (l : List Int) : Int → Int := sz1 l.length
theorem szR_Sz (l : List Int) : Sz (szR l) (l.length ≤ 1048576) := Sz.of1 _
def szI (_ : Int) : Int → Int := sz1 0
structure Ext where
 tag : Int
 body : List Int
theorem Ext.eq_iff {a b : Ext} : a = b ↔ a.tag = b.tag ∧ a.body = b.body := by cases a; cases b; simp
instance : DecidableEq Ext := fun a b => decidable_of_iff (a.tag = b.tag ∧ a.body = b.body) Ext.eq_iff.symm
def fExt (x : Ext) : List V := [.int .i64 x.tag, .row () (row fI x.body)]
abbrev sExt (tag : Int) (body : List (List V)) (g1 : Fl) : SU := ⟨.agg, [⟨.int .i64 tag, .sc⟩, ⟨.row () body, g1⟩]⟩
def Ext.Fits (x : Ext) : Prop := Int64 x.tag ∧ (x.body.length ≤ 9223372036854775807 ∧ ∀ n ∈ x.body, Int64 n)
theorem fitL_Ext {vs : List V} (h : FitL [.int .i64, .row [.int .i64]] vs) : ∃ x : Ext, vs = fExt x ∧ x.Fits := by
 obtain ⟨_, _, rfl, h0, h⟩ := fitL_cons h
 obtain ⟨_, _, rfl, h1, h⟩ := fitL_cons h
 cases fitL_nil h
 obtain ⟨tag, rfl, w0⟩ := fit_i64 h0
 obtain ⟨body, rfl, w1⟩ := fit_ints h1
 exact ⟨⟨tag, body⟩, rfl, ⟨w0, w1⟩⟩
def szExt (x : Ext) (left : Int) : Int := sz1 x.body.length left
def Ext.Small (x : Ext) : Prop := x.body.length ≤ 1048576
theorem szExt_Sz (x : Ext) : Sz (szExt x) x.Small := Sz.of1 _
def Ext.Mid (x : Ext) : Prop := x.body.length ≤ 1073741824
theorem Ext.Small.mid {x : Ext} (h : x.Small) : x.Mid := by
 unfold Ext.Small at h; unfold Ext.Mid
 exact Nat.le_trans h (by decide)
structure Hello where
 versions : List Int
 exts : List Ext
theorem Hello.eq_iff {a b : Hello} : a = b ↔ a.versions = b.versions ∧ a.exts = b.exts := by cases a; cases b; simp
instance : DecidableEq Hello := fun a b => decidable_of_iff (a.versions = b.versions ∧ a.exts = b.exts) Hello.eq_iff.symm
def fHello (x : Hello) : List V := [.row () (row fI x.versions), .row () (row fExt x.exts)]
abbrev sHello (versions : List (List V)) (exts : List (List V)) (g1 : Fl) (g2 : Fl) : SU := ⟨.agg, [⟨.row () versions, g1⟩, ⟨.row () exts, g2⟩]⟩
def Hello.Fits (x : Hello) : Prop := (x.versions.length ≤ 9223372036854775807 ∧ ∀ n ∈ x.versions, Int64 n) ∧ (x.exts.length ≤ 9223372036854775807 ∧ ∀ y ∈ x.exts, y.Fits)
theorem fitL_Hello {vs : List V} (h : FitL [.row [.int .i64], .row [.int .i64, .row [.int .i64]]] vs) : ∃ x : Hello, vs = fHello x ∧ x.Fits := by
 obtain ⟨_, _, rfl, h0, h⟩ := fitL_cons h
 obtain ⟨_, _, rfl, h1, h⟩ := fitL_cons h
 cases fitL_nil h
 obtain ⟨versions, rfl, w0⟩ := fit_ints h0
 obtain ⟨exts, rfl, w1⟩ := fit_row (fun _ => fitL_Ext) h1
 exact ⟨⟨versions, exts⟩, rfl, ⟨w0, w1⟩⟩
def szHello (x : Hello) (left : Int) : Int := szL szExt x.exts (sz1 x.versions.length left)
def Hello.Small (x : Hello) : Prop := (x.versions.length ≤ 1048576) ∧ (x.exts.length ≤ 1048576 ∧ ∀ y ∈ x.exts, y.Small)
theorem szHello_Sz (x : Hello) : Sz (szHello x) x.Small := Sz.comp (n := sz1 x.versions.length) (n' := szL szExt x.exts) (Sz.of1 _) (Sz.list szExt_Sz _)
def Hello.Mid (x : Hello) : Prop := (x.versions.length ≤ 1073741824) ∧ (x.exts.length ≤ 1073741824 ∧ ∀ y ∈ x.exts, y.Mid)
theorem Hello.Small.mid {x : Hello} (h : x.Small) : x.Mid := by
 unfold Hello.Small at h; unfold Hello.Mid
 exact ⟨Nat.le_trans h.1 (by decide), ⟨Nat.le_trans h.2.1 (by decide), fun y hy => (h.2.2 y hy).mid⟩⟩
structure Answer where
 version : Int
 exts : List Ext
theorem Answer.eq_iff {a b : Answer} : a = b ↔ a.version = b.version ∧ a.exts = b.exts := by cases a; cases b; simp
instance : DecidableEq Answer := fun a b => decidable_of_iff (a.version = b.version ∧ a.exts = b.exts) Answer.eq_iff.symm
def fAnswer (x : Answer) : List V := [.int .i64 x.version, .row () (row fExt x.exts)]
abbrev sAnswer (version : Int) (exts : List (List V)) (g1 : Fl) : SU := ⟨.agg, [⟨.int .i64 version, .sc⟩, ⟨.row () exts, g1⟩]⟩
def Answer.Fits (x : Answer) : Prop := Int64 x.version ∧ (x.exts.length ≤ 9223372036854775807 ∧ ∀ y ∈ x.exts, y.Fits)
theorem fitL_Answer {vs : List V} (h : FitL [.int .i64, .row [.int .i64, .row [.int .i64]]] vs) : ∃ x : Answer, vs = fAnswer x ∧ x.Fits := by
 obtain ⟨_, _, rfl, h0, h⟩ := fitL_cons h
 obtain ⟨_, _, rfl, h1, h⟩ := fitL_cons h
 cases fitL_nil h
 obtain ⟨version, rfl, w0⟩ := fit_i64 h0
 obtain ⟨exts, rfl, w1⟩ := fit_row (fun _ => fitL_Ext) h1
 exact ⟨⟨version, exts⟩, rfl, ⟨w0, w1⟩⟩
def szAnswer (x : Answer) (left : Int) : Int := szL szExt x.exts left
def Answer.Small (x : Answer) : Prop := (x.exts.length ≤ 1048576 ∧ ∀ y ∈ x.exts, y.Small)
theorem szAnswer_Sz (x : Answer) : Sz (szAnswer x) x.Small := Sz.list szExt_Sz _
def Answer.Mid (x : Answer) : Prop := (x.exts.length ≤ 1073741824 ∧ ∀ y ∈ x.exts, y.Mid)
theorem Answer.Small.mid {x : Answer} (h : x.Small) : x.Mid := by
 unfold Answer.Small at h; unfold Answer.Mid
 exact ⟨Nat.le_trans h.1 (by decide), fun y hy => (h.2 y hy).mid⟩
structure Edit where
 kind : Int
 n : Int
theorem Edit.eq_iff {a b : Edit} : a = b ↔ a.kind = b.kind ∧ a.n = b.n := by cases a; cases b; simp
instance : DecidableEq Edit := fun a b => decidable_of_iff (a.kind = b.kind ∧ a.n = b.n) Edit.eq_iff.symm
def fEdit (x : Edit) : List V := [.int .i64 x.kind, .int .i64 x.n]
abbrev sEdit (kind : Int) (n : Int) : SU := ⟨.agg, [⟨.int .i64 kind, .sc⟩, ⟨.int .i64 n, .sc⟩]⟩
def Edit.Fits (x : Edit) : Prop := Int64 x.kind ∧ Int64 x.n
theorem fitL_Edit {vs : List V} (h : FitL [.int .i64, .int .i64] vs) : ∃ x : Edit, vs = fEdit x ∧ x.Fits := by
 obtain ⟨_, _, rfl, h0, h⟩ := fitL_cons h
 obtain ⟨_, _, rfl, h1, h⟩ := fitL_cons h
 cases fitL_nil h
 obtain ⟨kind, rfl, w0⟩ := fit_i64 h0
 obtain ⟨n, rfl, w1⟩ := fit_i64 h1
 exact ⟨⟨kind, n⟩, rfl, ⟨w0, w1⟩⟩
def szEdit (x : Edit) (left : Int) : Int := sz1 0 left
def Edit.Small (x : Edit) : Prop := True
theorem szEdit_Sz (x : Edit) : Sz (szEdit x) x.Small := Sz.id0
def Edit.Mid (x : Edit) : Prop := True
theorem Edit.Small.mid {x : Edit} (h : x.Small) : x.Mid := by
 unfold Edit.Small at h; unfold Edit.Mid
 exact trivial
structure Deal where
 ok : Bool
 version : Int
 tags : List Int
theorem Deal.eq_iff {a b : Deal} : a = b ↔ a.ok = b.ok ∧ a.version = b.version ∧ a.tags = b.tags := by cases a; cases b; simp
instance : DecidableEq Deal := fun a b => decidable_of_iff (a.ok = b.ok ∧ a.version = b.version ∧ a.tags = b.tags) Deal.eq_iff.symm
def fDeal (x : Deal) : List V := [.bool x.ok, .int .i64 x.version, .row () (row fI x.tags)]
abbrev sDeal (ok : Bool) (version : Int) (tags : List (List V)) (g1 : Fl) : SU := ⟨.agg, [⟨.bool ok, .sc⟩, ⟨.int .i64 version, .sc⟩, ⟨.row () tags, g1⟩]⟩
def Deal.Fits (x : Deal) : Prop := Int64 x.version ∧ (x.tags.length ≤ 9223372036854775807 ∧ ∀ n ∈ x.tags, Int64 n)
theorem fitL_Deal {vs : List V} (h : FitL [.bool, .int .i64, .row [.int .i64]] vs) : ∃ x : Deal, vs = fDeal x ∧ x.Fits := by
 obtain ⟨_, _, rfl, h0, h⟩ := fitL_cons h
 obtain ⟨_, _, rfl, h1, h⟩ := fitL_cons h
 obtain ⟨_, _, rfl, h2, h⟩ := fitL_cons h
 cases fitL_nil h
 obtain ⟨ok, rfl⟩ := fit_bool h0
 obtain ⟨version, rfl, w1⟩ := fit_i64 h1
 obtain ⟨tags, rfl, w2⟩ := fit_ints h2
 exact ⟨⟨ok, version, tags⟩, rfl, ⟨w1, w2⟩⟩
def szDeal (x : Deal) (left : Int) : Int := sz1 x.tags.length left
def Deal.Small (x : Deal) : Prop := x.tags.length ≤ 1048576
theorem szDeal_Sz (x : Deal) : Sz (szDeal x) x.Small := Sz.of1 _
def Deal.Mid (x : Deal) : Prop := x.tags.length ≤ 1073741824
theorem Deal.Small.mid {x : Deal} (h : x.Small) : x.Mid := by
 unfold Deal.Small at h; unfold Deal.Mid
 exact Nat.le_trans h (by decide)
structure Box where
 limit : Int
 drops : List Int
 strips : List Int
 lists : Bool
theorem Box.eq_iff {a b : Box} : a = b ↔ a.limit = b.limit ∧ a.drops = b.drops ∧ a.strips = b.strips ∧ a.lists = b.lists := by cases a; cases b; simp
instance : DecidableEq Box := fun a b => decidable_of_iff (a.limit = b.limit ∧ a.drops = b.drops ∧ a.strips = b.strips ∧ a.lists = b.lists) Box.eq_iff.symm
def fBox (x : Box) : List V := [.int .i64 x.limit, .row () (row fI x.drops), .row () (row fI x.strips), .bool x.lists]
abbrev sBox (limit : Int) (drops : List (List V)) (strips : List (List V)) (lists : Bool) (g1 : Fl) (g2 : Fl) : SU := ⟨.agg, [⟨.int .i64 limit, .sc⟩, ⟨.row () drops, g1⟩, ⟨.row () strips, g2⟩, ⟨.bool lists, .sc⟩]⟩
def Box.Fits (x : Box) : Prop := Int64 x.limit ∧ (x.drops.length ≤ 9223372036854775807 ∧ ∀ n ∈ x.drops, Int64 n) ∧ (x.strips.length ≤ 9223372036854775807 ∧ ∀ n ∈ x.strips, Int64 n)
theorem fitL_Box {vs : List V} (h : FitL [.int .i64, .row [.int .i64], .row [.int .i64], .bool] vs) : ∃ x : Box, vs = fBox x ∧ x.Fits := by
 obtain ⟨_, _, rfl, h0, h⟩ := fitL_cons h
 obtain ⟨_, _, rfl, h1, h⟩ := fitL_cons h
 obtain ⟨_, _, rfl, h2, h⟩ := fitL_cons h
 obtain ⟨_, _, rfl, h3, h⟩ := fitL_cons h
 cases fitL_nil h
 obtain ⟨limit, rfl, w0⟩ := fit_i64 h0
 obtain ⟨drops, rfl, w1⟩ := fit_ints h1
 obtain ⟨strips, rfl, w2⟩ := fit_ints h2
 obtain ⟨lists, rfl⟩ := fit_bool h3
 exact ⟨⟨limit, drops, strips, lists⟩, rfl, ⟨w0, w1, w2⟩⟩
def szBox (x : Box) (left : Int) : Int := sz1 x.strips.length (sz1 x.drops.length left)
def Box.Small (x : Box) : Prop := (x.drops.length ≤ 1048576) ∧ x.strips.length ≤ 1048576
theorem szBox_Sz (x : Box) : Sz (szBox x) x.Small := Sz.comp (n := sz1 x.drops.length) (n' := sz1 x.strips.length) (Sz.of1 _) (Sz.of1 _)
def Box.Mid (x : Box) : Prop := (x.drops.length ≤ 1073741824) ∧ x.strips.length ≤ 1073741824
theorem Box.Small.mid {x : Box} (h : x.Small) : x.Mid := by
 unfold Box.Small at h; unfold Box.Mid
 exact ⟨Nat.le_trans h.1 (by decide), Nat.le_trans h.2 (by decide)⟩
structure Dialed where
 deal : Deal
 tries : Int
 up : List Int
theorem Dialed.eq_iff {a b : Dialed} : a = b ↔ a.deal = b.deal ∧ a.tries = b.tries ∧ a.up = b.up := by cases a; cases b; simp
instance : DecidableEq Dialed := fun a b => decidable_of_iff (a.deal = b.deal ∧ a.tries = b.tries ∧ a.up = b.up) Dialed.eq_iff.symm
def fDialed (x : Dialed) : List V := [.bool x.deal.ok, .int .i64 x.deal.version, .row () (row fI x.deal.tags), .int .i64 x.tries, .row () (row fI x.up)]
abbrev sDialed (ok : Bool) (version : Int) (tags : List (List V)) (tries : Int) (up : List (List V)) (g1 : Fl) (g2 : Fl) : SU := ⟨.agg, [⟨.bool ok, .sc⟩, ⟨.int .i64 version, .sc⟩, ⟨.row () tags, g1⟩, ⟨.int .i64 tries, .sc⟩, ⟨.row () up, g2⟩]⟩
def Dialed.Fits (x : Dialed) : Prop := x.deal.Fits ∧ Int64 x.tries ∧ (x.up.length ≤ 9223372036854775807 ∧ ∀ n ∈ x.up, Int64 n)
theorem fitL_Dialed {vs : List V} (h : FitL [.bool, .int .i64, .row [.int .i64], .int .i64, .row [.int .i64]] vs) : ∃ x : Dialed, vs = fDialed x ∧ x.Fits := by
 obtain ⟨_, _, rfl, h0, h⟩ := fitL_cons h
 obtain ⟨_, _, rfl, h1, h⟩ := fitL_cons h
 obtain ⟨_, _, rfl, h2, h⟩ := fitL_cons h
 obtain ⟨_, _, rfl, h3, h⟩ := fitL_cons h
 obtain ⟨_, _, rfl, h4, h⟩ := fitL_cons h
 cases fitL_nil h
 obtain ⟨ok, rfl⟩ := fit_bool h0
 obtain ⟨version, rfl, w1⟩ := fit_i64 h1
 obtain ⟨tags, rfl, w2⟩ := fit_ints h2
 obtain ⟨tries, rfl, w3⟩ := fit_i64 h3
 obtain ⟨up, rfl, w4⟩ := fit_ints h4
 exact ⟨⟨⟨ok, version, tags⟩, tries, up⟩, rfl, ⟨⟨w1, w2⟩, w3, w4⟩⟩
def szDialed (x : Dialed) (left : Int) : Int := sz1 x.up.length (szDeal x.deal left)
def Dialed.Small (x : Dialed) : Prop := (x.deal.Small) ∧ x.up.length ≤ 1048576
theorem szDialed_Sz (x : Dialed) : Sz (szDialed x) x.Small := Sz.comp (n := szDeal x.deal) (n' := sz1 x.up.length) (szDeal_Sz _) (Sz.of1 _)
def Dialed.Mid (x : Dialed) : Prop := (x.deal.Mid) ∧ x.up.length ≤ 1073741824
theorem Dialed.Small.mid {x : Dialed} (h : x.Small) : x.Mid := by
 unfold Dialed.Small at h; unfold Dialed.Mid
 exact ⟨h.1.mid, Nat.le_trans h.2 (by decide)⟩
structure Known where
 cls : Int
 lost : List Int
 tick : Int
theorem Known.eq_iff {a b : Known} : a = b ↔ a.cls = b.cls ∧ a.lost = b.lost ∧ a.tick = b.tick := by cases a; cases b; simp
instance : DecidableEq Known := fun a b => decidable_of_iff (a.cls = b.cls ∧ a.lost = b.lost ∧ a.tick = b.tick) Known.eq_iff.symm
def fKnown (x : Known) : List V := [.int .i64 x.cls, .row () (row fI x.lost), .int .i64 x.tick]
abbrev sKnown (cls : Int) (lost : List (List V)) (tick : Int) (g1 : Fl) : SU := ⟨.agg, [⟨.int .i64 cls, .sc⟩, ⟨.row () lost, g1⟩, ⟨.int .i64 tick, .sc⟩]⟩
def Known.Fits (x : Known) : Prop := Int64 x.cls ∧ (x.lost.length ≤ 9223372036854775807 ∧ ∀ n ∈ x.lost, Int64 n) ∧ Int64 x.tick
theorem fitL_Known {vs : List V} (h : FitL [.int .i64, .row [.int .i64], .int .i64] vs) : ∃ x : Known, vs = fKnown x ∧ x.Fits := by
 obtain ⟨_, _, rfl, h0, h⟩ := fitL_cons h
 obtain ⟨_, _, rfl, h1, h⟩ := fitL_cons h
 obtain ⟨_, _, rfl, h2, h⟩ := fitL_cons h
 cases fitL_nil h
 obtain ⟨cls, rfl, w0⟩ := fit_i64 h0
 obtain ⟨lost, rfl, w1⟩ := fit_ints h1
 obtain ⟨tick, rfl, w2⟩ := fit_i64 h2
 exact ⟨⟨cls, lost, tick⟩, rfl, ⟨w0, w1, w2⟩⟩
def szKnown (x : Known) (left : Int) : Int := sz1 x.lost.length left
def Known.Small (x : Known) : Prop := x.lost.length ≤ 1048576
theorem szKnown_Sz (x : Known) : Sz (szKnown x) x.Small := Sz.of1 _
def Known.Mid (x : Known) : Prop := x.lost.length ≤ 1073741824
theorem Known.Small.mid {x : Known} (h : x.Small) : x.Mid := by
 unfold Known.Small at h; unfold Known.Mid
 exact Nat.le_trans h (by decide)
theorem sz_len (l : List Edit) {left : Int} (h : left ≤ 1048576) : szL szEdit l left = sz1 l.length left := by
 have key : ∀ (l : List Edit) (v : Int), -1 ≤ v → l.foldl (fun a x => szEdit x a) v = v := by
  intro l
  induction l with
  | nil => intro v _; rfl
  | cons x l ih =>
   intro v hv
   rw [List.foldl_cons]
   have : szEdit x v = v := by unfold szEdit sz1; split <;> omega
   rw [this, ih v hv]
 exact key l _ ((Sz.of1 _).lo left h)
end Go.Vm
end
section
namespace Go.Vm
section
variable {E : Env} {cx : Cx} {S : StA} {C : Nat → Nat → Prop} {a : Act} {w : World} {ops : Array Oper}
theorem nil_step (hf : Fits E cx) (h : Inv E S [] C a w) {i d : Nat} {o : Oper} {b : Bool} (hi : ops[i]? = some o) (hg : o.guard = none) (hd : o.dst = some d) (hx : (execOp a.eval o).run E.P w = .ok (.value (.bool b)) w)
  {u : Unit} {st1 : St} (hp : (putS cx.nt d (sval (.bool b))).run (erS S) = some (u, st1)) {K : Act → World → Prop} {Q : Exit → Act → World → Prop}
  (hK : ∀ S1 C1 a1 w1, erS S1 = st1 → Inv E S1 [] C1 a1 w1 → Frame E w w1 → K a1 w1) : wpOp E.P ops Q i K a w := by
 unfold wpOp
 rw [hi]
 have hw : Region.wanted o (yielded ops a.tmps) = true := by simp [Region.wanted, hg]
 simp only [hw]
 obtain ⟨v, w', S1, C1, sA, e1, e2, e3, e4, e5⟩ := makes_scalar (X := []) h (r := .bool b) rfl rfl hx
 rw [hf.nt, ← e3, ← e2] at hp
 obtain ⟨S2, q1, q2⟩ := put_lift e4 hp
 refine .inl (wp_value e1 (hK S2 C1 _ w' q1 ?_ e5))
 rw [hd]; exact q2
end
def O0 : Orac := fun _ _ => none
theorem O0_keeps (P : Program) (sid : Nat → Nat) (g : Nat) : Keeps' P sid O0 g := by
 intro E w args ret _ _ _ h
 simp [O0] at h
def clA : Cd := .region false [] [] [⟨some 2, .assign (.c false [.row () []]), none, []⟩]
def clB : Cd := .region false [5, 6, 7] [5, 6, 7] [⟨some 5, .bslice [.int .i64 0] 0 [], none, []⟩, ⟨some 6, .move (.t 0), none, []⟩, ⟨some 7, .append 1 (.t 5) (.t 6), none, []⟩, ⟨some 2, .assign (.t 7), none, []⟩]
theorem run_clA (es : List (List V)) : Wp O0 md 8 clA (S 18 [(0, R es .sh)]) fun ex st => ex = .normal ∧ st = S 18 [(0, R es .sh), (2, R [] .nl)] := by
 obtain ⟨n, ex, st, h, m', rfl, hq⟩ := wpc_sound (O := O0) (md := md) (nt := 8) (L := 18) clA [(0, R es .sh)] (Q := fun ex m => ex = .normal ∧ m = [(0, R es .sh), (2, R [] .nl)]) (by unfold clA; cbv)
 exact ⟨n, ex, _, h, hq.1, by rw [hq.2]⟩
theorem run_clN (es : List (List V)) (f3 : SU) : Wp O0 md 8 (.seq clA .ret) (S 18 [(0, R es .sh), (2, R [] .nl), (3, f3)]) fun ex st => ex = .ret ∧ finish ⟨0, 1, 8, [(2, none)], [], .skip⟩ [R es .sh] st = some ⟨[R [] .nl], [], none⟩ := by
 obtain ⟨n, ex, st, h, m', rfl, hq⟩ := wpc_sound (O := O0) (md := md) (nt := 8) (L := 18) (.seq clA .ret) [(0, R es .sh), (2, R [] .nl), (3, f3)] (Q := fun ex m => ex = .ret ∧ finish ⟨0, 1, 8, [(2, none)], [], .skip⟩ [R es .sh] (S 18 m) = some ⟨[R [] .nl], [], none⟩) (by unfold clA; cbv)
 exact ⟨n, ex, _, h, hq⟩
theorem run_clB (es : List (List V)) (f3 : SU) (h1 : allScal es = true) (h2 : rowsOf 1 es = true) (h3 : es.length ≤ lim) : Wp O0 md 8 (.seq clB .ret) (S 18 [(0, R es .sh), (2, R [] .nl), (3, f3)]) fun ex st => ex = .ret ∧ finish ⟨0, 1, 8, [(2, none)], [], .skip⟩ [R es .sh] st = some ⟨[R es (.ow false)], [], none⟩ := by
 have hw : Sym (fun P O => wpc P O md 8 18 (.seq clB .ret) [(0, R es .sh), (2, R [] .nl), (3, f3)] fun ex m => ex = .ret ∧ finish ⟨0, 1, 8, [(2, none)], [], .skip⟩ [R es .sh] (S 18 m) = some ⟨[R es (.ow false)], [], none⟩) O0 := by
  unfold clB
  intro add sub mul arith eq ne lt le gt ge neg conv mn mx not beq len at' ln bd cut app allS isNil mks set o hP F ho
  have q1 : allS es = true := by rw [F.allS]; exact h1
  have q2 : app 1 [] es = some es := by
   rw [F.app]; unfold stdApp
   rw [if_pos ⟨rfl, h2, by simpa using h3⟩]; rfl
  cbv
  rw [q1]; cbv
  rw [q2]; cbv
 obtain ⟨n, ex, st, h, m', rfl, hq⟩ := wpc_sound (O := O0) (md := md) (nt := 8) (L := 18) (.seq clB .ret) [(0, R es .sh), (2, R [] .nl), (3, f3)] (Q := fun ex m => ex = .ret ∧ finish ⟨0, 1, 8, [(2, none)], [], .skip⟩ [R es .sh] (S 18 m) = some ⟨[R es (.ow false)], [], none⟩) hw.at
 exact ⟨n, ex, _, h, hq⟩
theorem st_move (es : List (List V)) : stepIo O0 md 8 ⟨some 3, .move (.t 0), none, []⟩ (S 18 [(0, R es .sh), (2, R [] .nl)]) = some (S 18 [(0, R es .sh), (2, R [] .nl), (3, R es .sh)]) := rfl
theorem st_bool (es : List (List V)) (b : Bool) : (putS 8 4 (sval (.bool b))).run (S 18 [(0, R es .sh), (2, R [] .nl), (3, R es .sh)]) = some ((), S 18 [(0, R es .sh), (2, R [] .nl), (3, R es .sh), (4, B b)]) := rfl
theorem st_cond (es : List (List V)) (b : Bool) : condS (.t 4) (S 18 [(0, R es .sh), (2, R [] .nl), (3, R es .sh), (4, B b)]) = some (b, S 18 [(0, R es .sh), (2, R [] .nl), (3, R es .sh)]) := rfl
theorem st_one (es : List (List V)) : (one (.t 3)).run (S 18 [(0, R es .sh), (2, R [] .nl), (3, R es .sh)]) = some (⟨.row () es, .sh⟩, S 18 [(0, R es .sh), (2, R [] .nl), (3, R es .sh)]) := rfl
theorem rd_none {sid : Nat → Nat} {w : World} {R : Nat → Nat → Prop} {t : Tg} {es : List (List A)} (h : Rd sid w R (.row t es)) (ha : t.a = none) (hk : ∀ e ∈ es, e.length = 1) : es = [] := by
 cases h with
 | row _ _ _ _ h _ =>
  cases es with
  | nil => rfl
  | cons x xs =>
   have hx := hk x (by simp)
   match x, hx with
   | [c], _ =>
    obtain ⟨b, o, hb, _⟩ := h 0 c (by simp)
    rw [ha] at hb; cases hb
theorem leave_nil {E : Env} {w w' : World} {args : List SA} {v : Value} {rs : List SA} {outs : List A} {C : Nat → Nat → Prop} (h : Leave E w w' args ⟨[R [] .nl], [], none⟩ v rs outs C) : ∃ rs', Leave E w w' args ⟨[R [] (.ow false)], [], none⟩ v rs' outs C := by
 have her := h.er
 have hc := h.cells
 have hv := h.val
 obtain ⟨s, rfl, hs⟩ := List.map_eq_singleton_iff.1 her
 obtain ⟨k, cs⟩ := s
 simp only [Sl.er, Sl.mk.injEq] at hs
 obtain ⟨h1, h2⟩ := hs
 obtain ⟨c, rfl, hc2⟩ := List.map_eq_singleton_iff.1 h2
 obtain ⟨cv, cf⟩ := c
 simp only [Cell.er, Cell.mk.injEq] at hc2
 obtain ⟨_, rfl⟩ := hc2
 cases k <;> simp [Kd.er] at h1
 have h3 := hc _ (List.mem_cons_self ..) _ (List.mem_cons_self ..)
 obtain ⟨j, hj⟩ := h3
 simp only at hj
 subst hj
 refine ⟨[⟨.val, [⟨.row ⟨none, 0, j⟩ [], .ow false⟩]⟩], ?_, ?_, ?_, ?_, ?_, ?_, ?_, ?_, h.clt, h.cbase, h.frame, h.outer, h.outok, h.left⟩
 ·rfl
 ·rw [hv]; rfl
 ·intro s hs; simp at hs; subst hs; exact .inl ⟨rfl, _, rfl⟩
 ·intro s hs x hx; simp at hs; subst hs; simp at hx; subst hx; exact .inr (.inr (.inl ⟨_, rfl⟩))
 ·intro s hs x hx; simp at hs; subst hs; simp at hx; subst hx
  exact ⟨rfl, Shp.nil j, by simp [VA.blks, blkR]⟩
 ·intro s hs t ht; simp at hs; subst hs; cases ht
 ·intro b
  have := h.cnt b
  simpa [Sl.own, Sl.boxOwn, Cell.own, owns, VA.blks, blkR] using this
 ·intro b hb
  simp [Sl.own, Sl.boxOwn, Cell.own, owns, VA.blks, blkR] at hb
def clF : FnIr := ⟨0, 1, 8, [(2, none)], [], .skip⟩
theorem clone_main {E : Env} {cx : Cx} {SS : StA} {CC : Nat → Nat → Prop} {a : Act} {w : World} (hf : Fits E cx) (hnt : cx.nt = 8) (hO : ∀ g, Keeps' E.P E.sid O0 g) (hi : Inv E SS [] CC a w) (hb : E.base ≤ w.heap.size) {es : List (List V)} (hst : erS SS = S 18 [(0, R es .sh)])
  (h1 : allScal es = true) (h2 : rowsOf 1 es = true) (h3 : es.length ≤ lim)
  {A N D : Code} {id : Nat} {o0 o1 : Oper} {t t2 e : TypeId} {all : List Nat}
  (hA : cCode cx all A = clA) (hN : cCode cx all N = clA) (hB : cCode cx all D = clB)
  (h00 : cOp cx (fun _ => false) o0 = some (.move (.t 0))) (h01 : o0.dst = some 3) (h02 : o0.guard = none)
  (h10 : o1.op = .binOp .eql t (.tmp 3) (.const (.slice none 0 0)) t2) (h11 : o1.dst = some 4) (h12 : o1.guard = none)
  (ht : E.P.underlying t = some (.slice e)) {Q : Exit → Act → World → Prop}
  (hQ : ∀ S1 C1 a1 w1, (finish clF [R es .sh] (erS S1) = some ⟨[R es (.ow false)], [], none⟩ ∨ (es = [] ∧ finish clF [R es .sh] (erS S1) = some ⟨[R [] .nl], [], none⟩)) → Inv E S1 [] C1 a1 w1 → Frame E w w1 → Q .ret a1 w1) :
  (Code.seq A (.seq (.seq (.region id #[o0, o1] false) (.cond (.tmp 4) (.seq N .ret) .skip)) (.seq D .ret))).wp E.P Q a w := by
 refine wp_seq ?_
 obtain ⟨n1, ex1, st1, hc1, rfl, rfl⟩ := run_clA es
 refine code_lift (all := all) (n := n1) (orac := O0) (modes := md) hf hO A hi hb (by rw [hst, hnt, hA]; exact hc1) (fun S1 C1 a1 w1 e1 i1 f1 => ?_)
 show Code.wp E.P _ Q a1 w1
 refine wp_seq ?_
 refine wp_seq ?_
 refine wp_region ?_
 show wpOps E.P #[o0, o1] _ [0, 1] a1 w1
 rw [wpOps_cons]
 have hb1 : E.base ≤ w1.heap.size := Nat.le_trans hb f1.size
 refine step_lift (orac := O0) (modes := md) (inRow := fun _ => false) (io := ⟨some 3, .move (.t 0), none, []⟩) (o := o0) (st1 := S 18 [(0, R es .sh), (2, R [] .nl), (3, R es .sh)]) hf i1 hb1 hO rfl ⟨h01.symm, by rw [h00]; rfl, .inl ⟨h02, rfl⟩⟩ (by rw [e1, hnt]; exact st_move es) (fun S2 C2 a2 w2 e2 i2 f2 => ?_)
 rw [wpOps_cons]
 obtain ⟨_, z, hz, _, hzk, hze, _⟩ := one_lift (ox := .tmp 3) (x := .t 3) hf i2 (by simp [cOpd, hnt]) (by rw [e2]; exact st_one es)
 obtain ⟨zv, zf⟩ := z
 simp only [Cell.er, Cell.mk.injEq] at hz
 obtain ⟨hz1, rfl⟩ := hz
 obtain ⟨tg, es0, rfl, hes⟩ := er_row hz1
 have hrd : Rd E.sid w2 E.old (.row tg es0) := hzk
 have hx : (execOp a2.eval o1).run E.P w2 = .ok (.value (.bool tg.a.isNone)) w2 := by
  have h5 : a2.eval (.tmp 3) = .slice tg.a es0.length tg.cap := hze
  have h6 : a2.eval (.const (.slice none 0 0)) = .slice none 0 0 := rfl
  have h7 := run_eql_slice_nil (P := E.P) w2 t e tg.a es0.length tg.cap ht
  unfold execOp
  rw [h10]
  simp only [h5, h6]
  simp [eqGuard, h7]
 refine nil_step (o := o1) (d := 4) (b := tg.a.isNone) hf i2 rfl h12 h11 hx (u := ()) (st1 := S 18 [(0, R es .sh), (2, R [] .nl), (3, R es .sh), (4, B tg.a.isNone)]) (by rw [e2, hnt]; exact st_bool es _) (fun S3 C3 a3 w3 e3 i3 f3 => ?_)
 show Code.wp E.P _ _ a3 w3
 have hf13 := (f1.trans f2).trans f3
 have hb3 : E.base ≤ w3.heap.size := Nat.le_trans hb hf13.size
 obtain ⟨S4, e4, i4, hcv⟩ := cond_lift (c := .tmp 4) (x := .t 4) hf i3 (by simp [cOpd, hnt]) (by rw [e3]; exact st_cond es _)
 cases hn : tg.a.isNone with
 | true =>
  rw [hn] at hcv
  refine wp_cond_true hcv ?_
  have hes0 : es = [] := by
   have := rd_none hrd (by simpa using hn) ?_
   ·rw [← hes, this]; rfl
   ·intro x hx
    have := List.all_eq_true.1 h2 (x.map VA.er) (by rw [← hes, erR_map]; exact List.mem_map_of_mem hx)
    simpa using this
  subst hes0
  obtain ⟨n2, ex2, st2, hc2, rfl, hq2⟩ := run_clN [] (R [] .sh)
  refine code_lift (all := all) (n := n2) (orac := O0) (modes := md) hf hO (.seq N .ret) i4 hb3 (by rw [e4, hnt]; show code _ _ 8 n2 (.seq (cCode cx all N) .ret) _ = _; rw [hN]; exact hc2) (fun S5 C5 a5 w5 e5 i5 f5 => ?_)
  exact hQ S5 C5 a5 w5 (.inr ⟨rfl, by rw [e5]; exact hq2⟩) i5 (hf13.trans f5)
 | false =>
  rw [hn] at hcv
  refine wp_cond_false hcv ?_
  refine Go.wp_skip ?_
  show Code.wp E.P _ Q a3 w3
  obtain ⟨n2, ex2, st2, hc2, rfl, hq2⟩ := run_clB es (R es .sh) h1 h2 h3
  refine code_lift (all := all) (n := n2) (orac := O0) (modes := md) hf hO (.seq D .ret) i4 hb3 (by rw [e4, hnt]; show code _ _ 8 n2 (.seq (cCode cx all D) .ret) _ = _; rw [hB]; exact hc2) (fun S5 C5 a5 w5 e5 i5 f5 => ?_)
  exact hQ S5 C5 a5 w5 (.inl (by rw [e5]; exact hq2)) i5 (hf13.trans f5)
theorem special_one {args : List SU} {ret : Ret} (h : special 1 args = some ret) : ∃ es f, args = [⟨.val, [⟨.row () es, f⟩]⟩] ∧ allScal es = true ∧ rowsOf 1 es = true ∧ es.length ≤ lim ∧ inF0 f = true ∧ ret = ⟨[R es (.ow false)], [], none⟩ := by
 match args, h with
 | [⟨.val, [⟨.row _ es, f⟩]⟩], h =>
  simp only [special] at h
  split at h
  ·rename_i hc
   simp only [Option.some.injEq] at h
   simp only [Bool.and_eq_true, decide_eq_true_eq, List.all_eq_true] at hc
   obtain ⟨⟨hall, hlen⟩, hf0⟩ := hc
   refine ⟨es, f, rfl, ?_, ?_, hlen, hf0, h.symm⟩
   ·unfold allScal; simp only [List.all_eq_true]; exact fun x hx => (hall x hx).1
   ·unfold rowsOf; simp only [List.all_eq_true, decide_eq_true_eq]; exact fun x hx => (hall x hx).2
  ·cases h
theorem clone_special {P : Program} {sid : Nat → Nat} {canon : Nat → Option Nat} {g : Nat} {fn : Func} {A N B : Code} {id : Nat} {o0 o1 : Oper} {t t2 e : TypeId} {all : List Nat}
  (hids : ∀ f g, canon f = some g → sid g = f) (hm : P.follows .mixedOrders = true) (hfn : P.funcs[sid g]? = some fn) (hname : (fn.name == "runtime.NumGoroutine") = false)
  (hbody : fn.body = some (.seq A (.seq (.seq (.region id #[o0, o1] false) (.cond (.tmp 4) (.seq N .ret) .skip)) (.seq B .ret))))
  (hnt : fn.ntmps = 8) (hres : cRes P fn.results.toList = [(2, none)])
  (hA : cCode ⟨P, canon, 8⟩ all A = clA) (hN : cCode ⟨P, canon, 8⟩ all N = clA) (hB : cCode ⟨P, canon, 8⟩ all B = clB)
  (h00 : cOp ⟨P, canon, 8⟩ (fun _ => false) o0 = some (.move (.t 0))) (h01 : o0.dst = some 3) (h02 : o0.guard = none)
  (h10 : o1.op = .binOp .eql t (.tmp 3) (.const (.slice none 0 0)) t2) (h11 : o1.dst = some 4) (h12 : o1.guard = none)
  (ht : P.underlying t = some (.slice e)) : Special P sid g 1 := by
 intro E w args ret hP hs he hr
 replace hr : special 1 (args.map Sl.er) = some ret := hr
 obtain ⟨es, f, hargs, h1, h2, h3, hf0, rfl⟩ := special_one hr
 obtain ⟨s, rfl, hs1⟩ := List.map_eq_singleton_iff.1 hargs
 obtain ⟨k, cs⟩ := s
 simp only [Sl.er, Sl.mk.injEq] at hs1
 obtain ⟨hk, hcs⟩ := hs1
 obtain ⟨c, rfl, hc⟩ := List.map_eq_singleton_iff.1 hcs
 obtain ⟨cv, cf⟩ := c
 simp only [Cell.er, Cell.mk.injEq] at hc
 obtain ⟨hcv, rfl⟩ := hc
 cases k <;> simp [Kd.er] at hk
 obtain ⟨tg, es0, rfl, hes⟩ := er_row hcv
 have hsh : shutArgs [] [(⟨.val, [⟨.row tg es0, cf⟩]⟩ : SA)] = [⟨.val, [⟨.row tg es0, .sh⟩]⟩] := by
  cases cf <;> simp [inF0] at hf0 <;> rfl
 have he' := he.shut []
 rw [hsh] at he'
 refine ⟨run_enter hfn hname hbody _ _, ?_⟩
 have hval : [(⟨.val, [⟨.row tg es0, cf⟩]⟩ : SA)].map (slVal sid) = [(⟨.val, [⟨.row tg es0, .sh⟩]⟩ : SA)].map (slVal sid) := rfl
 rw [hval]
 suffices hmain : Calls P (sid g) ([(⟨.val, [⟨.row tg es0, .sh⟩]⟩ : SA)].map (slVal sid)).toArray w fun e w' => ∃ v rs outs C, e = .returned v ∧ Leave E w w' [(⟨.val, [⟨.row tg es0, .sh⟩]⟩ : SA)] ⟨[R es (.ow false)], [], none⟩ v rs outs C by
  refine Calls.mono hmain ?_
  rintro e w' ⟨v, rs, outs, C, h1, h2⟩
  refine ⟨v, rs, outs, C, h1, leave_shut (ms := []) ?_⟩
  rw [hsh]; exact h2
 refine calls_of_wp hfn hbody ?_
 have hi := inv_start he' (n := 8) (np := 1) rfl (by decide)
 have hst : erS (startA 8 1 [(⟨.val, [⟨.row tg es0, .sh⟩]⟩ : SA)]) = S 18 [(0, R es .sh)] := by
  have := startA_er ⟨0, 1, 8, [], [], .skip⟩ [(⟨.val, [⟨.row tg es0, .sh⟩]⟩ : SA)]
  rw [this]
  show start _ [(⟨.val, [⟨.row () (erR es0), .sh⟩]⟩ : SU)] = _
  rw [hes]; rfl
 have hbase : (startEnv E 8 [(⟨.val, [⟨.row tg es0, .sh⟩]⟩ : SA)]).base ≤ w.heap.size := by show E.base ≤ _; rw [he.base]; exact Nat.le_refl _
 have hf : Fits (startEnv E 8 [(⟨.val, [⟨.row tg es0, .sh⟩]⟩ : SA)]) ⟨P, canon, 8⟩ := ⟨by show P = E.P; exact hP.symm, rfl, fun f g hg => by show E.sid g = f; rw [hs]; exact hids f g hg, by show E.P.follows _ = _; rw [hP]; exact hm⟩
 have hO : ∀ g, Keeps' (startEnv E 8 [(⟨.val, [⟨.row tg es0, .sh⟩]⟩ : SA)]).P (startEnv E 8 [(⟨.val, [⟨.row tg es0, .sh⟩]⟩ : SA)]).sid O0 g := fun g => O0_keeps _ _ g
 have hPE : (startEnv E 8 [(⟨.val, [⟨.row tg es0, .sh⟩]⟩ : SA)]).P = P := hP
 have hsE : (startEnv E 8 [(⟨.val, [⟨.row tg es0, .sh⟩]⟩ : SA)]).sid = sid := hs
 rw [hs] at hi
 have := clone_main (E := startEnv E 8 [(⟨.val, [⟨.row tg es0, .sh⟩]⟩ : SA)]) (cx := ⟨P, canon, 8⟩) (t := t) (t2 := t2) (e := e) (all := all) (o0 := o0) (o1 := o1) (id := id) (Q := bodyPost P fn fun e w' => ∃ v rs outs C, e = .returned v ∧ Leave E w w' [(⟨.val, [⟨.row tg es0, .sh⟩]⟩ : SA)] ⟨[R es (.ow false)], [], none⟩ v rs outs C) hf rfl hO hi hbase hst h1 h2 h3 hA hN hB h00 h01 h02 h10 h11 h12 (by rw [hPE]; exact ht) (fun S1 C1 a1 w1 q i1 f1 => ?_)
 ·rw [hPE] at this
  simpa [hnt] using this
 ·have hargsE : [(⟨.val, [⟨.row tg es0, .sh⟩]⟩ : SA)].map Sl.er = [R es .sh] := by
   show [(⟨.val, [⟨.row () (erR es0), .sh⟩]⟩ : SU)] = _
   rw [hes]
  rcases q with q | ⟨rfl, q⟩
  ·obtain ⟨v, rs, outs, C', r1, r2⟩ := finish_lift (P := P) (fn := fn) (ir := clF) he' i1 f1 hres.symm rfl (by rw [hargsE]; exact q)
   exact ⟨i1.nodef, v, r1, v, rs, outs, C', rfl, r2⟩
  ·obtain ⟨v, rs, outs, C', r1, r2⟩ := finish_lift (P := P) (fn := fn) (ir := clF) he' i1 f1 hres.symm rfl (by rw [hargsE]; exact q)
   obtain ⟨rs', r3⟩ := leave_nil r2
   exact ⟨i1.nodef, v, r1, v, rs', outs, C', rfl, r3⟩
def seL : Code → Code
 | .seq x _ => x
 | _ => .skip
def seR : Code → Code
 | .seq _ y => y
 | _ => .skip
def seC : Code → Code
 | .cond _ x _ => x
 | _ => .skip
def seI : Code → Nat
 | .region id _ _ => id
 | _ => 0
def seO (i : Nat) : Code → Oper
 | .region _ ops _ => ops.getD i default
 | _ => default
def seT (o : Oper) : TypeId × TypeId := match o.op with
 | .binOp _ t _ _ t2 => (t, t2)
 | _ => (0, 0)
def seE : Option TypeDesc → TypeId
 | some (.slice e) => e
 | _ => 0
def clBody (fn : Func) : Code := fn.body.getD .skip
def clM (fn : Func) : Code := seL (seL (seR (clBody fn)))
def clAll (fn : Func) : List Nat := codeUses (clBody fn) ++ resTmps fn.results.toList
theorem clone_seat {P : Program} {sid : Nat → Nat} {L : List (Nat × Nat)} {g : Nat} {ir : FnIr} {fn : Func}
  (hids : ∀ p ∈ L, sid p.2 = p.1) (hm : P.follows .mixedOrders = true) (hsp : ir.sp = 1) (hfn : P.funcs[sid g]? = some fn) (hname : (fn.name == "runtime.NumGoroutine") = false)
  (hbody : fn.body = some (.seq (seL (clBody fn)) (.seq (.seq (.region (seI (clM fn)) #[seO 0 (clM fn), seO 1 (clM fn)] false) (.cond (.tmp 4) (.seq (seL (seC (seR (seL (seR (clBody fn)))))) .ret) .skip)) (.seq (seL (seR (seR (clBody fn)))) .ret))))
  (hnt : fn.ntmps = 8) (hres : cRes P fn.results.toList = [(2, none)])
  (hA : cCode ⟨P, fun f => L.lookup f, 8⟩ (clAll fn) (seL (clBody fn)) = clA) (hN : cCode ⟨P, fun f => L.lookup f, 8⟩ (clAll fn) (seL (seC (seR (seL (seR (clBody fn)))))) = clA) (hB : cCode ⟨P, fun f => L.lookup f, 8⟩ (clAll fn) (seL (seR (seR (clBody fn)))) = clB)
  (h00 : cOp ⟨P, fun f => L.lookup f, 8⟩ (fun _ => false) (seO 0 (clM fn)) = some (.move (.t 0))) (h01 : (seO 0 (clM fn)).dst = some 3) (h02 : (seO 0 (clM fn)).guard = none)
  (h10 : (seO 1 (clM fn)).op = .binOp .eql (seT (seO 1 (clM fn))).1 (.tmp 3) (.const (.slice none 0 0)) (seT (seO 1 (clM fn))).2) (h11 : (seO 1 (clM fn)).dst = some 4) (h12 : (seO 1 (clM fn)).guard = none)
  (ht : P.underlying (seT (seO 1 (clM fn))).1 = some (.slice (seE (P.underlying (seT (seO 1 (clM fn))).1)))) : Good P sid (fun f => L.lookup f) (g, ir) := by
 refine .inr ⟨by show ir.sp ≠ 0; rw [hsp]; decide, ?_⟩
 show Special P sid g ir.sp
 rw [hsp]
 exact clone_special (canon := fun f => L.lookup f) (fun f g hf => hids (f, g) (lookup_mem hf)) hm hfn hname hbody hnt hres hA hN hB h00 h01 h02 h10 h11 h12 ht
end Go.Vm
end
section
namespace Go.Vm
def zM (d s : Nat) : Io := ⟨some d, .move (.t s), none, []⟩
def zA (d s : Nat) : Io := ⟨some d, .assign (.t s), none, []⟩
def zK (d : Nat) (x : Opd) : Io := ⟨some d, .assign x, none, []⟩
def zL (d s : Nat) : Io := ⟨some d, .load false 1 (.t s), none, []⟩
def zF (d o s : Nat) : Io := ⟨some d, .faddr o (.t s), none, []⟩
def zO (d : Nat) (x : Ir) : Io := ⟨some d, x, none, []⟩
def zG (d : Nat) (x : Ir) (g : Nat) (b : Bool) : Io := ⟨some d, x, some (g, b), []⟩
def zN (x : Ir) : Io := ⟨none, x, none, []⟩
def zI (n : Int) : Opd := .c false [.int .i64 n]
def zB (b : Bool) : Opd := .c false [.bool b]
def zE : Opd := .c false [.row () []]
def zT : List Nat → List Opd
 | [] => []
 | i :: is => .t i :: zT is
def zC (d g : Nat) (l : List Nat) : Io := ⟨some d, .call g (zT l), none, []⟩
def zR (a b : List Nat) (l : List Io) : Cd := .region false a b l
def zr (a : Nat) : Nat → List Nat
 | 0 => []
 | n + 1 => a :: zr (a + 1) n
def zq (a n : Nat) (l : List Nat) : List Nat := zr a n ++ l
def zv (o : Io) (l : List Nat) : Io := ⟨o.dst, o.op, o.guard, l⟩
def zs (a b : List Nat) (l : List Io) (c : Cd) : Cd := .seq (.region false a b l) c
def zc (i : Nat) (a b : Cd) : Cd := .cond (.t i) a b
def zS (d n s : Nat) : Io := ⟨some d, .load true n (.t s), none, []⟩
def zb (d : Nat) (op : BinOp) (x y : Nat) : Io := ⟨some d, .bin op (.t x) (.t y), none, []⟩
def zn (d s : Nat) : Io := ⟨some d, .un .not (.t s), none, []⟩
def zl (d s : Nat) : Io := ⟨some d, .len false (.t s), none, []⟩
def zp (d k x i : Nat) : Io := ⟨some d, .iaddr k (.t x) (.t i), none, []⟩
theorem nm {α : Sort _} (x : α) : ∃ y, y = x := ⟨_, rfl⟩
end Go.Vm
end
