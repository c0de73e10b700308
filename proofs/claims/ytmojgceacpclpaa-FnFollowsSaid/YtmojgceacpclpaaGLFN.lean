/- What the functions answer. -/
import Derived.Test.YtmojgceacpclpaaGLTab
import Derived.Test.YtmojgceacpclpaaGLFA
import Derived.Test.YtmojgceacpclpaaGLFE
import Derived.Test.YtmojgceacpclpaaGLFF
import Derived.Test.YtmojgceacpclpaaGLFK
import Derived.Test.YtmojgceacpclpaaGLFL
import Derived.Test.YtmojgceacpclpaaGLFM
set_option maxHeartbeats 4000000
set_option maxRecDepth 10000
set_option linter.unusedVariables false
set_option linter.unusedSimpArgs false
namespace Go.Vm
def lstS (la lb : List Move) (x y : Int) (b : Bool) : List Int := match b with | true => mvS la x true | false => mvS lb y false
theorem lstS_len {la lb : List Move} {x y : Int} {b : Bool} {n : Nat} (h1 : la.length ≤ n) (h2 : lb.length ≤ n) : (lstS la lb x y b).length ≤ n := by
 cases b
 ·exact Nat.le_trans mvS_len h2
 ·exact Nat.le_trans mvS_len h1
theorem led_S {la lb : List Move} (ha : okM la) (hb : okM lb) {x y : Int} {L : List (List Int)} (h : ∀ b, ∀ m ∈ lstS la lb x y b, ∀ q ∈ oneV la lb x y b b m, q ∈ L) : ∀ q ∈ nxV id la lb x y, q ∈ L := by
 intro q hq
 obtain ⟨d, m, s, t, h1, h2, h3⟩ := (nxV_mem ha hb).1 hq
 refine h d m ?_ q ((oneV_mem ha hb).2 ⟨s, t, h1, h2, h3⟩)
 cases d
 ·exact mvS_mem.2 ⟨_, h3⟩
 ·exact mvS_mem.2 ⟨_, h2⟩
theorem one_nx {la lb : List Move} (ha : okM la) (hb : okM lb) {x y m : Int} {b : Bool} {q : List Int} (h : q ∈ oneV la lb x y b b m) : q ∈ nxV id la lb x y := by
 obtain ⟨s, t, h1, h2, h3⟩ := (oneV_mem ha hb).1 h
 exact (nxV_mem ha hb).2 ⟨b, m, s, t, h1, h2, h3⟩
structure Mdw (N : Int → Int → List (List Int)) (pre : List (List Int)) (p : List Int) (suf sf : List (List Int)) : Prop where
 way : Way N (pre ++ p :: sf)
 sub : ∀ q ∈ suf, q ∈ sf
theorem Mdw.mem {N : Int → Int → List (List Int)} {pre : List (List Int)} {p : List Int} {suf sf : List (List Int)} (h : Mdw N pre p suf sf) {q : List Int} (hq : q ∈ pre ++ p :: suf) : q ∈ pre ++ p :: sf := by
 simp only [List.mem_append, List.mem_cons] at hq ⊢
 rcases hq with a | a | a
 ·exact .inl a
 ·exact .inr (.inl a)
 ·exact .inr (.inr (h.sub q a))
theorem mem_snoc {pre sf : List (List Int)} {p z q : List Int} (h : q ∈ pre ++ p :: sf) : q ∈ pre ++ p :: (sf ++ [z]) := by
 simp only [List.mem_append, List.mem_cons] at h ⊢
 rcases h with a | a | a
 ·exact .inl a
 ·exact .inr (.inl a)
 ·exact .inr (.inr (.inl a))
theorem Mdw.push {N : Int → Int → List (List Int)} {pre : List (List Int)} {p : List Int} {suf sf : List (List Int)} (h : Mdw N pre p suf sf) {z : List Int} (h1 : isPr z) (h2 : z ∉ pre ++ p :: sf) (h3 : Reach N z) : Mdw N pre p suf (sf ++ [z]) := by
 refine ⟨?_, fun q hq => by simp [h.sub q hq]⟩
 have := h.way.push h1 h2 h3
 simpa using this
theorem ok327 (sa sb : Int) (ea eb : List Bool) (la lb : List Move) (ma : mchO sa ea la = true) (mb : mchO sb eb lb = true) {f0 f1 f2 f3 : Fl} (h0 : inFl f0 = true) (h1 : inFl f1 = true) (h2 : inFl f2 = true) (h3 : inFl f3 = true) :
  ∃ r, fix Tb md 327 [sMach sa (row fB ea) (row fMove la) f0 f1, sMach sb (row fB eb) (row fMove lb) f2 f3] = some r ∧ ∃ L, r = ⟨[R (row fR L) (.ow false)], [], none⟩ ∧ Rch (nxV id la lb) L := by
 have ha := mch_mc ma
 have hb := mch_mc mb
 have ka := ok326 sa ea la (by have := ha.le; omega) (by have := ha.ll; omega) (f0 := .sp 0 1) (f1 := .sp 0 2) rfl rfl
 have kb := ok326 sb eb lb (by have := hb.le; omega) (by have := hb.ll; omega) (f0 := .sp 0 1) (f1 := .sp 0 2) rfl rfl
 rw [ma] at ka
 rw [mb] at kb
 have kx := fun x => ok367 sa ea la x true (by have := ha.ll; omega) (f0 := .sp 0 1) (f1 := .sp 0 2) rfl rfl
 have ky := fun y => ok367 sb eb lb y false (by have := hb.ll; omega) (f0 := .sp 0 1) (f1 := .sp 0 2) rfl rfl
 have ki := fun x d m => ok366 sa ea la x d m (by have := ha.ll; omega) (f0 := .sp 0 1) (f1 := .sp 0 2) rfl rfl
 have kk := fun y d m => ok366 sb eb lb y d m (by have := hb.ll; omega) (f0 := .sp 0 1) (f1 := .sp 0 2) rfl rfl
 have tl : ∀ x y b, (lstS la lb x y b).length ≤ 12 := fun x y b => lstS_len ha.ll hb.ll
 obtain ⟨e1, he1⟩ := nm (row fMove la)
 obtain ⟨e2, he2⟩ := nm (row fB ea)
 obtain ⟨e3, he3⟩ := nm (row fMove lb)
 obtain ⟨e4, he4⟩ := nm (row fB eb)
 rw [← he1, ← he2] at ka kx ki
 rw [← he3, ← he4] at kb ky kk
 rw [← he1, ← he2, ← he3, ← he4]
 obtain ⟨ez, hez⟩ := nm (row fR [[0, 0]])
 refine fix_fnE (fn := ir327) tb_327 rfl rfl (by decide) rfl ?_; intro Q W hW hQ; simp only [shutArgs, shutS, List.map_cons, List.map_nil, ir327, shut_in h0, shut_in h1, shut_in h2, shut_in h3, List.head?_nil, reduceCtorEq, if_false, sMach] at hQ ⊢
 have hW' : ∀ el L, el = row fR L → Rch (nxV id la lb) L → W (some ⟨[R el (.ow false)], [], none⟩) := fun el L e q => hW _ ⟨L, by rw [e], q⟩
 clear hW
 intro add sub mul arith eq ne lt le gt ge neg conv mn mx not beq len at' ln bd cut app allS isNil mks set o hP F ho
 rw [← ho] at ka kb kx ky ki kk
 have gn : ∀ b, not b = !b := F.not
 have p2 : ∀ a b, at' 1 [[.int .i64 a], [.int .i64 b]] 0 = some (0, [.int .i64 a]) := fun a b => by rw [F.at']; rfl
 have p3 : ∀ a b, at' 1 [[.int .i64 a], [.int .i64 b]] 1 = some (1, [.int .i64 b]) := fun a b => by rw [F.at']; rfl
 have a0 : allS [[.row () [[.int .i64 0], [.int .i64 0]]]] = false := by rw [F.allS]; rfl
 have a1 : app 1 [] [[.row () [[.int .i64 0], [.int .i64 0]]]] = some ez := by rw [hez]; exact F.push (f := fR) (l := []) (x := [0, 0]) rfl (fun _ => rfl) rfl (by simp)
 cbv
 rw [ka]; cbv
 rw [gn]; cbv
 rw [kb]; cbv
 rw [gn]; cbv
 rw [a0]; cbv
 rw [a1]; cbv
 clear ka kb a0 a1
 refine loop_ind2 hP (σ := List (List Int) × List (List Int) × List (List V) × Int × Option (Int × Int × Int × List (List V) × Int × Option (Int × Int × Option (List (List V) × Bool)))) (fun s => match s.2.2.2.2 with
  | none => [(0, sMach sa e2 e1 .sh .sh), (1, sMach sb e4 e3 .sh .sh), (2, ⟨.ptr 113 0, []⟩), (3, ⟨.ptr 114 0, []⟩), (4, R [] .nl), (5, R s.2.2.1 (.ow false)), (6, I s.2.2.2.1), (113, ⟨.box (), [⟨.int .i64 sa, .sc⟩, ⟨.row () e2, .sh⟩, ⟨.row () e1, .sh⟩]⟩), (114, ⟨.box (), [⟨.int .i64 sb, .sc⟩, ⟨.row () e4, .sh⟩, ⟨.row () e3, .sh⟩]⟩)]
  | some (x, y, v, e, k, none) => [(0, sMach sa e2 e1 .sh .sh), (1, sMach sb e4 e3 .sh .sh), (2, ⟨.ptr 113 0, []⟩), (3, ⟨.ptr 114 0, []⟩), (4, R [] .nl), (5, R s.2.2.1 (.ow false)), (6, I s.2.2.2.1), (7, I x), (8, I y), (9, I v), (10, R e (.ow false)), (11, I k), (113, ⟨.box (), [⟨.int .i64 sa, .sc⟩, ⟨.row () e2, .sh⟩, ⟨.row () e1, .sh⟩]⟩), (114, ⟨.box (), [⟨.int .i64 sb, .sc⟩, ⟨.row () e4, .sh⟩, ⟨.row () e3, .sh⟩]⟩)]
  | some (x, y, v, e, k, some (p, q, none)) => [(0, sMach sa e2 e1 .sh .sh), (1, sMach sb e4 e3 .sh .sh), (2, ⟨.ptr 113 0, []⟩), (3, ⟨.ptr 114 0, []⟩), (4, R [] .nl), (5, R s.2.2.1 (.ow false)), (6, I s.2.2.2.1), (7, I x), (8, I y), (9, I v), (10, R e (.ow false)), (11, I k), (12, I p), (13, I q), (113, ⟨.box (), [⟨.int .i64 sa, .sc⟩, ⟨.row () e2, .sh⟩, ⟨.row () e1, .sh⟩]⟩), (114, ⟨.box (), [⟨.int .i64 sb, .sc⟩, ⟨.row () e4, .sh⟩, ⟨.row () e3, .sh⟩]⟩)]
  | some (x, y, v, e, k, some (p, q, some (z, false))) => [(0, sMach sa e2 e1 .sh .sh), (1, sMach sb e4 e3 .sh .sh), (2, ⟨.ptr 113 0, []⟩), (3, ⟨.ptr 114 0, []⟩), (4, R [] .nl), (5, R s.2.2.1 (.ow false)), (6, I s.2.2.2.1), (7, I x), (8, I y), (9, I v), (10, R e (.ow false)), (11, I k), (12, I p), (13, I q), (14, R z (.ow false)), (113, ⟨.box (), [⟨.int .i64 sa, .sc⟩, ⟨.row () e2, .sh⟩, ⟨.row () e1, .sh⟩]⟩), (114, ⟨.box (), [⟨.int .i64 sb, .sc⟩, ⟨.row () e4, .sh⟩, ⟨.row () e3, .sh⟩]⟩)]
  | some (x, y, v, e, k, some (p, q, some (z, true))) => [(0, sMach sa e2 e1 .sh .sh), (1, sMach sb e4 e3 .sh .sh), (2, ⟨.ptr 113 0, []⟩), (3, ⟨.ptr 114 0, []⟩), (4, R [] .nl), (5, R s.2.2.1 (.ow false)), (6, I s.2.2.2.1), (7, I x), (8, I y), (9, I v), (10, R e (.ow false)), (11, I k), (12, I p), (13, I q), (14, R z .fr), (113, ⟨.box (), [⟨.int .i64 sa, .sc⟩, ⟨.row () e2, .sh⟩, ⟨.row () e1, .sh⟩]⟩), (114, ⟨.box (), [⟨.int .i64 sb, .sc⟩, ⟨.row () e4, .sh⟩, ⟨.row () e3, .sh⟩]⟩)])
  (fun s => At s.2.2.2.1 s.1.length ∧ s.2.2.1 = row fR (s.1 ++ s.2.1) ∧ Way (nxV id la lb) (s.1 ++ s.2.1) ∧ Led (nxV id la lb) s.1 (s.1 ++ s.2.1)) (fun s => 36 - s.1.length) ([], [[0, 0]], ez, 0, none) rfl ⟨rfl, hez, Way.one, by simp [Led]⟩ ?_
 intro c9 Q1 hc9 hQ1
 rintro ⟨pre, suf, eo, i, j⟩ ⟨hi, heo, hw, hled⟩ ih
 simp only at hi heo hw hled ih
 have lo := F.len_at heo
 cases suf with
 | nil =>
  have fin : Rch (nxV id la lb) (pre ++ []) := ⟨hw.pr, hw.zero, fun a b hab => hled a b (by simpa using hab), hw.reach, hw.len⟩
  have g1 : lt i (len eo) = false := F.lt_f hi lo (by simp)
  clear ih
  rcases j with _ | ⟨x', y', v', e', k', _ | ⟨p', q', _ | ⟨z', _ | _⟩⟩⟩
  all_goals
   cbv
   rw [g1]; cbv
   rw [hQ1]; cbv
   rw [hQ]; cbv
   exact hW' eo _ heo fin
 | cons p suf =>
  obtain ⟨x, y, hxy, _, _, _, _⟩ := hw.pr p (by simp)
  have g1 : lt i (len eo) = true := F.lt_t hi lo (by simp)
  obtain ⟨ix, hix⟩ := nm (pre.length * 1)
  have r1 : at' 1 eo i = some (ix, [.row () [[.int .i64 x], [.int .i64 y]]]) := by rw [hix, F.get hi heo rfl (fun _ => rfl) (by decide), hxy]; rfl
  have hrx : Reach (nxV id la lb) [x, y] := hw.reach [x, y] (by rw [← hxy]; simp)
  have kxx := kx x
  have kyy := ky y
  obtain ⟨lx, hlx⟩ := nm (row fI (mvS la x true))
  obtain ⟨ly, hly⟩ := nm (row fI (mvS lb y false))
  rw [← hlx] at kxx
  rw [← hly] at kyy
  apply loop_share hP (st := fun (s : List Bool × List Bool × List (List Int) × List (List V) × Int × Option (List (List V) × Int × Option (Int × Int × Option (List (List V) × Bool)))) => match s.2.2.2.2.2 with
   | none => [(0, sMach sa e2 e1 .sh .sh), (1, sMach sb e4 e3 .sh .sh), (2, ⟨.ptr 113 0, []⟩), (3, ⟨.ptr 114 0, []⟩), (4, R [] .nl), (5, R s.2.2.2.1 (.ow false)), (6, I i), (7, I x), (8, I y), (9, I s.2.2.2.2.1), (113, ⟨.box (), [⟨.int .i64 sa, .sc⟩, ⟨.row () e2, .sh⟩, ⟨.row () e1, .sh⟩]⟩), (114, ⟨.box (), [⟨.int .i64 sb, .sc⟩, ⟨.row () e4, .sh⟩, ⟨.row () e3, .sh⟩]⟩)]
   | some (e, k, none) => [(0, sMach sa e2 e1 .sh .sh), (1, sMach sb e4 e3 .sh .sh), (2, ⟨.ptr 113 0, []⟩), (3, ⟨.ptr 114 0, []⟩), (4, R [] .nl), (5, R s.2.2.2.1 (.ow false)), (6, I i), (7, I x), (8, I y), (9, I s.2.2.2.2.1), (10, R e (.ow false)), (11, I k), (113, ⟨.box (), [⟨.int .i64 sa, .sc⟩, ⟨.row () e2, .sh⟩, ⟨.row () e1, .sh⟩]⟩), (114, ⟨.box (), [⟨.int .i64 sb, .sc⟩, ⟨.row () e4, .sh⟩, ⟨.row () e3, .sh⟩]⟩)]
   | some (e, k, some (p, q, none)) => [(0, sMach sa e2 e1 .sh .sh), (1, sMach sb e4 e3 .sh .sh), (2, ⟨.ptr 113 0, []⟩), (3, ⟨.ptr 114 0, []⟩), (4, R [] .nl), (5, R s.2.2.2.1 (.ow false)), (6, I i), (7, I x), (8, I y), (9, I s.2.2.2.2.1), (10, R e (.ow false)), (11, I k), (12, I p), (13, I q), (113, ⟨.box (), [⟨.int .i64 sa, .sc⟩, ⟨.row () e2, .sh⟩, ⟨.row () e1, .sh⟩]⟩), (114, ⟨.box (), [⟨.int .i64 sb, .sc⟩, ⟨.row () e4, .sh⟩, ⟨.row () e3, .sh⟩]⟩)]
   | some (e, k, some (p, q, some (z, false))) => [(0, sMach sa e2 e1 .sh .sh), (1, sMach sb e4 e3 .sh .sh), (2, ⟨.ptr 113 0, []⟩), (3, ⟨.ptr 114 0, []⟩), (4, R [] .nl), (5, R s.2.2.2.1 (.ow false)), (6, I i), (7, I x), (8, I y), (9, I s.2.2.2.2.1), (10, R e (.ow false)), (11, I k), (12, I p), (13, I q), (14, R z (.ow false)), (113, ⟨.box (), [⟨.int .i64 sa, .sc⟩, ⟨.row () e2, .sh⟩, ⟨.row () e1, .sh⟩]⟩), (114, ⟨.box (), [⟨.int .i64 sb, .sc⟩, ⟨.row () e4, .sh⟩, ⟨.row () e3, .sh⟩]⟩)]
   | some (e, k, some (p, q, some (z, true))) => [(0, sMach sa e2 e1 .sh .sh), (1, sMach sb e4 e3 .sh .sh), (2, ⟨.ptr 113 0, []⟩), (3, ⟨.ptr 114 0, []⟩), (4, R [] .nl), (5, R s.2.2.2.1 (.ow false)), (6, I i), (7, I x), (8, I y), (9, I s.2.2.2.2.1), (10, R e (.ow false)), (11, I k), (12, I p), (13, I q), (14, R z .fr), (113, ⟨.box (), [⟨.int .i64 sa, .sc⟩, ⟨.row () e2, .sh⟩, ⟨.row () e1, .sh⟩]⟩), (114, ⟨.box (), [⟨.int .i64 sb, .sc⟩, ⟨.row () e4, .sh⟩, ⟨.row () e3, .sh⟩]⟩)])
   (inv := fun s => s.2.2.2.2.1 = 1 - (s.1.length : Int) ∧ [true, false] = s.1 ++ s.2.1 ∧ s.2.2.2.1 = row fR (pre ++ p :: s.2.2.1) ∧ Mdw (nxV id la lb) pre p suf s.2.2.1 ∧ (s.2.2.2.2.2 = none → s.1 = []) ∧ ∀ b ∈ s.1, ∀ m ∈ lstS la lb x y b, ∀ q ∈ oneV la lb x y b b m, q ∈ pre ++ p :: s.2.2.1) (μ := fun s => s.2.1.length)
  ·intro key
   have key1 := fun j => key ([], [true, false], suf, eo, 1, j) ⟨rfl, rfl, heo, ⟨hw, fun _ h => h⟩, fun _ => rfl, by simp⟩
   rcases j with _ | ⟨x', y', v', e', k', _ | ⟨p', q', _ | ⟨z', _ | _⟩⟩⟩
   all_goals
    cbv
    rw [g1]; cbv
    rw [r1]; cbv
    rw [p2]; cbv
    rw [r1]; cbv
    rw [p3]; cbv
    first
    | exact key1 none
    | exact key1 (some (e', k', none))
    | exact key1 (some (e', k', some (p', q', none)))
    | exact key1 (some (e', k', some (p', q', some (z', false))))
    | exact key1 (some (e', k', some (p', q', some (z', true))))
  ·intro c8 Q2 hc8 hQ2
   rintro ⟨bpre, bsuf, sf, eo2, v, j2⟩ ⟨hv, hbl, heo2, hmid, hj2, hled2⟩ ih2
   simp only at hv hbl heo2 hmid hj2 hled2 ih2
   have hw2 := hmid.way
   have hl36 : pre.length < 36 := by have := hw2.len; simp at this; omega
   cases bsuf with
   | nil =>
    have hb2 : bpre = [true, false] := by rw [hbl, List.append_nil]
    have g2 : ge v 0 = false := by rw [F.ge, hv, hb2]; rfl
    have hin : At (add .i64 i 1) (pre ++ [p]).length := at_len (F.inc hi (by omega)) (by simp)
    have hled3 : Led (nxV id la lb) (pre ++ [p]) (pre ++ p :: sf) := by
     intro a b hab q hq
     rcases List.mem_append.1 hab with e | e
     ·exact hmid.mem (hled a b e q hq)
     ·simp only [List.mem_singleton] at e
      rw [hxy] at e
      injection e with e1 e2
      injection e2 with e2
      subst e1; subst e2
      exact led_S ha.ok hb.ok (fun b m hm q hq => hled2 b (by rw [hb2]; cases b <;> simp) m hm q hq) q hq
    have ih' := fun j => ih (pre ++ [p], sf, eo2, add .i64 i 1, j) ⟨hin, by rw [heo2]; simp, by simpa using hw2, by simpa using hled3⟩ (by simp; omega)
    clear ih ih2
    rcases j2 with _ | ⟨e', k', _ | ⟨p', q', _ | ⟨z', _ | _⟩⟩⟩
    ·rw [hb2] at hj2
     exact absurd (hj2 rfl) (by simp)
    all_goals
     cbv
     rw [g2]; cbv
     rw [hQ2]; cbv
     first
     | exact ih' (some (x, y, v, e', k', none))
     | exact ih' (some (x, y, v, e', k', some (p', q', none)))
     | exact ih' (some (x, y, v, e', k', some (p', q', some (z', false))))
     | exact ih' (some (x, y, v, e', k', some (p', q', some (z', true))))
   | cons b bsuf =>
    have hpl : bpre.length ≤ 1 := by have := congrArg List.length hbl; simp at this; omega
    have g2 : ge v 0 = true := by rw [F.ge, hv, decide_eq_true_eq]; omega
    have hbv : b = decide (v = 1) := by
     match bpre, hbl, hpl with
     | [], hbl, _ => simp at hbl; rw [hv, hbl.1]; rfl
     | [c], hbl, _ => simp at hbl; rw [hv, hbl.2.1]; rfl
     | _ :: _ :: _, _, hpl => simp at hpl
    have hbv0 : (!b) = decide (v = 0) := by
     match bpre, hbl, hpl with
     | [], hbl, _ => simp at hbl; rw [hv, hbl.1]; rfl
     | [c], hbl, _ => simp at hbl; rw [hv, hbl.2.1]; rfl
     | _ :: _ :: _, _, hpl => simp at hpl
    have g4 : eq v 0 = !b := by rw [F.eq, hbv0]
    have g5 : eq v 1 = b := by rw [F.eq, hbv]
    have g6 : sub .i64 v 1 = v - 1 := by rw [F.sub, hv, wrap64 (by omega) (by omega)]
    have hbl2 : [true, false] = (bpre ++ [b]) ++ bsuf := by rw [hbl]; simp
    obtain ⟨ls, hls⟩ := nm (lstS la lb x y b)
    obtain ⟨le, hle⟩ := nm (row fI ls)
    have hlx' : b = true → lx = le := fun q => by rw [hlx, hle, hls, q]; rfl
    have hly' : b = false → ly = le := fun q => by rw [hly, hle, hls, q]; rfl
    have hlsn : ls.length ≤ 12 := by rw [hls]; exact tl x y b
    have ll := F.len_at hle
    apply loop_share hP (st := fun (s : List Int × List Int × List (List Int) × List (List V) × Int × Option (Int × Int × Option (List (List V) × Bool))) => match s.2.2.2.2.2 with
     | none => [(0, sMach sa e2 e1 .sh .sh), (1, sMach sb e4 e3 .sh .sh), (2, ⟨.ptr 113 0, []⟩), (3, ⟨.ptr 114 0, []⟩), (4, R [] .nl), (5, R s.2.2.2.1 (.ow false)), (6, I i), (7, I x), (8, I y), (9, I v), (10, R le (.ow false)), (11, I s.2.2.2.2.1), (113, ⟨.box (), [⟨.int .i64 sa, .sc⟩, ⟨.row () e2, .sh⟩, ⟨.row () e1, .sh⟩]⟩), (114, ⟨.box (), [⟨.int .i64 sb, .sc⟩, ⟨.row () e4, .sh⟩, ⟨.row () e3, .sh⟩]⟩)]
     | some (p, q, none) => [(0, sMach sa e2 e1 .sh .sh), (1, sMach sb e4 e3 .sh .sh), (2, ⟨.ptr 113 0, []⟩), (3, ⟨.ptr 114 0, []⟩), (4, R [] .nl), (5, R s.2.2.2.1 (.ow false)), (6, I i), (7, I x), (8, I y), (9, I v), (10, R le (.ow false)), (11, I s.2.2.2.2.1), (12, I p), (13, I q), (113, ⟨.box (), [⟨.int .i64 sa, .sc⟩, ⟨.row () e2, .sh⟩, ⟨.row () e1, .sh⟩]⟩), (114, ⟨.box (), [⟨.int .i64 sb, .sc⟩, ⟨.row () e4, .sh⟩, ⟨.row () e3, .sh⟩]⟩)]
     | some (p, q, some (z, false)) => [(0, sMach sa e2 e1 .sh .sh), (1, sMach sb e4 e3 .sh .sh), (2, ⟨.ptr 113 0, []⟩), (3, ⟨.ptr 114 0, []⟩), (4, R [] .nl), (5, R s.2.2.2.1 (.ow false)), (6, I i), (7, I x), (8, I y), (9, I v), (10, R le (.ow false)), (11, I s.2.2.2.2.1), (12, I p), (13, I q), (14, R z (.ow false)), (113, ⟨.box (), [⟨.int .i64 sa, .sc⟩, ⟨.row () e2, .sh⟩, ⟨.row () e1, .sh⟩]⟩), (114, ⟨.box (), [⟨.int .i64 sb, .sc⟩, ⟨.row () e4, .sh⟩, ⟨.row () e3, .sh⟩]⟩)]
     | some (p, q, some (z, true)) => [(0, sMach sa e2 e1 .sh .sh), (1, sMach sb e4 e3 .sh .sh), (2, ⟨.ptr 113 0, []⟩), (3, ⟨.ptr 114 0, []⟩), (4, R [] .nl), (5, R s.2.2.2.1 (.ow false)), (6, I i), (7, I x), (8, I y), (9, I v), (10, R le (.ow false)), (11, I s.2.2.2.2.1), (12, I p), (13, I q), (14, R z .fr), (113, ⟨.box (), [⟨.int .i64 sa, .sc⟩, ⟨.row () e2, .sh⟩, ⟨.row () e1, .sh⟩]⟩), (114, ⟨.box (), [⟨.int .i64 sb, .sc⟩, ⟨.row () e4, .sh⟩, ⟨.row () e3, .sh⟩]⟩)])
     (inv := fun s => At s.2.2.2.2.1 s.1.length ∧ ls = s.1 ++ s.2.1 ∧ s.2.2.2.1 = row fR (pre ++ p :: s.2.2.1) ∧ Mdw (nxV id la lb) pre p suf s.2.2.1 ∧ (∀ q ∈ sf, q ∈ s.2.2.1) ∧ ∀ m ∈ s.1, ∀ q ∈ oneV la lb x y b b m, q ∈ pre ++ p :: s.2.2.1) (μ := fun s => s.2.1.length)
    ·intro key
     have key1 := fun j => key ([], ls, sf, eo2, 0, j) ⟨rfl, rfl, heo2, hmid, fun _ h => h, by simp⟩
     rcases j2 with _ | ⟨e', k', _ | ⟨p', q', _ | ⟨z', _ | _⟩⟩⟩
     all_goals
      cbv
      rw [g2]; cbv
      rw [kxx]; cbv
      rw [g4]
      refine both (fun d => ?_) (fun d => ?_) <;> rw [d] <;> cbv
      ·rw [kyy]; cbv
       rw [hly' (by simpa using d)]
       first
       | exact key1 none
       | exact key1 (some (p', q', none))
       | exact key1 (some (p', q', some (z', false)))
       | exact key1 (some (p', q', some (z', true)))
      ·rw [hlx' (by simpa using d)]
       first
       | exact key1 none
       | exact key1 (some (p', q', none))
       | exact key1 (some (p', q', some (z', false)))
       | exact key1 (some (p', q', some (z', true)))
    ·intro c7 Q3 hc7 hQ3
     rintro ⟨mpre, msuf, sf3, eo3, k, j3⟩ ⟨hk, hl3, heo3, hmid3, hsf3, hled4⟩ ih3
     simp only at hk hl3 heo3 hmid3 hsf3 hled4 ih3
     cases msuf with
     | nil =>
      have g7 : lt k (len le) = false := F.lt_f hk ll (by simp [hl3])
      have ih' := fun e k kj => ih2 (bpre ++ [b], bsuf, sf3, eo3, v - 1, some (e, k, kj)) ⟨by simp only [List.length_append, List.length_singleton]; omega, hbl2, heo3, hmid3, (fun e => by cases e), fun c hc m hm q hq => by
       rcases List.mem_append.1 hc with e | e
       ·have := hled2 c e m hm q hq
        simp only [List.mem_append, List.mem_cons] at this ⊢
        rcases this with a | a | a
        ·exact .inl a
        ·exact .inr (.inl a)
        ·exact .inr (.inr (hsf3 q a))
       ·simp only [List.mem_singleton] at e
        subst e
        exact hled4 m (by rw [← hls, hl3] at hm; simpa using hm) q hq⟩ (by simp)
      clear ih ih2 ih3
      rcases j3 with _ | ⟨p', q', _ | ⟨z', _ | _⟩⟩
      all_goals
       cbv
       rw [g7]; cbv
       rw [hQ3]; cbv
       rw [g6]
       first
       | exact ih' le k none
       | exact ih' le k (some (p', q', none))
       | exact ih' le k (some (p', q', some (z', false)))
       | exact ih' le k (some (p', q', some (z', true)))
     | cons m msuf =>
      have g7 : lt k (len le) = true := F.lt_t hk ll (by simp [hl3])
      obtain ⟨iz, hiz⟩ := nm (mpre.length * 1)
      have r2 : at' 1 le k = some (iz, [.int .i64 m]) := by rw [hiz]; exact F.get hk hle hl3 (fun _ => rfl) (by decide)
      have hmp : mpre.length ≤ 12 := by rw [hl3] at hlsn; simp at hlsn; omega
      have hk2 : At (add .i64 k 1) (mpre ++ [m]).length := at_len (F.inc hk (by omega)) (by simp)
      have hl4 : ls = (mpre ++ [m]) ++ msuf := by rw [hl3]; simp
      have kim := ki x b m
      have kkm := kk y b m
      obtain ⟨u, hu⟩ := nm (mvOf la x b m)
      obtain ⟨w, hw⟩ := nm (mvOf lb y b m)
      rw [← hu] at kim
      rw [← hw] at kkm
      have gu : lt u 0 = !decide (0 ≤ u) := by rw [F.lt]; by_cases h : 0 ≤ u <;> simp [h] <;> omega
      have gw : lt w 0 = !decide (0 ≤ w) := by rw [F.lt]; by_cases h : 0 ≤ w <;> simp [h] <;> omega
      obtain ⟨bu, hbu⟩ := nm (decide (0 ≤ u))
      obtain ⟨bw, hbw⟩ := nm (decide (0 ≤ w))
      rw [← hbu] at gu
      rw [← hbw] at gw
      have hone : oneV la lb x y b b m = if (bu && bw) = true then [[dst1 la u, dst1 lb w]] else [] := by rw [oneV, ← hu, ← hw, ← hbu, ← hbw]
      have ihN : ∀ j, (∀ q ∈ oneV la lb x y b b m, q ∈ pre ++ p :: sf3) → _ := fun j hq0 => ih3 (mpre ++ [m], msuf, sf3, eo3, add .i64 k 1, j) ⟨hk2, hl4, heo3, hmid3, hsf3, fun n hn q hq => by
       rcases List.mem_append.1 hn with e | e
       ·exact hled4 n e q hq
       ·simp only [List.mem_singleton] at e
        subst e
        exact hq0 q hq⟩ (by simp)
      obtain ⟨z, hz⟩ := nm [dst1 la u, dst1 lb w]
      obtain ⟨eo4, heo4⟩ := nm (row fR (pre ++ p :: (sf3 ++ [z])))
      have ihP : ∀ j, bu = true → bw = true → z ∉ pre ++ p :: sf3 → _ := fun j q1 q2 hnz => ih3 (mpre ++ [m], msuf, sf3 ++ [z], eo4, add .i64 k 1, j) ⟨hk2, hl4, heo4, by
        have hzo : z ∈ oneV la lb x y b b m := by rw [hone, q1, q2, if_pos (by rfl), hz]; simp
        have hzn := one_nx ha.ok hb.ok hzo
        exact hmid3.push (nx_pr ha hb x y z hzn) hnz (.step hrx hzn), fun q hq => by simp [hsf3 q hq], fun n hn q hq => by
       rcases List.mem_append.1 hn with e | e
       ·exact mem_snoc (hled4 n e q hq)
       ·simp only [List.mem_singleton] at e
        subst e
        rw [hone, q1, q2, if_pos (by rfl), List.mem_singleton] at hq
        rw [hq, ← hz]; simp⟩ (by simp)
      have hl36' := hmid3.way.len
      obtain ⟨hs, hhs⟩ := nm ((pre ++ p :: sf3).any fun q => decide (q = z))
      have kh := ok368 (pre ++ p :: sf3) z (by omega) (fun q hq => by obtain ⟨a, b, e, _⟩ := hmid3.way.pr q hq; rw [e]; exact (by decide : 2 ≤ 1073741824)) (f0 := .sp 0 0) (f1 := .sp 1 0) rfl rfl
      obtain ⟨du, hdu⟩ := nm (dst1 la u)
      obtain ⟨dw, hdw⟩ := nm (dst1 lb w)
      rw [← hdu, ← hdw] at hz
      rw [← heo3, ← hhs, show row fI z = [[.int .i64 du], [.int .i64 dw]] by rw [hz]; rfl, ← ho] at kh
      have hexu : ∃ iu s1 s2 s3, bu = true → at' 4 e1 u = some (iu, [.int .i64 s1, .bool s2, .int .i64 s3, .int .i64 du]) := by
       by_cases q1 : bu = true
       ·have q0 := q1
        rw [hbu, decide_eq_true_eq, hu] at q1
        obtain ⟨a1, a2, a3, a4, a5, _⟩ := mvOf_ex q1
        rw [← hu] at a5
        exact ⟨a1.length * 4, a2.src, a2.send, a2.msg, fun _ => by rw [hdu, F.get a5 he1 a4 (fun _ => rfl) (by decide), dst1_at a4 a5]; rfl⟩
       ·exact ⟨0, 0, false, 0, fun q => absurd q q1⟩
      have hexw : ∃ iw t1 t2 t3, bw = true → at' 4 e3 w = some (iw, [.int .i64 t1, .bool t2, .int .i64 t3, .int .i64 dw]) := by
       by_cases q1 : bw = true
       ·have q0 := q1
        rw [hbw, decide_eq_true_eq, hw] at q1
        obtain ⟨a1, a2, a3, a4, a5, _⟩ := mvOf_ex q1
        rw [← hw] at a5
        exact ⟨a1.length * 4, a2.src, a2.send, a2.msg, fun _ => by rw [hdw, F.get a5 he3 a4 (fun _ => rfl) (by decide), dst1_at a4 a5]; rfl⟩
       ·exact ⟨0, 0, false, 0, fun q => absurd q q1⟩
      obtain ⟨iu, x1, x2, x3, n1⟩ := hexu
      obtain ⟨iw, y1, y2, y3, n2⟩ := hexw
      have s1 : allS [[.row () [[.int .i64 du], [.int .i64 dw]]]] = false := by rw [F.allS]; rfl
      have s2 : app 1 eo3 [[.row () [[.int .i64 du], [.int .i64 dw]]]] = some eo4 := by
       rw [heo4, show pre ++ p :: (sf3 ++ [z]) = (pre ++ p :: sf3) ++ [z] by simp]
       exact F.push (f := fR) heo3 (fun _ => rfl) (by rw [hz]; rfl) (by omega)
      have hmemz : hs = true → ∀ q ∈ oneV la lb x y b b m, q ∈ pre ++ p :: sf3 := fun qh q hq => by
       rw [hone] at hq
       split at hq
       ·rw [List.mem_singleton] at hq
        rw [hhs, List.any_eq_true] at qh
        obtain ⟨t, ht, e⟩ := qh
        rw [decide_eq_true_eq] at e
        rw [hq, ← hdu, ← hdw, ← hz, ← e]; exact ht
       ·simp at hq
      have hnm : hs = false → z ∉ pre ++ p :: sf3 := fun qh hm => by
       rw [hhs, List.any_eq_false] at qh
       exact qh z hm (by simp)
      have hnone : (bu && bw) = false → ∀ q ∈ oneV la lb x y b b m, q ∈ pre ++ p :: sf3 := fun q1 q hq => by
       rw [hone, q1, if_neg (by decide)] at hq
       simp at hq
      clear ih ih2 ih3
      rcases j3 with _ | ⟨p', q', _ | ⟨z', _ | _⟩⟩
      all_goals
       cbv
       rw [g7]; cbv
       rw [g5]; cbv
       rw [r2]; cbv
       rw [kim]; cbv
       rw [g5]; cbv
       rw [r2]; cbv
       rw [kkm]; cbv
       rw [gu]
       refine both (fun d1 => ?_) (fun d1 => ?_) <;> rw [d1] <;> cbv
       ·have hn := hnone (by rw [show bu = false by simpa using d1]; rfl)
        first
        | exact ihN (some (u, w, none)) hn
        | exact ihN (some (u, w, some (z', false))) hn
        | exact ihN (some (u, w, some (z', true))) hn
       rw [gw]
       refine both (fun d2 => ?_) (fun d2 => ?_) <;> rw [d2] <;> cbv
       ·have hn := hnone (by rw [show bw = false by simpa using d2, Bool.and_false])
        first
        | exact ihN (some (u, w, none)) hn
        | exact ihN (some (u, w, some (z', false))) hn
        | exact ihN (some (u, w, some (z', true))) hn
       have q1 : bu = true := by simpa using d1
       have q2 : bw = true := by simpa using d2
       rw [n1 q1]; cbv
       rw [n2 q2]; cbv
       rw [kh]; cbv
       rw [gn]
       refine both (fun d3 => ?_) (fun d3 => ?_) <;> rw [d3] <;> cbv
       ·rw [s1]; cbv
        rw [s2]; cbv
        exact ihP (some (u, w, some (_, true))) q1 q2 (hnm (by simpa using d3))
       ·exact ihN (some (u, w, some (_, false))) (hmemz (by simpa using d3))
end Go.Vm
