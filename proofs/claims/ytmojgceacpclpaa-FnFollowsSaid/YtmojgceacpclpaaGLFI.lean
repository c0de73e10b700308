/- What the functions answer. -/
import Derived.Test.YtmojgceacpclpaaGLTab
import Derived.Test.YtmojgceacpclpaaGLFA
import Derived.Test.YtmojgceacpclpaaGLFD
import Derived.Test.YtmojgceacpclpaaGLFF
import Derived.Test.YtmojgceacpclpaaGLFH
set_option maxHeartbeats 4000000
set_option maxRecDepth 10000
set_option linter.unusedVariables false
set_option linter.unusedSimpArgs false
namespace Go.Vm
theorem ok333 (sa sb : Int) (ea eb : List Bool) (la lb : List Move) (x y : Int) (ha : Mc ea la) (hb : Mc eb lb) {f0 f1 f2 f3 : Fl} (h0 : inFl f0 = true) (h1 : inFl f1 = true) (h2 : inFl f2 = true) (h3 : inFl f3 = true) :
  fix Tb md 333 [sMach sa (row fB ea) (row fMove la) f0 f1, sMach sb (row fB eb) (row fMove lb) f2 f3, I x, I y] = some ⟨[R (row fR (nxV id la lb x y)) (.ow false)], [], none⟩ := by
 obtain ⟨T, hT⟩ := nm (nxV id la lb x y)
 rw [← hT]
 have kx := ha.k334 (st := sa) x true (f0 := .sp 0 1) (f1 := .sp 0 2) rfl rfl
 have ky := hb.k334 (st := sb) y (id false) (f0 := .sp 0 1) (f1 := .sp 0 2) rfl rfl
 rw [show id false = false from rfl] at ky
 have ki := fun d m => ok375 sa ea la x d m (by have := ha.ll; omega) (f0 := .sp 0 1) (f1 := .sp 0 2) rfl rfl
 have kk := fun d m => ok375 sb eb lb y d m (by have := hb.ll; omega) (f0 := .sp 0 1) (f1 := .sp 0 2) rfl rfl
 have tl : ∀ b, (lstV la lb x y (id false) b).length ≤ 12 := fun b => lstV_len ha.ll hb.ll
 generalize hr : (⟨_, [], none⟩ : Ret) = r
 obtain ⟨e1, he1⟩ := nm (row fMove la)
 obtain ⟨e2, he2⟩ := nm (row fB ea)
 obtain ⟨e3, he3⟩ := nm (row fMove lb)
 obtain ⟨e4, he4⟩ := nm (row fB eb)
 obtain ⟨lx, hlx⟩ := nm (row fI (sortI (mvs la x true)))
 obtain ⟨ly, hly⟩ := nm (row fI (sortI (mvs lb y false)))
 rw [← he1, ← he2] at kx ki
 rw [← he3, ← he4] at ky kk
 rw [← hlx] at kx
 rw [← hly] at ky
 rw [← he1, ← he2, ← he3, ← he4]
 refine fix_fn2 (fn := ir333) tb_333 rfl rfl (by decide) rfl ?_; intro Q hQ; simp only [shutArgs, shutS, List.map_cons, List.map_nil, ir333, shut_in h0, shut_in h1, shut_in h2, shut_in h3, List.head?_nil, reduceCtorEq, if_false, sExt, sHello, sAnswer, sEdit, sDeal, sBox, sDialed, sKnown, sMach, sMove]
 intro add sub mul arith eq ne lt le gt ge neg conv mn mx not beq len at' ln bd cut app allS isNil mks set o hP F ho
 rw [← ho] at kx ky ki kk
 have lo : At (len [[.bool true], [.bool false]]) 2 := F.len_at (f := fB) (l := [true, false]) rfl
 cbv
 refine loop_ind2 hP (σ := List Bool × List Bool × List (List V) × Int × Option (Bool × List (List V) × Int × Int × Option (Int × Int × Int))) (fun s => match s.2.2.2.2 with
  | none => [(0, sMach sa e2 e1 .sh .sh), (1, sMach sb e4 e3 .sh .sh), (2, I x), (3, I y), (4, ⟨.ptr 77 0, []⟩), (5, ⟨.ptr 78 0, []⟩), (8, R [] .nl), (9, R s.2.2.1 (.ow false)), (18, R [[.bool true], [.bool false]] (.ow false)), (19, I (len [[.bool true], [.bool false]])), (20, I s.2.2.2.1), (77, ⟨.box (), [⟨.int .i64 sa, .sc⟩, ⟨.row () e2, .sh⟩, ⟨.row () e1, .sh⟩]⟩), (78, ⟨.box (), [⟨.int .i64 sb, .sc⟩, ⟨.row () e4, .sh⟩, ⟨.row () e3, .sh⟩]⟩)]
  | some (b, e, n, j, none) => [(0, sMach sa e2 e1 .sh .sh), (1, sMach sb e4 e3 .sh .sh), (2, I x), (3, I y), (4, ⟨.ptr 77 0, []⟩), (5, ⟨.ptr 78 0, []⟩), (8, R [] .nl), (9, R s.2.2.1 (.ow false)), (11, B b), (12, R e .no), (18, R [[.bool true], [.bool false]] (.ow false)), (19, I (len [[.bool true], [.bool false]])), (20, I s.2.2.2.1), (32, R e .no), (33, I n), (34, I j), (77, ⟨.box (), [⟨.int .i64 sa, .sc⟩, ⟨.row () e2, .sh⟩, ⟨.row () e1, .sh⟩]⟩), (78, ⟨.box (), [⟨.int .i64 sb, .sc⟩, ⟨.row () e4, .sh⟩, ⟨.row () e3, .sh⟩]⟩)]
  | some (b, e, n, j, some (m, p, q)) => [(0, sMach sa e2 e1 .sh .sh), (1, sMach sb e4 e3 .sh .sh), (2, I x), (3, I y), (4, ⟨.ptr 77 0, []⟩), (5, ⟨.ptr 78 0, []⟩), (8, R [] .nl), (9, R s.2.2.1 (.ow false)), (11, B b), (12, R e .no), (14, I m), (15, I p), (16, I q), (18, R [[.bool true], [.bool false]] (.ow false)), (19, I (len [[.bool true], [.bool false]])), (20, I s.2.2.2.1), (32, R e .no), (33, I n), (34, I j), (77, ⟨.box (), [⟨.int .i64 sa, .sc⟩, ⟨.row () e2, .sh⟩, ⟨.row () e1, .sh⟩]⟩), (78, ⟨.box (), [⟨.int .i64 sb, .sc⟩, ⟨.row () e4, .sh⟩, ⟨.row () e3, .sh⟩]⟩)])
  (fun s => At s.2.2.2.1 s.1.length ∧ [true, false] = s.1 ++ s.2.1 ∧ s.2.2.1 = row fR (s.1.flatMap fun b => stepV la lb x y b (id b) (lstV la lb x y (id false) b))) (fun s => s.2.1.length) ([], [true, false], [], 0, none) rfl ⟨rfl, rfl, rfl⟩ ?_
 intro c9 Q1 hc9 hQ1
 rintro ⟨pre, suf, eo, i, j⟩ ⟨hi, hl, heo⟩ ih
 simp only at hi hl heo ih
 cases suf with
 | nil =>
  have g1 : lt i (len [[.bool true], [.bool false]]) = false := F.lt_f hi lo (by have := congrArg List.length hl; simp at this; omega)
  have fin : eo = row fR T := by rw [heo, hT, nxV, hl, List.append_nil]
  clear ih
  rcases j with _ | ⟨b, e, n, j, _ | ⟨m, p, q⟩⟩
  all_goals
   cbv
   rw [g1]; cbv
   rw [hQ1]; cbv
   rw [hQ]; cbv
   rw [fin]; exact congrArg some hr
 | cons b suf =>
  have hpl : pre.length ≤ 1 := by have := congrArg List.length hl; simp at this; omega
  have g1 : lt i (len [[.bool true], [.bool false]]) = true := F.lt_t hi lo (by omega)
  obtain ⟨ix, hix⟩ := nm (pre.length * 1)
  have r1 : at' 1 [[.bool true], [.bool false]] i = some (ix, [.bool b]) := by rw [hix]; exact F.get (f := fB) hi rfl hl (fun _ => rfl) (by decide)
  have g2 : not b = !b := F.not b
  obtain ⟨ls, hls⟩ := nm (lstV la lb x y (id false) b)
  obtain ⟨le, hle⟩ := nm (row fI ls)
  have hlx' : b = true → lx = le := fun q => by rw [hlx, hle, hls, q]; rfl
  have hly' : b = false → ly = le := fun q => by rw [hly, hle, hls, q]; rfl
  have hlsn : ls.length ≤ 12 := by rw [hls]; exact tl b
  have ll := F.len_at hle
  obtain ⟨base, hbase⟩ := nm (pre.flatMap fun b => stepV la lb x y b (id b) (lstV la lb x y (id false) b))
  have hbn : base.length ≤ 100 := by
   rw [hbase]
   have : ∀ p : List Bool, (p.flatMap fun b => stepV la lb x y b (id b) (lstV la lb x y (id false) b)).length ≤ 12 * p.length := fun p => by
    induction p with
    | nil => simp
    | cons c p ihp =>
     have a := stepV_len (la := la) (lb := lb) (x := x) (y := y) (da := c) (db := id c) (ms := lstV la lb x y (id false) c)
     have a2 := tl c
     simp only [List.flatMap_cons, List.length_append, List.length_cons]; omega
   have := this pre
   omega
  rw [← hbase] at heo
  have hin : At (add .i64 i 1) (pre ++ [b]).length := at_len (F.inc hi (by omega)) (by simp)
  have hl2 : [true, false] = (pre ++ [b]) ++ suf := by rw [hl]; simp
  apply loop_share hP (st := fun (s : List Int × List Int × List (List V) × Int × Option (Int × Int × Int)) => match s.2.2.2.2 with
   | none => [(0, sMach sa e2 e1 .sh .sh), (1, sMach sb e4 e3 .sh .sh), (2, I x), (3, I y), (4, ⟨.ptr 77 0, []⟩), (5, ⟨.ptr 78 0, []⟩), (8, R [] .nl), (9, R s.2.2.1 (.ow false)), (11, B b), (12, R le .no), (18, R [[.bool true], [.bool false]] (.ow false)), (19, I (len [[.bool true], [.bool false]])), (20, I i), (32, R le .no), (33, I (len le)), (34, I s.2.2.2.1), (77, ⟨.box (), [⟨.int .i64 sa, .sc⟩, ⟨.row () e2, .sh⟩, ⟨.row () e1, .sh⟩]⟩), (78, ⟨.box (), [⟨.int .i64 sb, .sc⟩, ⟨.row () e4, .sh⟩, ⟨.row () e3, .sh⟩]⟩)]
   | some (m, p, q) => [(0, sMach sa e2 e1 .sh .sh), (1, sMach sb e4 e3 .sh .sh), (2, I x), (3, I y), (4, ⟨.ptr 77 0, []⟩), (5, ⟨.ptr 78 0, []⟩), (8, R [] .nl), (9, R s.2.2.1 (.ow false)), (11, B b), (12, R le .no), (14, I m), (15, I p), (16, I q), (18, R [[.bool true], [.bool false]] (.ow false)), (19, I (len [[.bool true], [.bool false]])), (20, I i), (32, R le .no), (33, I (len le)), (34, I s.2.2.2.1), (77, ⟨.box (), [⟨.int .i64 sa, .sc⟩, ⟨.row () e2, .sh⟩, ⟨.row () e1, .sh⟩]⟩), (78, ⟨.box (), [⟨.int .i64 sb, .sc⟩, ⟨.row () e4, .sh⟩, ⟨.row () e3, .sh⟩]⟩)])
   (inv := fun s => At s.2.2.2.1 s.1.length ∧ ls = s.1 ++ s.2.1 ∧ s.2.2.1 = row fR (base ++ stepV la lb x y b (id b) s.1)) (μ := fun s => s.2.1.length)
  ·intro key
   rcases j with _ | ⟨b', e', n', j', _ | ⟨m', p', q'⟩⟩
   all_goals
    cbv
    rw [g1]; cbv
    rw [r1]; cbv
    rw [kx]; cbv
    refine both (fun d => ?_) (fun d => ?_) <;> rw [d] <;> cbv
    ·rw [ky]; cbv
     rw [hly' (F.not_t d)]
     first
     | exact key ([], ls, eo, 0, none) ⟨rfl, rfl, by rw [heo]; simp [stepV]⟩
     | exact key ([], ls, eo, 0, some (m', p', q')) ⟨rfl, rfl, by rw [heo]; simp [stepV]⟩
    ·rw [hlx' (F.not_f d)]
     first
     | exact key ([], ls, eo, 0, none) ⟨rfl, rfl, by rw [heo]; simp [stepV]⟩
     | exact key ([], ls, eo, 0, some (m', p', q')) ⟨rfl, rfl, by rw [heo]; simp [stepV]⟩
  ·intro c8 Q2 hc8 hQ2
   rintro ⟨pre2, suf2, eo2, j2, v⟩ ⟨hj2, hl3, heo2⟩ ih2
   simp only at hj2 hl3 heo2 ih2
   cases suf2 with
   | nil =>
    have g3 : lt j2 (len le) = false := F.lt_f hj2 ll (by simp [hl3])
    have ih' := fun j => ih (pre ++ [b], suf, eo2, add .i64 i 1, j) ⟨hin, hl2, by
     simp only
     rw [heo2, hbase, List.flatMap_append]
     simp only [List.flatMap_cons, List.flatMap_nil, List.append_nil]
     rw [show pre2 = lstV la lb x y (id false) b by rw [← hls, hl3, List.append_nil]]⟩ (by simp)
    clear ih ih2
    rcases v with _ | ⟨m', p', q'⟩
    all_goals
     cbv
     rw [g3]; cbv
     rw [hQ2]; cbv
     first
     | exact ih' (some (b, le, len le, j2, none))
     | exact ih' (some (b, le, len le, j2, some (m', p', q')))
   | cons m suf2 =>
    have g3 : lt j2 (len le) = true := F.lt_t hj2 ll (by simp [hl3])
    obtain ⟨iz, hiz⟩ := nm (pre2.length * 1)
    have r2 : at' 1 le j2 = some (iz, [.int .i64 m]) := by rw [hiz]; exact F.get hj2 hle hl3 (fun _ => rfl) (by decide)
    have hp2 : pre2.length ≤ 12 := by rw [hl3] at hlsn; simp at hlsn; omega
    have hj3 : At (add .i64 j2 1) (pre2 ++ [m]).length := at_len (F.inc hj2 (by omega)) (by simp)
    have hl4 : ls = (pre2 ++ [m]) ++ suf2 := by rw [hl3]; simp
    have kim := ki b m
    have kkm := kk b m
    obtain ⟨u, hu⟩ := nm (mvOf la x b m)
    obtain ⟨w, hw⟩ := nm (mvOf lb y b m)
    rw [← hu] at kim
    rw [← hw] at kkm
    have gu : ge u 0 = decide (0 ≤ u) := F.ge ..
    have gw : ge w 0 = decide (0 ≤ w) := F.ge ..
    have sn : (stepV la lb x y b (id b) pre2).length ≤ pre2.length := stepV_len
    have ihF : ∀ j, ¬ (0 ≤ u ∧ 0 ≤ w) → _ := fun j hc => ih2 (pre2 ++ [m], suf2, eo2, add .i64 j2 1, j) ⟨hj3, hl4, by
     simp only
     rw [heo2, stepV_snoc, oneV, if_neg (by rw [Bool.and_eq_true, decide_eq_true_eq, decide_eq_true_eq]; rw [hu, hw] at hc; exact hc)]; simp⟩ (by simp)
    have ihT : ∀ j e, e = row fR (base ++ stepV la lb x y b (id b) pre2 ++ [[dst1 la u, dst1 lb w]]) → (0 ≤ u ∧ 0 ≤ w) → _ := fun j e he hc => ih2 (pre2 ++ [m], suf2, e, add .i64 j2 1, j) ⟨hj3, hl4, by
     simp only
     rw [he, stepV_snoc, oneV, if_pos (by rw [Bool.and_eq_true, decide_eq_true_eq, decide_eq_true_eq]; rw [hu, hw] at hc; exact hc), hu, hw, List.append_assoc]; try rfl⟩ (by simp)
    have hex : (0 ≤ u ∧ 0 ≤ w) → ∃ iu iw s1 s2 s3 t1 t2 t3 e, at' 4 e1 u = some (iu, [.int .i64 s1, .bool s2, .int .i64 s3, .int .i64 (dst1 la u)]) ∧ at' 4 e3 w = some (iw, [.int .i64 t1, .bool t2, .int .i64 t3, .int .i64 (dst1 lb w)]) ∧ app 1 eo2 [[.row () [[.int .i64 (dst1 la u)], [.int .i64 (dst1 lb w)]]]] = some e ∧ e = row fR (base ++ stepV la lb x y b (id b) pre2 ++ [[dst1 la u, dst1 lb w]]) := fun hc => by
     rw [hu] at hc
     obtain ⟨a1, a2, a3, a4, a5, _⟩ := mvOf_ex hc.1
     rw [← hu] at a5 hc
     rw [hw] at hc
     obtain ⟨b1, b2, b3, b4, b5, _⟩ := mvOf_ex hc.2
     rw [← hw] at b5
     refine ⟨a1.length * 4, b1.length * 4, a2.src, a2.send, a2.msg, b2.src, b2.send, b2.msg, row fR (base ++ stepV la lb x y b (id b) pre2 ++ [[dst1 la u, dst1 lb w]]), ?_, ?_, ?_, rfl⟩
     ·rw [F.get a5 he1 a4 (fun _ => rfl) (by decide), dst1_at a4 a5]; rfl
     ·rw [F.get b5 he3 b4 (fun _ => rfl) (by decide), dst1_at b4 b5]; rfl
     ·exact F.push (f := fR) heo2 (fun _ => rfl) rfl (by rw [List.length_append]; omega)
    obtain ⟨du, hdu⟩ := nm (dst1 la u)
    obtain ⟨dw, hdw⟩ := nm (dst1 lb w)
    rw [← hdu, ← hdw] at hex ihT
    clear ih ih2
    have s1 : allS [[.row () [[.int .i64 du], [.int .i64 dw]]]] = false := by rw [F.allS]; rfl
    rcases v with _ | ⟨m', p', q'⟩
    all_goals
     cbv
     rw [g3]; cbv
     rw [r2]; cbv
     rw [kim]; cbv
     rw [kkm]; cbv
     refine both (fun d1 => ?_) (fun d1 => ?_) <;> rw [d1] <;> cbv
     ·refine both (fun d2 => ?_) (fun d2 => ?_) <;> rw [d2] <;> cbv
      ·rw [gu, decide_eq_true_eq] at d1
       rw [gw, decide_eq_true_eq] at d2
       obtain ⟨iu, iw, x1, x2, x3, y1, y2, y3, e, q1, q2, q3, q4⟩ := hex ⟨d1, d2⟩
       rw [q1]; cbv
       rw [q2]; cbv
       rw [s1]; cbv
       rw [q3]; cbv
       exact ihT (some (m, u, w)) e q4 ⟨d1, d2⟩
      ·rw [gw, decide_eq_false_iff_not] at d2
       exact ihF (some (m, u, w)) (fun h => d2 h.2)
     ·rw [gu, decide_eq_false_iff_not] at d1
      exact ihF (some (m, u, w)) (fun h => d1 h.1)
end Go.Vm
