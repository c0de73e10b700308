/- What the functions answer. -/
import Derived.Test.YthfbmkhjanmeaaaGDTab
import Derived.Test.YthfbmkhjanmeaaaGDFA
import Derived.Test.YthfbmkhjanmeaaaGDFB
import Derived.Test.YthfbmkhjanmeaaaGDFD
set_option maxHeartbeats 4000000
set_option maxRecDepth 10000
set_option linter.unusedVariables false
set_option linter.unusedSimpArgs false
namespace Go.Vm
theorem ok171 (path : List Box) (versions : List Int) (pl : path.length ≤ 1073741824) (pm : ∀ y ∈ path, y.Mid) (hv : versions.length ≤ 1073741824) {f0 f1 : Fl} (q0 : inFl f0 = true) (q1 : inFl f1 = true) : fix Tb md 171 [R (row fBox path) f0, R (row fI versions) f1] = some ⟨[R (row fI (lvs path versions)) (.ow false)], [], none⟩ := by
 obtain ⟨u, hu⟩ := nm (areVer versions)
 obtain ⟨l, hl0⟩ := nm (versions)
 obtain ⟨et, het⟩ := nm (row fI (lvs path versions))
 rw [← het]
 have hT : et = row fI (if u = true then sel (deadV path) idI l else []) := by rw [het, hu, hl0]; rfl
 clear het
 generalize hr : (⟨_, [], none⟩ : Ret) = r
 obtain ⟨ep, hep⟩ := nm (row fBox path)
 obtain ⟨ev, hev⟩ := nm (row fI versions)
 rw [← hep, ← hev]
 rw [← hl0] at hv hev hu
 refine fix_fn2 (fn := ir171) tb_171 rfl rfl (by decide) rfl ?_; intro Q hQ; simp only [shutArgs, shutS, List.map_cons, List.map_nil, ir171, shut_in q0, shut_in q1, List.head?_nil, reduceCtorEq, if_false, sExt, sHello, sAnswer, sEdit, sDeal, sBox, sDialed, sKnown]
 intro add sub mul arith eq ne lt le gt ge neg conv mn mx not beq len at' ln bd cut app allS isNil mks set o hP F ho
 have lv := F.len_at hev
 have c1 : o 255 [R ev (.sp 0 0)] = some ⟨[B u], [], none⟩ := by rw [ho, hu, hev]; exact ok255 _ (by omega) rfl
 cbv
 rw [c1]; cbv
 refine both (fun d1 => ?_) (fun d1 => ?_) <;> rw [d1] <;> cbv
 ·rw [hQ]; cbv
  rw [← hr, hT, F.not_t d1]; rfl
 have hT' : et = row fI (sel (deadV path) idI l) := by rw [hT, F.not_f d1, if_pos rfl]
 refine loop_ind2 hP (σ := List Int × List Int × List (List V) × Int × Option (Int × Bool × Option (List (List V) × List (List V)))) (fun s => match s.2.2.2.2 with
  | none => [(0, R ep .sh), (1, R ev .sh), (4, R [] .nl), (5, R s.2.2.1 (.ow false)), (15, R ev .sh), (16, I (len ev)), (17, I s.2.2.2.1)]
  | some (a, b, none) => [(0, R ep .sh), (1, R ev .sh), (4, R [] .nl), (5, R s.2.2.1 (.ow false)), (7, I a), (9, B b), (15, R ev .sh), (16, I (len ev)), (17, I s.2.2.2.1), (45, ⟨.box (), [⟨.row () [], .nl⟩, ⟨.row () [], .nl⟩]⟩)]
  | some (a, b, some (V, X)) => [(0, R ep .sh), (1, R ev .sh), (4, R [] .nl), (5, R s.2.2.1 (.ow false)), (7, I a), (9, B b), (15, R ev .sh), (16, I (len ev)), (17, I s.2.2.2.1), (45, ⟨.box (), [⟨.row () V, .ow false⟩, ⟨.row () X, .ow false⟩]⟩)])
  (fun s => At s.2.2.2.1 s.2.1.length ∧ l = s.2.1 ++ s.1 ∧ s.2.2.1 = row fI (sel (deadV path) idI s.2.1)) (fun s => s.1.length) (l, [], [], 0, none) rfl ⟨rfl, rfl, rfl⟩ ?_
 intro c9 Q1 hc9 hQ1
 rintro ⟨suf, pre, eo, i, j⟩ ⟨hi, hl', hb⟩ ih
 simp only at hi hl' hb ih
 rcases j with _ | ⟨ja, jb, _ | ⟨jV, jX⟩⟩
 all_goals
  cbv
  cases suf with
  | nil =>
   have hpp : l = pre := by rw [hl', List.append_nil]
   rw [F.lt_f hi lv (by simp [hl'])]; cbv
   rw [hQ1]; cbv
   rw [hQ]; cbv
   rw [← hr, hT', hb, hpp]
  | cons x suf =>
   have hk := ok182 path ⟨[x], []⟩ pl pm ⟨by simp, by simp, by simp⟩ (f0 := .sp 0 0) (f1 := .sp 1 0) (f2 := .nl) rfl rfl rfl
   obtain ⟨w, hw⟩ := nm (ppOk path ⟨[x], []⟩)
   obtain ⟨V1, hV1⟩ := nm (row fI (ppV path ⟨[x], []⟩).versions)
   obtain ⟨X1, hX1⟩ := nm (row fExt (ppV path ⟨[x], []⟩).exts)
   rw [← hep, ← hw, ← hV1, ← hX1] at hk
   have hk := hk
   obtain ⟨ix, hix⟩ := nm (pre.length * 1)
   have hpl : pre.length ≤ 1073741824 := by rw [hl'] at hv; simp at hv; omega
   have p0 : at' 1 ev i = some (ix, [.int .i64 x]) := by rw [hix]; exact F.get hi hev hl' (fun _ => rfl) (by decide)
   have hi' : At (add .i64 i 1) (pre ++ [x]).length := at_len (F.inc hi (by omega)) (by simp)
   have hl2 : l = (pre ++ [x]) ++ suf := by rw [hl']; simp
   have hs : (sel (deadV path) idI pre).length ≤ pre.length := sel_len
   have hPx : deadV path x = !w := by rw [hw]; rfl
   have c2 : o 77 [R [[.int .i64 x]] (.sp 0 0)] = some ⟨[sHello [[.int .i64 x]] [] (.ow false) .nl], [], none⟩ := by rw [ho]; exact ok77 [x] (by simp) rfl
   obtain ⟨eo', heo'⟩ := nm (row fI (sel (deadV path) idI pre ++ [idI x]))
   have p1 : app 1 eo [[.int .i64 x]] = some eo' := by rw [heo']; exact F.push (k := 1) (f := fI) (l := sel (deadV path) idI pre) (x := idI x) hb (fun _ => rfl) rfl (by omega)
   have p2 : allS [[.int .i64 x]] = true := by rw [F.allS]; rfl
   rw [F.lt_t hi lv (by simp [hl'])]; cbv
   rw [p0]; cbv
   rw [c2]; cbv
   rcases hk with hk | ⟨n1, n2, hk⟩
   ·have c3 : o 182 [R ep (.sp 0 0), sHello [[.int .i64 x]] [] (.sp 1 0) .nl] = some ⟨[sHello V1 X1 (.ow false) (.ow false), B w], [], none⟩ := by rw [ho]; exact hk
    rw [c3]; cbv
    refine both (fun d2 => ?_) (fun d2 => ?_) <;> rw [d2] <;> cbv
    ·rw [p2]; cbv
     rw [p1]; cbv
     refine ih (suf, pre ++ [x], eo', add .i64 i 1, some (x, w, some (V1, X1))) ⟨hi', hl2, ?_⟩ (by simp)
     simp only
     rw [sel_t (by rw [hPx, F.not_t d2]; rfl)]; exact heo'
    ·refine ih (suf, pre ++ [x], eo, add .i64 i 1, some (x, w, some (V1, X1))) ⟨hi', hl2, ?_⟩ (by simp)
     simp only
     rw [sel_f (by rw [hPx, F.not_f d2]; rfl)]; exact hb
   ·have c3 : o 182 [R ep (.sp 0 0), sHello [[.int .i64 x]] [] (.sp 1 0) .nl] = some ⟨[sHello [] [] .nl .nl, B w], [], none⟩ := by rw [ho]; exact hk
    rw [c3]; cbv
    refine both (fun d2 => ?_) (fun d2 => ?_) <;> rw [d2] <;> cbv
    ·rw [p2]; cbv
     rw [p1]; cbv
     refine ih (suf, pre ++ [x], eo', add .i64 i 1, some (x, w, none)) ⟨hi', hl2, ?_⟩ (by simp)
     simp only
     rw [sel_t (by rw [hPx, F.not_t d2]; rfl)]; exact heo'
    ·refine ih (suf, pre ++ [x], eo, add .i64 i 1, some (x, w, none)) ⟨hi', hl2, ?_⟩ (by simp)
     simp only
     rw [sel_f (by rw [hPx, F.not_f d2]; rfl)]; exact hb
theorem hasI_iff {l : List Int} {n : Int} : hasI l n = true ↔ n ∈ l := by unfold hasI; simp
theorem con_f {x n : Int} (h : ¬ x = n) (l : List Int) : hasI (x :: l) n = hasI l n := by unfold hasI; simp [h]
theorem con_t {x n : Int} (h : x = n) (l : List Int) : hasI (x :: l) n = true := by unfold hasI; simp [h]
theorem ok188 (l : List Int) (n : Int) (hl : l.length ≤ 1099511627776) {f0 : Fl} (h0 : inFl f0 = true) : fix Tb md 188 [R (row fI l) f0, I n] = some ⟨[B (hasI l n)], [], none⟩ := by
 obtain ⟨z, hz⟩ := nm (hasI l n)
 rw [← hz]
 generalize hr : (⟨_, [], none⟩ : Ret) = r
 obtain ⟨ea, hea⟩ := nm (row fI l)
 rw [← hea]
 refine fix_fn2 (fn := ir188) tb_188 rfl rfl (by decide) rfl ?_; intro Q hQ; simp only [shutArgs, shutS, List.map_cons, List.map_nil, ir188, shut_in h0, List.head?_nil, reduceCtorEq, if_false, sExt, sHello, sAnswer, sEdit, sDeal, sBox, sDialed, sKnown]
 intro add sub mul arith eq ne lt le gt ge neg conv mn mx not beq len at' ln bd cut app allS isNil mks set o hP F ho
 have la := F.len_at hea
 cbv
 refine loop_ind2 hP (σ := List Int × List Int × Int) (fun s => [(0, R ea .sh), (1, I n), (4, B false), (5, I s.2.2)]) (fun s => At s.2.2 s.2.1.length ∧ l = s.2.1 ++ s.1 ∧ z = hasI s.1 n) (fun s => s.1.length) (l, [], 0) rfl ⟨rfl, rfl, hz⟩ ?_
 intro c9 Q1 hc9 hQ1
 rintro ⟨suf, pre, i⟩ ⟨hi, hl', hz'⟩ ih
 simp only at hi hl' hz' ih
 cbv
 cases suf with
 | nil =>
  rw [F.lt_f hi la (by simp [hl'])]; cbv
  rw [hQ1]; cbv
  rw [hQ]; cbv
  rw [show z = false by rw [hz']; rfl] at hr
  exact congrArg some hr
 | cons x suf =>
  obtain ⟨ix, hix⟩ := nm (pre.length * 1)
  have hpl : pre.length ≤ 1099511627776 := by rw [hl'] at hl; simp at hl; omega
  have p0 : at' 1 ea i = some (ix, [.int .i64 x]) := by rw [hix]; exact F.get hi hea hl' (fun _ => rfl) (by decide)
  have g : eq x n = decide (x = n) := F.eq ..
  rw [F.lt_t hi la (by simp [hl'])]; cbv
  rw [p0]; cbv
  refine both (fun d => ?_) (fun d => ?_) <;> rw [d] <;> cbv
  ·rw [g, decide_eq_true_eq] at d
   rw [hQ1]; cbv
   rw [hQ]; cbv
   rw [show z = true from hz'.trans (con_t d suf)] at hr
   exact congrArg some hr
  ·rw [g, decide_eq_false_iff_not] at d
   exact ih (suf, pre ++ [x], add .i64 i 1) ⟨at_len (F.inc hi hpl) (by simp), by rw [hl']; simp, hz'.trans (con_f d suf)⟩ (by simp)
def subB (a b : List Int) : Bool := a.all fun x => hasI b x
theorem ok178 (a b : List Int) (hl : a.length ≤ 1099511627776) (hl2 : b.length ≤ 1099511627776) {f0 f1 : Fl} (h0 : inFl f0 = true) (h1 : inFl f1 = true) : fix Tb md 178 [R (row fI a) f0, R (row fI b) f1] = some ⟨[B (subB a b)], [], none⟩ := by
 have kc := fun (n : Int) => ok188 b n hl2 (f0 := .sp 0 0) rfl
 obtain ⟨z, hz⟩ := nm (subB a b)
 rw [← hz]
 generalize hr : (⟨_, [], none⟩ : Ret) = r
 obtain ⟨ea, hea⟩ := nm (row fI a)
 obtain ⟨eb, heb⟩ := nm (row fI b)
 rw [← hea, ← heb]
 rw [← heb] at kc
 refine fix_fn2 (fn := ir178) tb_178 rfl rfl (by decide) rfl ?_; intro Q hQ; simp only [shutArgs, shutS, List.map_cons, List.map_nil, ir178, shut_in h0, shut_in h1, List.head?_nil, reduceCtorEq, if_false, sExt, sHello, sAnswer, sEdit, sDeal, sBox, sDialed, sKnown]
 intro add sub mul arith eq ne lt le gt ge neg conv mn mx not beq len at' ln bd cut app allS isNil mks set o hP F ho
 rw [← ho] at kc
 have la := F.len_at hea
 cbv
 refine loop_ind2 hP (σ := List Int × List Int × Int) (fun s => [(0, R ea .sh), (1, R eb .sh), (4, B false), (5, I s.2.2)]) (fun s => At s.2.2 s.2.1.length ∧ a = s.2.1 ++ s.1 ∧ z = subB s.1 b) (fun s => s.1.length) (a, [], 0) rfl ⟨rfl, rfl, hz⟩ ?_
 intro c9 Q1 hc9 hQ1
 rintro ⟨suf, pre, i⟩ ⟨hi, hl', hz'⟩ ih
 simp only at hi hl' hz' ih
 cbv
 cases suf with
 | nil =>
  rw [F.lt_f hi la (by simp [hl'])]; cbv
  rw [hQ1]; cbv
  rw [hQ]; cbv
  rw [show z = true by rw [hz']; rfl] at hr
  exact congrArg some hr
 | cons x suf =>
  obtain ⟨ix, hix⟩ := nm (pre.length * 1)
  have hpl : pre.length ≤ 1099511627776 := by rw [hl'] at hl; simp at hl; omega
  have p0 : at' 1 ea i = some (ix, [.int .i64 x]) := by rw [hix]; exact F.get hi hea hl' (fun _ => rfl) (by decide)
  have k := kc x
  obtain ⟨v, hv⟩ := nm (hasI b x)
  rw [← hv] at k
  have hz2 : z = (v && subB suf b) := by rw [hz', hv]; rfl
  rw [F.lt_t hi la (by simp [hl'])]; cbv
  rw [p0]; cbv
  rw [k]; cbv
  cases v with
  | false =>
   rw [show not false = true by rw [F.not]; rfl]; cbv
   rw [hQ1]; cbv
   rw [hQ]; cbv
   rw [show z = false by rw [hz2]; rfl] at hr
   exact congrArg some hr
  | true =>
   rw [show not true = false by rw [F.not]; rfl]; cbv
   exact ih (suf, pre ++ [x], add .i64 i 1) ⟨at_len (F.inc hi hpl) (by simp), by rw [hl']; simp, by rw [hz2]; rfl⟩ (by simp)
def yesE (_ : Ext) : Bool := true
theorem ok179 (l : List Ext) (hl : l.length ≤ 1073741824) {f0 : Fl} (h0 : inFl f0 = true) : fix Tb md 179 [R (row fExt l) f0] = some ⟨[R (row fI (sel yesE Ext.tag l)) (.ow false)], [], none⟩ := by
 obtain ⟨et, het⟩ := nm (row fI (sel yesE Ext.tag l))
 rw [← het]
 generalize hr : (⟨_, [], none⟩ : Ret) = r
 obtain ⟨ea, hea⟩ := nm (row fExt l)
 rw [← hea]
 refine fix_fn2 (fn := ir179) tb_179 rfl rfl (by decide) rfl ?_; intro Q hQ; simp only [shutArgs, shutS, List.map_cons, List.map_nil, ir179, shut_in h0, List.head?_nil, reduceCtorEq, if_false, sExt, sHello, sAnswer, sEdit, sDeal, sBox, sDialed, sKnown]
 intro add sub mul arith eq ne lt le gt ge neg conv mn mx not beq len at' ln bd cut app allS isNil mks set o hP F ho
 have la := F.len_at hea
 cbv
 refine loop_ind2 hP (σ := List Ext × List Ext × List (List V) × Int × Option (Int × List (List V))) (fun s => match s.2.2.2.2 with | none => [(0, R ea .sh), (2, R [] .nl), (3, R s.2.2.1 (.ow false)), (7, R ea .sh), (8, I (len ea)), (9, I s.2.2.2.1)] | some j => [(0, R ea .sh), (2, R [] .nl), (3, R s.2.2.1 (.ow false)), (5, ⟨.ptr 25 0, []⟩), (7, R ea .sh), (8, I (len ea)), (9, I s.2.2.2.1), (25, ⟨.box (), [⟨.int .i64 j.1, .sc⟩, ⟨.row () j.2, .sh⟩]⟩)]) (fun s => At s.2.2.2.1 s.2.1.length ∧ l = s.2.1 ++ s.1 ∧ s.2.2.1 = row fI (sel yesE Ext.tag s.2.1)) (fun s => s.1.length) (l, [], [], 0, none) rfl ⟨rfl, rfl, rfl⟩ ?_
 intro c1 Q1 hc1 hQ1
 rintro ⟨suf, pre, eo, i, j⟩ ⟨hi, hl', hb⟩ ih
 simp only at hi hl' hb ih
 rcases j with _ | ⟨j1, j2⟩
 all_goals
  cbv
  cases suf with
  | nil =>
   rw [F.lt_f hi la (by simp [hl'])]; cbv
   rw [hQ1]; cbv
   rw [hQ]; cbv
   rw [← hr, het, hb, hl', List.append_nil]
  | cons x suf =>
   obtain ⟨ix, hix⟩ := nm (pre.length * 2)
   have hpre : pre.length ≤ 1073741824 := by rw [hl'] at hl; simp at hl; omega
   have hs : (sel yesE Ext.tag pre).length ≤ pre.length := sel_len
   have hi' : At (add .i64 i 1) (pre ++ [x]).length := at_len (F.inc hi (by omega)) (by simp)
   have hl2 : l = (pre ++ [x]) ++ suf := by rw [hl']; simp
   have hmem : x ∈ l := by rw [hl']; simp
   obtain ⟨e1, he1⟩ := nm (row fI x.body)
   have p0 : at' 2 ea i = some (ix, [.int .i64 x.tag, .row () e1]) := by rw [hix, he1]; exact F.get hi hea hl' (fun _ => rfl) (by decide)
   rw [F.lt_t hi la (by simp [hl'])]; cbv
   rw [p0]; cbv
   rw [show allS [[.int .i64 x.tag]] = true by rw [F.allS]; rfl]; cbv
   obtain ⟨eo', heo'⟩ := nm (row fI (sel yesE Ext.tag pre ++ [Ext.tag x]))
   rw [show app 1 eo [[.int .i64 x.tag]] = some eo' by rw [heo']; exact F.push hb (fun _ => rfl) rfl (by omega)]; cbv
   refine ih (suf, pre ++ [x], eo', add .i64 i 1, some (x.tag, e1)) ⟨hi', hl2, by simp only; rw [heo', sel_t rfl]⟩ (by simp)
theorem ok180 (l b : List Int) (hl : l.length ≤ 1073741824) (hb' : b.length ≤ 1073741824) {f0 f1 : Fl} (h0 : inFl f0 = true) (h1 : inFl f1 = true) : fix Tb md 180 [R (row fI l) f0, R (row fI b) f1] = some ⟨[R (row fI (sel (hasI b) idI l)) (.ow false)], [], none⟩ := by
 obtain ⟨et, het⟩ := nm (row fI (sel (hasI b) idI l))
 rw [← het]
 generalize hr : (⟨_, [], none⟩ : Ret) = r
 obtain ⟨ea, hea⟩ := nm (row fI l)
 obtain ⟨eb, heb⟩ := nm (row fI b)
 rw [← hea, ← heb]
 refine fix_fn2 (fn := ir180) tb_180 rfl rfl (by decide) rfl ?_; intro Q hQ; simp only [shutArgs, shutS, List.map_cons, List.map_nil, ir180, shut_in h0, shut_in h1, List.head?_nil, reduceCtorEq, if_false, sExt, sHello, sAnswer, sEdit, sDeal, sBox, sDialed, sKnown]
 intro add sub mul arith eq ne lt le gt ge neg conv mn mx not beq len at' ln bd cut app allS isNil mks set o hP F ho
 have la := F.len_at hea
 cbv
 refine loop_ind2 hP (σ := List Int × List Int × List (List V) × Int × Option (Int)) (fun s => match s.2.2.2.2 with | none => [(0, R ea .sh), (1, R eb .sh), (4, R [] .nl), (5, R s.2.2.1 (.ow false)), (9, R ea .sh), (10, I (len ea)), (11, I s.2.2.2.1)] | some j => [(0, R ea .sh), (1, R eb .sh), (4, R [] .nl), (5, R s.2.2.1 (.ow false)), (7, I j), (9, R ea .sh), (10, I (len ea)), (11, I s.2.2.2.1)]) (fun s => At s.2.2.2.1 s.2.1.length ∧ l = s.2.1 ++ s.1 ∧ s.2.2.1 = row fI (sel (hasI b) idI s.2.1)) (fun s => s.1.length) (l, [], [], 0, none) rfl ⟨rfl, rfl, rfl⟩ ?_
 intro c1 Q1 hc1 hQ1
 rintro ⟨suf, pre, eo, i, j⟩ ⟨hi, hl', hb⟩ ih
 simp only at hi hl' hb ih
 rcases j with _ | _
 all_goals
  cbv
  cases suf with
  | nil =>
   rw [F.lt_f hi la (by simp [hl'])]; cbv
   rw [hQ1]; cbv
   rw [hQ]; cbv
   rw [← hr, het, hb, hl', List.append_nil]
  | cons x suf =>
   obtain ⟨ix, hix⟩ := nm (pre.length * 1)
   have hpre : pre.length ≤ 1073741824 := by rw [hl'] at hl; simp at hl; omega
   have hs : (sel (hasI b) idI pre).length ≤ pre.length := sel_len
   have hi' : At (add .i64 i 1) (pre ++ [x]).length := at_len (F.inc hi (by omega)) (by simp)
   have hl2 : l = (pre ++ [x]) ++ suf := by rw [hl']; simp
   have hmem : x ∈ l := by rw [hl']; simp
   have p0 : at' 1 ea i = some (ix, [.int .i64 x]) := by rw [hix]; exact F.get hi hea hl' (fun _ => rfl) (by decide)
   obtain ⟨v, hv⟩ := nm (hasI b x)
   have c2 : o 302 [R eb (.sp 0 0), I x] = some ⟨[B v], [], none⟩ := by rw [ho, hv, heb]; exact ok302 _ _ (by omega) rfl
   rw [F.lt_t hi la (by simp [hl'])]; cbv
   rw [p0]; cbv
   rw [c2]; cbv
   refine both (fun d => ?_) (fun d => ?_) <;> rw [d] <;> cbv
   ·rw [show allS [[.int .i64 x]] = true by rw [F.allS]; rfl]; cbv
    obtain ⟨eo', heo'⟩ := nm (row fI (sel (hasI b) idI pre ++ [idI x]))
    rw [show app 1 eo [[.int .i64 x]] = some eo' by rw [heo']; exact F.push hb (fun _ => rfl) rfl (by omega)]; cbv
    refine ih (suf, pre ++ [x], eo', add .i64 i 1, some x) ⟨hi', hl2, by simp only; rw [heo', sel_t (by rw [← hv, d])]⟩ (by simp)
   ·refine ih (suf, pre ++ [x], eo, add .i64 i 1, some x) ⟨hi', hl2, by simp only; rw [hb, sel_f (by rw [← hv, d])]⟩ (by simp)
def pw (h : Hello) (path : List Box) : Bool := ppOk path h && decide (ppV path h = h)
theorem ok185 (h : Hello) (path : List Box) (mh : h.Mid) (pl : path.length ≤ 1073741824) (pm : ∀ y ∈ path, y.Mid) {f0 f1 f2 : Fl} (q0 : inFl f0 = true) (q1 : inFl f1 = true) (q2 : inFl f2 = true) : fix Tb md 185 [sHello (row fI h.versions) (row fExt h.exts) f0 f1, R (row fBox path) f2] = some ⟨[B (pw h path)], [], none⟩ := by
 obtain ⟨w, hw⟩ := nm (ppOk path h)
 obtain ⟨v, hv⟩ := nm (decide (ppV path h = h))
 rw [show pw h path = (w && v) by rw [hw, hv]; rfl]
 generalize hr : (⟨_, [], none⟩ : Ret) = r
 have vm : (ppV path h).Mid := ppV_mid mh
 unfold Hello.Mid at vm
 have vm1 : (ppV path h).versions.length ≤ 1099511627776 := by omega
 have vm2 : (ppV path h).exts.length ≤ 1099511627776 := by omega
 have vm3 : ∀ y ∈ (ppV path h).exts, y.body.length ≤ 1099511627776 := fun y hy => Nat.le_trans (show y.body.length ≤ 1073741824 from vm.2.2 y hy) (by decide)
 have hk := ok182 path h pl pm mh (f0 := .sp 0 0) (f1 := .sp 1 0) (f2 := .sp 1 1) rfl rfl rfl
 rw [← hw] at hk
 obtain ⟨ep, hep⟩ := nm (row fBox path)
 obtain ⟨ev, hev⟩ := nm (row fI h.versions)
 obtain ⟨ex, hex⟩ := nm (row fExt h.exts)
 obtain ⟨V1, hV1⟩ := nm (row fI (ppV path h).versions)
 obtain ⟨X1, hX1⟩ := nm (row fExt (ppV path h).exts)
 rw [← hep, ← hev, ← hex, ← hV1, ← hX1] at hk
 rw [← hep, ← hev, ← hex]
 refine fix_fn2 (fn := ir185) tb_185 rfl rfl (by decide) rfl ?_; intro Q hQ; simp only [shutArgs, shutS, List.map_cons, List.map_nil, ir185, shut_in q0, shut_in q1, shut_in q2, List.head?_nil, reduceCtorEq, if_false, sExt, sHello, sAnswer, sEdit, sDeal, sBox, sDialed, sKnown]
 intro add sub mul arith eq ne lt le gt ge neg conv mn mx not beq len at' ln bd cut app allS isNil mks set o hP F ho
 cbv
 rcases hk with hk | ⟨n1, n2, hk⟩
 ·have c3 : o 182 [R ep (.sp 0 0), sHello ev ex (.sp 1 0) (.sp 1 1)] = some ⟨[sHello V1 X1 (.ow false) (.ow false), B w], [], none⟩ := by rw [ho]; exact hk
  have c4 : o 131 [sHello V1 X1 (.sp 0 0) (.sp 0 1), sHello ev ex (.sp 1 0) (.sp 1 1)] = some ⟨[B v], [], none⟩ := by
   have h9 := ok131 (ppV path h) h vm1 vm2 vm3 (f0 := .sp 0 0) (f1 := .sp 0 1) (g0 := .sp 1 0) (g1 := .sp 1 1) rfl rfl rfl rfl
   rw [← hV1, ← hX1, ← hv, ← hev, ← hex] at h9
   rw [ho]; exact h9
  rw [c3]; cbv
  refine both (fun d => ?_) (fun d => ?_) <;> rw [d] <;> cbv
  ·rw [c4]; cbv
   rw [hQ]; cbv
   rw [← hr, d]; rfl
  ·rw [hQ]; cbv
   rw [← hr, d]; rfl
 ·have c3 : o 182 [R ep (.sp 0 0), sHello ev ex (.sp 1 0) (.sp 1 1)] = some ⟨[sHello [] [] (.nl) (.nl), B w], [], none⟩ := by rw [ho]; exact hk
  have c4 : o 131 [sHello [] [] (.nl) (.nl), sHello ev ex (.sp 1 0) (.sp 1 1)] = some ⟨[B v], [], none⟩ := by
   have h9 := ok131 (ppV path h) h vm1 vm2 vm3 (f0 := .nl) (f1 := .nl) (g0 := .sp 1 0) (g1 := .sp 1 1) rfl rfl rfl rfl
   rw [n1, n2, show row fI ([] : List Int) = [] from rfl, show row fExt ([] : List Ext) = [] from rfl, ← hv, ← hev, ← hex] at h9
   rw [ho]; exact h9
  rw [c3]; cbv
  refine both (fun d => ?_) (fun d => ?_) <;> rw [d] <;> cbv
  ·rw [c4]; cbv
   rw [hQ]; cbv
   rw [← hr, d]; rfl
  ·rw [hQ]; cbv
   rw [← hr, d]; rfl
def deadE (path : List Box) (versions : List Int) (e : Ext) : Bool := !pw ⟨versions.take 1, [e]⟩ path
def ltags (path : List Box) (versions : List Int) (exts : List Ext) : List Int := if areEx exts && iop path versions then sel (deadE path versions) Ext.tag exts else []
theorem ltags_len {path : List Box} {versions : List Int} {exts : List Ext} : (ltags path versions exts).length ≤ exts.length := by
 unfold ltags; split
 ·exact sel_len
 ·simp
theorem ppGo_ver : ∀ (path : List Box) (h : Hello), (ppGo path h).2 = true → (ppGo path h).1.versions = h.versions
 | [], _, _ => rfl
 | b :: bs, h, hq => by
  unfold ppGo at hq ⊢
  split at hq
  ·rename_i hb
   rw [if_pos hb, ppGo_ver bs _ hq]
   unfold pbV
   rw [if_pos hb]
  ·cases hq
theorem pp_ver {path : List Box} {h : Hello} (hq : ppOk path h = true) : (ppV path h).versions = h.versions := by
 unfold ppOk ppV pp at *
 split at hq
 ·rename_i hb
  rw [if_pos hb]; exact ppGo_ver path h hq
 ·cases hq
theorem pw_exts {path : List Box} {h : Hello} : pw h path = (ppOk path h && decide ((ppV path h).exts = h.exts)) := by
 unfold pw
 cases hq : ppOk path h with
 | false => rfl
 | true =>
  rw [Bool.true_and, Bool.true_and]
  have := pp_ver hq
  congr 1
  refine propext ⟨fun e => by rw [e], fun e => ?_⟩
  rcases hp : ppV path h with ⟨a, b⟩
  rw [hp] at this e
  cases h
  simp only at this e
  rw [this, e]
end Go.Vm
