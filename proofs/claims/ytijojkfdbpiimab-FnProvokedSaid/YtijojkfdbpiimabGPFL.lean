/- What the functions answer. -/
import Derived.Test.YtijojkfdbpiimabGPTab
import Derived.Test.YtijojkfdbpiimabGPFA
import Derived.Test.YtijojkfdbpiimabGPFB
import Derived.Test.YtijojkfdbpiimabGPFC
import Derived.Test.YtijojkfdbpiimabGPFD
import Derived.Test.YtijojkfdbpiimabGPFH
import Derived.Test.YtijojkfdbpiimabGPFJ
import Derived.Test.YtijojkfdbpiimabGPFK
set_option maxHeartbeats 4000000
set_option maxRecDepth 10000
set_option linter.unusedVariables false
set_option linter.unusedSimpArgs false
namespace Go.Vm
def notTag (t : Int) (e : Ext) : Bool := decide (e.tag ≠ t)
def neI (t x : Int) : Bool := decide (x ≠ t)
def dvOk (l : List Int) (v : Int) : Bool := areVer l && hasI l v && !decide (l.length = 1)
def dvV (l : List Int) (v : Int) : List Int := if dvOk l v then sel (neI v) idI l else l
theorem dvV_len {l : List Int} {v : Int} : (dvV l v).length ≤ l.length := by
 unfold dvV; split
 ·exact sel_len
 ·exact Nat.le_refl _
theorem notIn_one {v : Int} : notIn [v] = neI v := by
 funext x
 simp only [notIn, neI, hasI, List.any_cons, List.any_nil, Bool.or_false]
 by_cases h : v = x <;> simp [h, eq_comm]
def ehX (h : Hello) (n : Int) : List Ext := h.exts ++ [⟨n, []⟩]
def editH (h : Hello) (e : Edit) : Hello :=
 if e.kind = 1 then ⟨dvV h.versions e.n, h.exts⟩ else if e.kind = 2 then ⟨avV h.versions e.n, h.exts⟩ else if e.kind = 3 then ⟨h.versions, sel (notTag e.n) idE h.exts⟩ else if e.kind = 6 then (if areEx (ehX h e.n) = true then ⟨h.versions, ehX h e.n⟩ else h) else h
def hB (h : Hello) (n m : Nat) : Prop := h.versions.length ≤ n ∧ h.exts.length ≤ m ∧ ∀ y ∈ h.exts, y.body.length ≤ 1073741824
theorem editH_b {h : Hello} {e : Edit} {n m : Nat} (q : hB h n m) : hB (editH h e) (n + 1) (m + 1) := by
 obtain ⟨q1, q2, q3⟩ := q
 unfold editH
 split
 ·exact ⟨Nat.le_trans (Nat.le_trans dvV_len q1) (by omega), by show h.exts.length ≤ _; omega, q3⟩
 split
 ·exact ⟨by have := avV_len h.versions e.n; show (avV h.versions e.n).length ≤ _; omega, by show h.exts.length ≤ _; omega, q3⟩
 split
 ·refine ⟨by show h.versions.length ≤ _; omega, Nat.le_trans sel_len (by omega), fun y hy => q3 y ?_⟩
  simp only [sel_idE] at hy
  exact (List.mem_filter.1 hy).1
 split
 ·split
  ·refine ⟨by show h.versions.length ≤ _; omega, by show (ehX h e.n).length ≤ _; simp [ehX]; omega, fun y hy => ?_⟩
   simp only [ehX] at hy
   rcases List.mem_append.1 hy with hy | hy
   ·exact q3 y hy
   ·simp at hy; subst hy; simp
  ·exact ⟨by omega, by omega, q3⟩
 ·exact ⟨by omega, by omega, q3⟩
theorem hB_mid {h : Hello} {n : Nat} (q : hB h n n) (hn : n ≤ 1073741824) : h.Mid := ⟨Nat.le_trans q.1 hn, Nat.le_trans q.2.1 hn, q.2.2⟩
def editA (a : Answer) (e : Edit) : Answer := if (decide (e.kind = 4) && inR e.n 1 9) = true then ⟨e.n, a.exts⟩ else if decide (e.kind = 5) = true then ⟨a.version, sel (notTag e.n) idE a.exts⟩ else a
theorem editA_mid {a : Answer} {e : Edit} (h : a.Mid) : (editA a e).Mid := by
 unfold editA
 split
 ·exact h
 ·split
  ·unfold Answer.Mid at *
   exact ⟨Nat.le_trans sel_len h.1, fun y hy => h.2 y (by rw [sel_idE] at hy; exact (List.mem_filter.1 hy).1)⟩
  ·exact h
def gEx (x : Ext) : Bool := inR x.tag 0 255 && !decide (4 < x.body.length) && bytes x.body
theorem exOk_iff : ∀ {suf pre : List Ext}, exOk pre suf = true ↔ (∀ x ∈ suf, gEx x = true ∧ ∀ y ∈ pre, y.tag ≠ x.tag) ∧ suf.Pairwise (fun x y => x.tag ≠ y.tag)
 | [], pre => by simp [exOk]
 | x :: suf, pre => by
  have hp : pre.any (tagP x.tag) = false ↔ ∀ y ∈ pre, y.tag ≠ x.tag := by simp [List.any_eq_false, tagP]
  unfold exOk
  simp only [Bool.and_eq_true, Bool.not_eq_true', exOk_iff (suf := suf) (pre := pre ++ [x]), List.pairwise_cons, hp]
  constructor
  ·rintro ⟨⟨⟨⟨a, b⟩, c⟩, d⟩, e, f⟩
   refine ⟨?_, fun y hy => ?_, f⟩
   ·intro z hz
    rcases List.mem_cons.1 hz with rfl | hz
    ·exact ⟨by unfold gEx; rw [a, b, c]; rfl, d⟩
    ·exact ⟨(e z hz).1, fun y hy => (e z hz).2 y (by simp [hy])⟩
   ·exact (e y hy).2 x (by simp)
  ·rintro ⟨h1, h2, h3⟩
   have hx := h1 x (by simp)
   unfold gEx at hx
   simp only [Bool.and_eq_true, Bool.not_eq_true'] at hx
   refine ⟨⟨⟨hx.1.1, hx.1.2⟩, hx.2⟩, fun z hz => ⟨(h1 z (by simp [hz])).1, fun y hy => ?_⟩, h3⟩
   rcases List.mem_append.1 hy with hy | hy
   ·exact (h1 z (by simp [hz])).2 y hy
   ·simp at hy; subst hy; exact h2 z hz
theorem areEx_iff {l : List Ext} : areEx l = true ↔ (∀ x ∈ l, gEx x = true) ∧ l.Pairwise (fun x y => x.tag ≠ y.tag) ∧ l.length ≤ 6 := by
 unfold areEx
 rw [Bool.and_eq_true, exOk_iff, decide_eq_true_eq]
 constructor
 ·rintro ⟨⟨h1, h2⟩, h3⟩; exact ⟨fun x hx => (h1 x hx).1, h2, h3⟩
 ·rintro ⟨h1, h2, h3⟩; exact ⟨⟨fun x hx => ⟨h1 x hx, by simp⟩, h2⟩, h3⟩
theorem areEx_sel {l : List Ext} {p : Ext → Bool} (h : areEx l = true) : areEx (sel p idE l) = true := by
 rw [sel_idE]
 obtain ⟨h1, h2, h3⟩ := areEx_iff.1 h
 exact areEx_iff.2 ⟨fun x hx => h1 x (List.mem_filter.1 hx).1, h2.filter _, Nat.le_trans (List.length_filter_le _ _) h3⟩
theorem bestC_in {a b : List Int} (h : bestC a b ≠ 0) : 1 ≤ bestC a b ∧ bestC a b ≤ 9 ∧ hasI b (bestC a b) = true ∧ hasI a (bestC a b) = true := by
 unfold bestC at h ⊢
 split at h
 ·rename_i hv
  rw [if_pos hv]
  rw [Bool.and_eq_true] at hv
  have hne : comm a b ≠ [] := fun e => by rw [e] at h; exact h rfl
  have hm : (comm a b).getLastD 0 ∈ comm a b := by
   rw [List.getLastD_eq_getLast?, List.getLast?_eq_some_getLast hne]
   exact List.getLast_mem hne
  obtain ⟨m, hmm⟩ : ∃ m, m = (comm a b).getLastD 0 := ⟨_, rfl⟩
  rw [← hmm] at hm ⊢
  have h1 := (comm_asc (b := b) hv.1).2 _ hm
  have h2 : m ∈ a ∧ hasI b m = true := by
   unfold comm at hm
   rw [sel_idI, List.mem_filter] at hm
   exact hm
  refine ⟨h1.1, h1.2, h2.2, ?_⟩
  unfold hasI
  rw [List.any_eq_true]
  exact ⟨_, h2.1, by simp⟩
 ·exact absurd rfl h
theorem caV_ans {vs tg : List Int} {h : Hello} (q : caOk vs h = true) : isAns (caV vs tg h).version (caV vs tg h).exts = true := by
 unfold caV
 rw [if_pos q]
 unfold caOk isHel at q
 simp only [Bool.and_eq_true, Bool.not_eq_true', decide_eq_false_iff_not] at q
 obtain ⟨⟨_, hx⟩, hb⟩ := q
 have := bestC_in hb
 unfold isAns
 rw [Bool.and_eq_true]
 refine ⟨?_, areEx_sel (areEx_sel hx)⟩
 unfold inR
 simp; omega
theorem caOk_hel {vs : List Int} {h : Hello} (q : caOk vs h = true) : isHel h = true := by
 unfold caOk at q; simp only [Bool.and_eq_true] at q; exact q.1
theorem ansB_ne {a : Answer} (q : isAns a.version a.exts = true) : ansB a ≠ [] := by unfold ansB; rw [if_pos q]; simp
def dlG (vs tg : List Int) (seen : Hello) (es : List Edit) : Answer := es.foldl editA (caV vs tg seen)
def dlF (k : Int) (vs tg : List Int) (seen : Hello) : Int := finV k [helB seen, ansB (caV vs tg seen)] 1
def dlOk (h seen : Hello) (vs tg : List Int) (k : Int) (es : List Edit) : Bool := caOk vs seen && (fitsV h (dlG vs tg seen es) && chkV k [helB h, ansB (dlG vs tg seen es)] 1 (dlF k vs tg seen))
def dlV (h seen : Hello) (vs tg : List Int) (k : Int) (es : List Edit) : Deal := if dlOk h seen vs tg k es then ⟨true, (dlG vs tg seen es).version, tags (dlG vs tg seen es).exts⟩ else ⟨false, 0, []⟩
theorem two_w {a b : List Int} (h1 : a.length ≤ 48) (h2 : b.length ≤ 48) : [a, b].length ≤ 1048576 ∧ ∀ y ∈ [a, b], y.length ≤ 1048576 := ⟨by simp, by intro y hy; simp at hy; rcases hy with rfl | rfl <;> omega⟩
theorem dlG_mid : ∀ (es : List Edit) {a : Answer}, a.Mid → (es.foldl editA a).Mid
 | [], _, ma => ma
 | e :: es, a, ma => dlG_mid es (editA_mid ma)
theorem fits_parts {h : Hello} {a : Answer} (q : fitsV h a = true) : isHel h = true ∧ isAns a.version a.exts = true := by
 unfold fitsV at q; simp only [Bool.and_eq_true] at q; exact ⟨q.1.1.2, q.1.2⟩
def doOk (h : Hello) (path : List Box) (vs tg : List Int) (k : Int) : Bool := ppOk path h && dlOk h (ppV path h) vs tg k []
def doV (h : Hello) (path : List Box) (vs tg : List Int) (k : Int) : Deal := if doOk h path vs tg k then ⟨true, (caV vs tg (ppV path h)).version, tags (caV vs tg (ppV path h)).exts⟩ else ⟨false, 0, []⟩
theorem tags_len {l : List Ext} : (tags l).length = l.length := by rw [tags_map, List.length_map]
theorem doV_mid {h : Hello} {path : List Box} {vs tg : List Int} {k : Int} (m : h.Mid) : (doV h path vs tg k).Mid := by
 unfold doV
 split
 ·have := caV_mid (vs := vs) (tg := tg) (ppV_mid (path := path) m)
  show (tags _).length ≤ 1073741824
  rw [tags_len]; exact this.1
 ·show ([] : List Int).length ≤ 1073741824
  simp
theorem dl_nil {h seen : Hello} {vs tg : List Int} {k : Int} (q : caOk vs seen = true) : dlOk h seen vs tg k [] = (fitsV h (caV vs tg seen) && (!decide (finV k [helB h, ansB (caV vs tg seen)] 1 = 0) && decide (finV k [helB h, ansB (caV vs tg seen)] 1 = finV k [helB seen, ansB (caV vs tg seen)] 1))) := by
 unfold dlOk dlF chkV
 rw [q, Bool.true_and, show dlG vs tg seen [] = caV vs tg seen from rfl]
 congr 1
 by_cases e : finV k [helB h, ansB (caV vs tg seen)] 1 = finV k [helB seen, ansB (caV vs tg seen)] 1
 ·rw [e]
 ·simp [e]
def tF : Bool → Fl
 | true => .ow false
 | false => .nl
theorem ok267 (t k n : Int) : fix Tb md 267 [I t, ⟨.val, [⟨.ptr () [.int .i64 k, .int .i64 n], .sh⟩]⟩] = some ⟨[B (decide (t ≠ n))], [], none⟩ := by
 generalize hr : (⟨_, [], none⟩ : Ret) = r
 refine fix_fn2 (fn := ir267) tb_267 rfl rfl (by decide) rfl ?_; intro Q hQ; simp only [shutArgs, shutS, List.map_cons, List.map_nil, ir267, List.head?_nil, reduceCtorEq, if_false, sExt, sHello, sAnswer, sEdit, sDeal, sBox, sDialed, sKnown]
 intro add sub mul arith eq ne lt le gt ge neg conv mn mx not beq len at' ln bd cut app allS isNil mks set o hP F ho
 cbv
 rw [hQ]; cbv
 rw [← hr, F.ne]
theorem ok119 (a : Answer) (e : Edit) (hl : a.exts.length ≤ 1073741824) (w : ∀ y ∈ a.exts, y.body.length ≤ 1099511627776) {f0 : Fl} (h0 : inFl f0 = true) : fix Tb md 119 [sAnswer a.version (row fExt a.exts) f0, sEdit e.kind e.n] = some ⟨[sAnswer (editA a e).version (row fExt (editA a e).exts) (.ow false)], [], none⟩ := by
 obtain ⟨b1, hb1⟩ := nm (decide (e.kind = 4))
 obtain ⟨b2, hb2⟩ := nm (inR e.n 1 9)
 obtain ⟨b3, hb3⟩ := nm (decide (e.kind = 5))
 have h45 : b1 = true → b3 = false := by intro q; rw [hb1] at q; rw [hb3]; simp at q ⊢; omega
 have hv : editA a e = if (b1 && b2) = true then ⟨e.n, a.exts⟩ else if b3 = true then ⟨a.version, sel (notTag e.n) idE a.exts⟩ else a := by rw [hb1, hb2, hb3]; rfl
 obtain ⟨z, hz⟩ := nm (editA a e)
 rw [← hz] at hv ⊢
 have hA : b1 = true → b2 = true → z = ⟨e.n, a.exts⟩ := by intro q1 q2; rw [hv, q1, q2]; rfl
 have hB : (b1 && b2) = false → b3 = true → z = ⟨a.version, sel (notTag e.n) idE a.exts⟩ := by intro q1 q2; rw [hv, q1, q2]; rfl
 have hC : (b1 && b2) = false → b3 = false → z = a := by intro q1 q2; rw [hv, q1, q2]; rfl
 obtain ⟨et, het⟩ := nm (row fExt z.exts)
 rw [← het]
 generalize hr : (⟨_, [], none⟩ : Ret) = r
 obtain ⟨ea, hea⟩ := nm (row fExt a.exts)
 rw [← hea]
 obtain ⟨ed, hed⟩ := nm (row fExt (sel (notTag e.n) idE a.exts))
 refine fix_fn2 (fn := ir119) tb_119 rfl rfl (by decide) rfl ?_; intro Q hQ; simp only [shutArgs, shutS, List.map_cons, List.map_nil, ir119, shut_in h0, List.head?_nil, reduceCtorEq, if_false, sExt, sHello, sAnswer, sEdit, sDeal, sBox, sDialed, sKnown]
 intro add sub mul arith eq ne lt le gt ge neg conv mn mx not beq len at' ln bd cut app allS isNil mks set o hP F ho
 have c1 : o 266 [R ea (.sp 0 0)] = some ⟨[R ea (.ow false)], [], none⟩ := by rw [ho, hea]; exact ok266 _ hl w rfl
 have c2 : o 232 [I e.n, I 1, I 9] = some ⟨[B b2], [], none⟩ := by rw [ho, hb2]; exact ok232 ..
 have c3 : o 264 [R ea (.sp 0 0), ⟨.val, [⟨.fn 267 [.ptr () [.int .i64 e.kind, .int .i64 e.n]], .sh⟩]⟩] = some ⟨[R ed (.ow false)], [], none⟩ := by
  rw [ho, hed, hea]
  exact ok264_1 267 rfl _ (fun t => decide (t ≠ e.n)) a.exts hl w (fun x _ => ok267 x.tag e.kind e.n) rfl
 have g1 : eq e.kind 4 = b1 := by rw [F.eq, hb1]
 have g2 : eq e.kind 5 = b3 := by rw [F.eq, hb3]
 cbv
 rw [c1]; cbv
 rw [g1]; cbv
 refine both (fun d1 => ?_) (fun d1 => ?_) <;> rw [d1] <;> cbv
 ·rw [c2]; cbv
  refine both (fun d2 => ?_) (fun d2 => ?_) <;> rw [d2] <;> cbv
  ·rw [hQ]; cbv
   have hv := hA d1 d2
   rw [← hr, het, hv, hea]
  ·rw [hQ]; cbv
   have hv := hC (by rw [d1, d2]; rfl) (h45 d1)
   rw [← hr, het, hv, hea]
 ·rw [g2]; cbv
  refine both (fun d3 => ?_) (fun d3 => ?_) <;> rw [d3] <;> cbv
  ·rw [c3]; cbv
   rw [hQ]; cbv
   have hv := hB (by rw [d1]; rfl) d3
   rw [← hr, het, hv, hed]
  ·rw [hQ]; cbv
   have hv := hC (by rw [d1]; rfl) d3
   rw [← hr, het, hv, hea]
theorem ok114 (k : Int) : fix Tb md 114 [I k] = some ⟨[B (vKey k)], [], none⟩ := by
 obtain ⟨a, ha⟩ := nm (vKey k)
 rw [← ha]
 generalize hr : (⟨_, [], none⟩ : Ret) = r
 refine fix_fn2 (fn := ir114) tb_114 rfl rfl (by decide) rfl ?_; intro Q hQ; simp only [shutArgs, shutS, List.map_cons, List.map_nil, ir114, List.head?_nil, reduceCtorEq, if_false, sExt, sHello, sAnswer, sEdit, sDeal, sBox, sDialed, sKnown]
 intro add sub mul arith eq ne lt le gt ge neg conv mn mx not beq len at' ln bd cut app allS isNil mks set o hP F ho
 have c1 : o 232 [I k, I 1, I 2147483646] = some ⟨[B a], [], none⟩ := by rw [ho, ha]; exact ok232 ..
 cbv
 rw [c1]; cbv
 rw [hQ]; cbv
 exact congrArg some hr
theorem ok349 (n m : Int) : fix Tb md 349 [I n, I m] = some ⟨[I (modV n m)], [], none⟩ := by
 obtain ⟨T, hT⟩ := nm (modV n m)
 rw [← hT]
 generalize hr : (⟨_, [], none⟩ : Ret) = r
 obtain ⟨v, hv⟩ := nm (inR m 1 1000000000000)
 refine fix_fn2 (fn := ir349) tb_349 rfl rfl (by decide) rfl ?_; intro Q hQ; simp only [shutArgs, shutS, List.map_cons, List.map_nil, ir349, List.head?_nil, reduceCtorEq, if_false, sExt, sHello, sAnswer, sEdit, sDeal, sBox, sDialed, sKnown]
 intro add sub mul arith eq ne lt le gt ge neg conv mn mx not beq len at' ln bd cut app allS isNil mks set o hP F ho
 have c1 : o 232 [I m, I 1, I 1000000000000] = some ⟨[B v], [], none⟩ := by rw [ho, hv]; exact ok232 ..
 cbv
 rw [c1]; cbv
 refine both (fun d1 => ?_) (fun d1 => ?_) <;> rw [d1] <;> cbv
 ·rw [hQ]; cbv
  have hv0 := F.not_t d1
  rw [← hr, hT]; unfold modV; rw [← hv, hv0]; rfl
 have hv1 := F.not_f d1
 have hm : m ≠ 0 := by rw [hv] at hv1; simp [inR] at hv1; omega
 obtain ⟨n1, hn1⟩ := nm (Int.tmod n m)
 obtain ⟨n2, hn2⟩ := nm (add .i64 n1 m)
 obtain ⟨n3, hn3⟩ := nm (Int.tmod n2 m)
 rw [show arith .rem .i64 n m = some (.int .i64 n1) by rw [F.arith, hn1]; exact rem_nz hm]; cbv
 rw [← hn2]
 rw [show arith .rem .i64 n2 m = some (.int .i64 n3) by rw [F.arith, hn3]; exact rem_nz hm]; cbv
 rw [hQ]; cbv
 rw [← hr, hT]; unfold modV; rw [← hv, hv1, if_pos rfl, hn3, hn2, hn1, F.add]
theorem ok269 (l : List Int) (hl : l.length ≤ 1099511627776) {f0 : Fl} (h0 : inFl f0 = true) : fix Tb md 269 [R (row fI l) f0] = some ⟨[I (hashV l)], [], none⟩ := by
 obtain ⟨T, hT⟩ := nm (hashV l)
 rw [← hT]
 generalize hr : (⟨_, [], none⟩ : Ret) = r
 obtain ⟨ea, hea⟩ := nm (row fI l)
 rw [← hea]
 refine fix_fn2 (fn := ir269) tb_269 rfl rfl (by decide) rfl ?_; intro Q hQ; simp only [shutArgs, shutS, List.map_cons, List.map_nil, ir269, shut_in h0, List.head?_nil, reduceCtorEq, if_false, sExt, sHello, sAnswer, sEdit, sDeal, sBox, sDialed, sKnown]
 intro add sub mul arith eq ne lt le gt ge neg conv mn mx not beq len at' ln bd cut app allS isNil mks set o hP F ho
 have la := F.len_at hea
 cbv
 refine loop_ind2 hP (σ := List Int × List Int × Int × Int × Option Int) (fun s => match s.2.2.2.2 with
   | none => [(0, R ea .sh), (2, I 0), (3, I s.2.2.1), (6, R ea .sh), (7, I (len ea)), (8, I s.2.2.2.1)]
   | some j => [(0, R ea .sh), (2, I 0), (3, I s.2.2.1), (5, I j), (6, R ea .sh), (7, I (len ea)), (8, I s.2.2.2.1)]) (fun s => At s.2.2.2.1 s.2.1.length ∧ l = s.2.1 ++ s.1 ∧ s.1.foldl hstep s.2.2.1 = T) (fun s => s.1.length) (l, [], 11, 0, none) rfl ⟨rfl, rfl, hT.symm⟩ ?_
 intro c1 Q1 hc1 hQ1
 rintro ⟨suf, pre, d, i, j⟩ ⟨hi, hl', hb⟩ ih
 simp only at hi hl' hb ih
 rcases j with _ | _
 all_goals
  cbv
  cases suf with
  | nil =>
   rw [F.lt_f hi la (by simp [hl'])]; cbv
   rw [hQ1]; cbv
   rw [hQ]; cbv
   rw [← hr, ← hb]; rfl
  | cons x suf =>
   rw [List.foldl_cons] at hb
   rw [F.lt_t hi la (by simp [hl'])]; cbv
   obtain ⟨ix, hix⟩ := nm (pre.length * 1)
   rw [show at' 1 ea i = some (ix, [.int .i64 x]) by rw [hix]; exact F.get hi hea hl' (fun _ => rfl) (by decide)]; cbv
   obtain ⟨v, hv⟩ := nm (modV x 2147483647)
   rw [show o 349 [I x, I 2147483647] = some ⟨[I v], [], none⟩ by rw [ho, hv]; exact ok349 ..]; cbv
   obtain ⟨d', hd'⟩ := nm (hstep d x)
   rw [show arith .rem .i64 (add .i64 (add .i64 (mul .i64 d 1000003) v) 13) 2147483647 = some (.int .i64 d') by rw [F.arith, hd', F.add, F.add, F.mul]; unfold hstep; rw [← hv]; exact rem_nz (by decide)]; cbv
   rw [← hd'] at hb
   refine ih (suf, pre ++ [x], d', add .i64 i 1, some x) ⟨at_len (F.inc hi (by simp [hl'] at hl; omega)) (by simp), by simp [hl'], hb⟩ (by simp)
theorem ok341_0 (g : Nat) (hg : md g = []) (p : (List Int) → Bool) (l : List (List Int)) (hl : l.length ≤ 1099511627776) (hp : ∀ x ∈ l, fix Tb md g [R (row fI x) (.sp 0 0)] = some ⟨[B (p x)], [], none⟩) {f0 : Fl} (h0 : inFl f0 = true) :
  fix Tb md 341 [R (row fR l) f0, ⟨.val, [⟨.fn g [], .sh⟩]⟩] = some ⟨[I (ixOf p l 0)], [], none⟩ := by
 generalize hm : md = m at hg hp ⊢
 refine fix_fn (fn := ir341) tb_341 rfl rfl (by decide) rfl ?_; simp only [shutArgs, shutS, List.map_cons, List.map_nil, ir341, shut_in h0, List.head?_nil, reduceCtorEq, if_false, sExt, sHello, sAnswer, sEdit, sDeal, sBox, sDialed, sKnown]
 generalize hr : (⟨_, [], none⟩ : Ret) = r
 obtain ⟨ea, hea⟩ := nm (row fR l)
 rw [← hea]
 intro add sub mul arith eq ne lt le gt ge neg conv mn mx not beq len at' ln bd cut app allS isNil mks set o hP F ho
 have la := F.len_at hea
 cbv
 refine loop_ind hP (σ := List (List Int) × List (List Int) × Int × Option Int) (fun s => match s.2.2.2 with | none => [(0, R ea .sh), (1, ⟨.val, [⟨.fn g [], .sh⟩]⟩), (4, I 0), (7, I (len ea)), (8, I s.2.2.1)] | some j => [(0, R ea .sh), (1, ⟨.val, [⟨.fn g [], .sh⟩]⟩), (4, I 0), (5, I j), (7, I (len ea)), (8, I s.2.2.1)])
  (fun s => At s.2.2.1 s.2.1.length ∧ l = s.2.1 ++ s.1 ∧ ixOf p s.1 (s.2.1.length : Int) = ixOf p l 0) (fun s => s.1.length) (l, [], 0, none) rfl ⟨rfl, rfl, rfl⟩ ?_
 rintro ⟨suf, pre, i, j⟩ ⟨hi, hl', hx⟩ ih
 simp only at hi hl' hx ih
 have hi' : i = (pre.length : Int) := hi
 rw [← hi'] at hx
 cases j <;> cbv <;> (
  cases suf with
  | nil =>
   rw [F.lt_f hi la (by simp [hl'])]; cbv
   rw [← hr, ← hx]; rfl
  | cons x suf =>
   rw [F.lt_t hi la (by simp [hl'])]; cbv
   obtain ⟨e1, he1⟩ := nm (row fI x)
   obtain ⟨ix, hix⟩ := nm (pre.length * 1)
   rw [show at' 1 ea i = some (ix, [.row () e1]) by rw [hix, he1]; exact F.get hi hea hl' (fun _ => rfl) (by decide)]; cbv
   obtain ⟨v, hv⟩ := nm (p x)
   have c1 : o g [R e1 (.sp 0 0)] = some ⟨[B v], [], none⟩ := by rw [ho, hv, he1]; exact hp x (by rw [hl']; simp)
   rw [hg]; cbv
   rw [c1]; cbv
   have hx1 : ixOf p (x :: suf) i = if p x = true then i else ixOf p suf (i + 1) := rfl
   rw [hx1] at hx
   refine both (fun c => ?_) (fun c => ?_) <;> rw [c] <;> cbv
   ·rw [← hv, if_pos c] at hx
    rw [← hr, ← hx]
   ·rw [← hv, if_neg (by simp [c])] at hx
    refine ih (suf, pre ++ [x], add .i64 i 1, some i) ⟨at_len (F.inc hi (by simp [hl'] at hl; omega)) (by simp), by simp [hl'], ?_⟩ (by simp)
    rw [← hx, hi']
    simp)
theorem ok341_1 (g : Nat) (hg : md g = []) (k0 : V) (p : (List Int) → Bool) (l : List (List Int)) (hl : l.length ≤ 1099511627776) (hp : ∀ x ∈ l, fix Tb md g [R (row fI x) (.sp 0 0), ⟨.val, [⟨k0, .sh⟩]⟩] = some ⟨[B (p x)], [], none⟩) {f0 : Fl} (h0 : inFl f0 = true) :
  fix Tb md 341 [R (row fR l) f0, ⟨.val, [⟨.fn g [k0], .sh⟩]⟩] = some ⟨[I (ixOf p l 0)], [], none⟩ := by
 generalize hm : md = m at hg hp ⊢
 refine fix_fn (fn := ir341) tb_341 rfl rfl (by decide) rfl ?_; simp only [shutArgs, shutS, List.map_cons, List.map_nil, ir341, shut_in h0, List.head?_nil, reduceCtorEq, if_false, sExt, sHello, sAnswer, sEdit, sDeal, sBox, sDialed, sKnown]
 generalize hr : (⟨_, [], none⟩ : Ret) = r
 obtain ⟨ea, hea⟩ := nm (row fR l)
 rw [← hea]
 intro add sub mul arith eq ne lt le gt ge neg conv mn mx not beq len at' ln bd cut app allS isNil mks set o hP F ho
 have la := F.len_at hea
 cbv
 refine loop_ind hP (σ := List (List Int) × List (List Int) × Int × Option Int) (fun s => match s.2.2.2 with | none => [(0, R ea .sh), (1, ⟨.val, [⟨.fn g [k0], .sh⟩]⟩), (4, I 0), (7, I (len ea)), (8, I s.2.2.1)] | some j => [(0, R ea .sh), (1, ⟨.val, [⟨.fn g [k0], .sh⟩]⟩), (4, I 0), (5, I j), (7, I (len ea)), (8, I s.2.2.1)])
  (fun s => At s.2.2.1 s.2.1.length ∧ l = s.2.1 ++ s.1 ∧ ixOf p s.1 (s.2.1.length : Int) = ixOf p l 0) (fun s => s.1.length) (l, [], 0, none) rfl ⟨rfl, rfl, rfl⟩ ?_
 rintro ⟨suf, pre, i, j⟩ ⟨hi, hl', hx⟩ ih
 simp only at hi hl' hx ih
 have hi' : i = (pre.length : Int) := hi
 rw [← hi'] at hx
 cases j <;> cbv <;> (
  cases suf with
  | nil =>
   rw [F.lt_f hi la (by simp [hl'])]; cbv
   rw [← hr, ← hx]; rfl
  | cons x suf =>
   rw [F.lt_t hi la (by simp [hl'])]; cbv
   obtain ⟨e1, he1⟩ := nm (row fI x)
   obtain ⟨ix, hix⟩ := nm (pre.length * 1)
   rw [show at' 1 ea i = some (ix, [.row () e1]) by rw [hix, he1]; exact F.get hi hea hl' (fun _ => rfl) (by decide)]; cbv
   obtain ⟨v, hv⟩ := nm (p x)
   have c1 : o g [R e1 (.sp 0 0), ⟨.val, [⟨k0, .sh⟩]⟩] = some ⟨[B v], [], none⟩ := by rw [ho, hv, he1]; exact hp x (by rw [hl']; simp)
   rw [hg]; cbv
   rw [c1]; cbv
   have hx1 : ixOf p (x :: suf) i = if p x = true then i else ixOf p suf (i + 1) := rfl
   rw [hx1] at hx
   refine both (fun c => ?_) (fun c => ?_) <;> rw [c] <;> cbv
   ·rw [← hv, if_pos c] at hx
    rw [← hr, ← hx]
   ·rw [← hv, if_neg (by simp [c])] at hx
    refine ih (suf, pre ++ [x], add .i64 i 1, some i) ⟨at_len (F.inc hi (by simp [hl'] at hl; omega)) (by simp), by simp [hl'], ?_⟩ (by simp)
    rw [← hx, hi']
    simp)
theorem ok234_0 (g : Nat) (hg : md g = []) (p : (List Int) → Bool) (l : List (List Int)) (hl : l.length ≤ 1099511627776) (hp : ∀ x ∈ l, fix Tb md g [R (row fI x) (.sp 0 0)] = some ⟨[B (p x)], [], none⟩) {f0 : Fl} (h0 : inFl f0 = true) :
  fix Tb md 234 [R (row fR l) f0, ⟨.val, [⟨.fn g [], .sh⟩]⟩] = some ⟨[B (l.any p)], [], none⟩ := by
 refine fix_fn (fn := ir234) tb_234 rfl rfl (by decide) rfl ?_; simp only [shutArgs, shutS, List.map_cons, List.map_nil, ir234, shut_in h0, List.head?_nil, reduceCtorEq, if_false, sExt, sHello, sAnswer, sEdit, sDeal, sBox, sDialed, sKnown]
 generalize hr : (⟨_, [], none⟩ : Ret) = r
 obtain ⟨ea, hea⟩ := nm (row fR l)
 rw [← hea]
 obtain ⟨v, hv⟩ := nm (ixOf p l 0)
 have hv2 : decide (0 ≤ v) = l.any p := by rw [hv]; exact ixOf_ge p l 0 (by decide)
 rw [← hv2] at hr
 clear hv2
 intro add sub mul arith eq ne lt le gt ge neg conv mn mx not beq len at' ln bd cut app allS isNil mks set o hP F ho
 have c1 : o 341 [R ea (.sp 0 0), ⟨.val, [⟨.fn g [], .sh⟩]⟩] = some ⟨[I v], [], none⟩ := by rw [ho, hv, hea]; exact ok341_0 g hg p l hl hp rfl
 cbv
 rw [c1]; cbv
 rw [← hr, F.ge]
theorem ok234_1 (g : Nat) (hg : md g = []) (k0 : V) (p : (List Int) → Bool) (l : List (List Int)) (hl : l.length ≤ 1099511627776) (hp : ∀ x ∈ l, fix Tb md g [R (row fI x) (.sp 0 0), ⟨.val, [⟨k0, .sh⟩]⟩] = some ⟨[B (p x)], [], none⟩) {f0 : Fl} (h0 : inFl f0 = true) :
  fix Tb md 234 [R (row fR l) f0, ⟨.val, [⟨.fn g [k0], .sh⟩]⟩] = some ⟨[B (l.any p)], [], none⟩ := by
 refine fix_fn (fn := ir234) tb_234 rfl rfl (by decide) rfl ?_; simp only [shutArgs, shutS, List.map_cons, List.map_nil, ir234, shut_in h0, List.head?_nil, reduceCtorEq, if_false, sExt, sHello, sAnswer, sEdit, sDeal, sBox, sDialed, sKnown]
 generalize hr : (⟨_, [], none⟩ : Ret) = r
 obtain ⟨ea, hea⟩ := nm (row fR l)
 rw [← hea]
 obtain ⟨v, hv⟩ := nm (ixOf p l 0)
 have hv2 : decide (0 ≤ v) = l.any p := by rw [hv]; exact ixOf_ge p l 0 (by decide)
 rw [← hv2] at hr
 clear hv2
 intro add sub mul arith eq ne lt le gt ge neg conv mn mx not beq len at' ln bd cut app allS isNil mks set o hP F ho
 have c1 : o 341 [R ea (.sp 0 0), ⟨.val, [⟨.fn g [k0], .sh⟩]⟩] = some ⟨[I v], [], none⟩ := by rw [ho, hv, hea]; exact ok341_1 g hg k0 p l hl hp rfl
 cbv
 rw [c1]; cbv
 rw [← hr, F.ge]
theorem ok235 (l : List Int) (hl : l.length ≤ 1099511627776) {f0 : Fl} (h0 : inFl f0 = true) : fix Tb md 235 [R (row fI l) f0] = some ⟨[B (!bytes l)], [], none⟩ := by
 refine fix_fn (fn := ir235) tb_235 rfl rfl (by decide) rfl ?_; simp only [shutArgs, shutS, List.map_cons, List.map_nil, ir235, shut_in h0, List.head?_nil, reduceCtorEq, if_false, sExt, sHello, sAnswer, sEdit, sDeal, sBox, sDialed, sKnown]
 generalize hr : (⟨_, [], none⟩ : Ret) = r
 obtain ⟨v, hv⟩ := nm (bytes l)
 obtain ⟨ea, hea⟩ := nm (row fI l)
 rw [← hv] at hr
 rw [← hea]
 intro add sub mul arith eq ne lt le gt ge neg conv mn mx not beq len at' ln bd cut app allS isNil mks set o hP F ho
 have c1 : o 233 [R ea (.sp 0 0), I 0, I 255] = some ⟨[B v], [], none⟩ := by rw [ho, hv, hea]; exact ok233 _ _ _ hl rfl
 cbv
 rw [c1]; cbv
 rw [← hr, F.not]
theorem ok73 (l : List (List Int)) (w : l.length ≤ 1048576 ∧ ∀ y ∈ l, y.length ≤ 1048576) {f0 : Fl} (h0 : inFl f0 = true) : fix Tb md 73 [R (row fR l) f0] = some ⟨[B (isTr l)], [], none⟩ := by
 have w1 := w.1
 refine fix_fn (fn := ir73) tb_73 rfl rfl (by decide) rfl ?_; simp only [shutArgs, shutS, List.map_cons, List.map_nil, ir73, shut_in h0, List.head?_nil, reduceCtorEq, if_false, sExt, sHello, sAnswer, sEdit, sDeal, sBox, sDialed, sKnown]
 generalize hr : (⟨_, [], none⟩ : Ret) = r
 obtain ⟨v, hv⟩ := nm (l.any fun y => !bytes y)
 have e : isTr l = (decide (l.length ≤ 12) && !v) := by rw [hv]; unfold isTr; rw [List.all_eq_not_any_not, Bool.and_comm]
 obtain ⟨ea, hea⟩ := nm (row fR l)
 rw [e] at hr
 rw [← hea]
 intro add sub mul arith eq ne lt le gt ge neg conv mn mx not beq len at' ln bd cut app allS isNil mks set o hP F ho
 have la := F.len_at hea
 have c1 : o 234 [R ea (.sp 0 0), ⟨.val, [⟨.fn 235 [], .sh⟩]⟩] = some ⟨[B v], [], none⟩ := by rw [ho, hv, hea]; exact ok234_0 235 rfl _ l (by omega) (fun x hx => ok235 x (by have := w.2 x hx; omega) rfl) rfl
 cbv
 repeat' (first | (rw [c1]; cbv) | (refine both (fun c => ?_) (fun c => ?_) <;> (try rw [c]) <;> (try cbv)))
 all_goals (clear hP c1 ho; unfold At at la; try simp only [F.eq, F.ne, F.le, F.lt, F.ge, F.gt, F.not, F.beq, la] at *; clear F; subst hr)
 all_goals (simp_all [] <;> (intros; omega))
theorem ok121 (l : List (List Int)) (w : l.length ≤ 1048576 ∧ ∀ y ∈ l, y.length ≤ 1048576) {f0 : Fl} (h0 : inFl f0 = true) : fix Tb md 121 [R (row fR l) f0] = some ⟨[I (thash l)], [], none⟩ := by
 have w1 := w.1
 obtain ⟨T, hT⟩ := nm (thash l)
 rw [← hT]
 generalize hr : (⟨_, [], none⟩ : Ret) = r
 obtain ⟨ea, hea⟩ := nm (row fR l)
 rw [← hea]
 obtain ⟨u, hu⟩ := nm (isTr l)
 refine fix_fn2 (fn := ir121) tb_121 rfl rfl (by decide) rfl ?_; intro Q hQ; simp only [shutArgs, shutS, List.map_cons, List.map_nil, ir121, shut_in h0, List.head?_nil, reduceCtorEq, if_false, sExt, sHello, sAnswer, sEdit, sDeal, sBox, sDialed, sKnown]
 intro add sub mul arith eq ne lt le gt ge neg conv mn mx not beq len at' ln bd cut app allS isNil mks set o hP F ho
 have la := F.len_at hea
 have c1 : o 73 [R ea (.sp 0 0)] = some ⟨[B u], [], none⟩ := by rw [ho, hu, hea]; exact ok73 _ w rfl
 cbv
 rw [c1]; cbv
 refine both (fun d1 => ?_) (fun d1 => ?_) <;> rw [d1] <;> cbv
 ·rw [hQ]; cbv
  rw [← hr, hT]; unfold thash; rw [← hu, F.not_t d1]; rfl
 have hT' : T = l.foldl hcons 1 := by rw [hT]; unfold thash; rw [← hu, F.not_f d1]; rfl
 refine loop_ind2 hP (σ := List (List Int) × List (List Int) × Int × Int × Option (List (List V))) (fun s => match s.2.2.2.2 with
   | none => [(0, R ea .sh), (2, I 0), (3, I s.2.2.1), (9, R ea .sh), (10, I (len ea)), (11, I s.2.2.2.1)]
   | some j => [(0, R ea .sh), (2, I 0), (3, I s.2.2.1), (5, R j .sh), (9, R ea .sh), (10, I (len ea)), (11, I s.2.2.2.1)]) (fun s => At s.2.2.2.1 s.2.1.length ∧ l = s.2.1 ++ s.1 ∧ s.1.foldl hcons s.2.2.1 = T) (fun s => s.1.length) (l, [], 1, 0, none) rfl ⟨rfl, rfl, hT'.symm⟩ ?_
 intro c1 Q1 hc1 hQ1
 rintro ⟨suf, pre, d, i, j⟩ ⟨hi, hl', hb⟩ ih
 simp only at hi hl' hb ih
 rcases j with _ | _
 all_goals
  cbv
  cases suf with
  | nil =>
   rw [F.lt_f hi la (by simp [hl'])]; cbv
   rw [hQ1]; cbv
   rw [hQ]; cbv
   rw [← hr, ← hb]; rfl
  | cons x suf =>
   have hx := w.2 x (by rw [hl']; simp)
   rw [List.foldl_cons] at hb
   obtain ⟨nx, hnx⟩ := nm ((x.length : Int))
   have hc : hcons d x = hashV (d :: nx :: x) := by rw [hnx]; rfl
   rw [F.lt_t hi la (by simp [hl'])]; cbv
   obtain ⟨ix, hix⟩ := nm (pre.length * 1)
   obtain ⟨e1, he1⟩ := nm (row fI x)
   have l1 : len e1 = nx := by rw [hnx]; exact F.len_at he1
   have p0 : at' 1 ea i = some (ix, [.row () e1]) := by rw [hix, he1]; exact F.get hi hea hl' (fun _ => rfl) (by decide)
   rw [p0]; cbv
   try (rw [show allS e1 = true from F.scal he1 (fun _ => rfl)])
   try (rw [l1])
   cbv
   obtain ⟨e2, he2⟩ := nm (row fI (d :: nx :: x))
   rw [show app 1 [[.int .i64 d], [.int .i64 nx]] e1 = some e2 by rw [F.app' (f := fI) (e1 := [[.int .i64 d], [.int .i64 nx]]) (l1 := [d, nx]) rfl he1 (fun _ => rfl) (by simp; omega), he2]; rfl]; cbv
   obtain ⟨d', hd'⟩ := nm (hcons d x)
   rw [show o 269 [R e2 (.sp 0 0)] = some ⟨[I d'], [], none⟩ by rw [ho, hd', hc, he2]; exact ok269 _ (by simp; omega) rfl]; cbv
   rw [← hd'] at hb
   refine ih (suf, pre ++ [x], d', add .i64 i 1, some e1) ⟨at_len (F.inc hi (by simp [hl'] at w1; omega)) (by simp), by simp [hl'], hb⟩ (by simp)
theorem ok355 (n : Int) (h0 : 0 < n) (h1 : n ≤ 1099511627776) : fix Tb md 355 [R [] .nl, I n] = some ⟨[R [] (.ow true)], [], none⟩ := by
 refine fix_special tb_355 (by decide) ?_
 show special 2 [⟨.val, [⟨.row () [], .nl⟩]⟩, ⟨.val, [⟨.int .i64 n, .sc⟩]⟩] = _
 have h2 : 0 < n ∧ n ≤ (lim : Int) := ⟨h0, by simpa [lim] using h1⟩
 simp only [special, h2, and_self, if_true]
theorem ok304 (ls : List (List Int)) (h1 : ls.length ≤ 1099511627776) (h2 : ls.flatten.length ≤ 1099511627776) (h3 : ls.flatten ≠ []) {f0 : Fl} (q0 : inFl f0 = true) : fix Tb md 304 [R (row fR ls) f0] = some ⟨[R (row fI ls.flatten) (.ow false)], [], none⟩ := by
 obtain ⟨et, het⟩ := nm (row fI ls.flatten)
 rw [← het]
 generalize hr : (⟨_, [], none⟩ : Ret) = r
 have h4 : 0 < ls.flatten.length := List.length_pos_iff.2 h3
 obtain ⟨N, hN⟩ := nm (ls.flatten.length)
 rw [← hN] at h2 h4
 obtain ⟨ea, hea⟩ := nm (row fR ls)
 rw [← hea]
 refine fix_fn2 (fn := ir304) tb_304 rfl rfl (by decide) rfl ?_; intro Q hQ; simp only [shutArgs, shutS, List.map_cons, List.map_nil, ir304, shut_in q0, List.head?_nil, reduceCtorEq, if_false, sExt, sHello, sAnswer, sEdit, sDeal, sBox, sDialed, sKnown]
 intro add sub mul arith eq ne lt le gt ge neg conv mn mx not beq len at' ln bd cut app allS isNil mks set o hP F ho
 have la := F.len_at hea
 cbv
 refine loop_ind2 hP (σ := List (List Int) × List (List Int) × Int × Int × Option (List (List V))) (fun s => match s.2.2.2.2 with
  | none => [(0, R ea .sh), (2, R [] .nl), (3, I s.2.2.1), (9, R ea .sh), (10, I (len ea)), (11, I s.2.2.2.1)]
  | some j => [(0, R ea .sh), (2, R [] .nl), (3, I s.2.2.1), (5, R j .sh), (9, R ea .sh), (10, I (len ea)), (11, I s.2.2.2.1)]) (fun s => At s.2.2.2.1 s.2.1.length ∧ ls = s.2.1 ++ s.1 ∧ At s.2.2.1 s.2.1.flatten.length ∧ (s.2.2.2.2 = none → s.2.1 = [])) (fun s => s.1.length) (ls, [], 0, 0, none) rfl ⟨rfl, rfl, rfl, fun _ => rfl⟩ ?_
 intro c9 Q1 hc9 hQ1
 rintro ⟨suf, pre, n, i, j⟩ ⟨hi, hl', hb, hj⟩ ih
 simp only at hi hl' hb hj ih
 cases suf with
 | nil =>
  have hpp : ls = pre := by rw [hl', List.append_nil]
  cases j with
  | none => exfalso; have := hj rfl; rw [this] at hpp; rw [hpp] at hN; simp at hN; omega
  | some je =>
   cbv
   rw [F.lt_f hi la (by simp [hl'])]; cbv
   rw [hQ1]; cbv
   have hn1 : 0 < n ∧ n ≤ 1099511627776 := by unfold At at hb; rw [← hpp, ← hN] at hb; omega
   have c1 : o 355 [R [] .nl, I n] = some ⟨[R [] (.ow true)], [], none⟩ := by rw [ho]; exact ok355 n hn1.1 hn1.2
   rw [c1]; cbv
   clear ih hj hQ1 hc9
   refine loop_ind2 hP (σ := List (List Int) × List (List Int) × List (List V) × Int × Option (List (List V) × Bool)) (fun s => match s.2.2.2.2 with
    | none => [(0, R ea .sh), (2, R [] .nl), (3, I n), (5, R je .sh), (6, R s.2.2.1 (.ow true)), (9, R ea .sh), (10, I (len ea)), (11, I i), (25, R ea .sh), (26, I (len ea)), (27, I s.2.2.2.1)]
    | some (k, true) => [(0, R ea .sh), (2, R [] .nl), (3, I n), (5, R je .sh), (6, R s.2.2.1 (.ow true)), (8, R k .sh), (9, R ea .sh), (10, I (len ea)), (11, I i), (25, R ea .sh), (26, I (len ea)), (27, I s.2.2.2.1)]
    | some (k, false) => [(0, R ea .sh), (2, R [] .nl), (3, I n), (5, R je .sh), (6, R s.2.2.1 (.ow false)), (8, R k .sh), (9, R ea .sh), (10, I (len ea)), (11, I i), (25, R ea .sh), (26, I (len ea)), (27, I s.2.2.2.1)]) (fun s => At s.2.2.2.1 s.2.1.length ∧ ls = s.2.1 ++ s.1 ∧ s.2.2.1 = row fI s.2.1.flatten ∧ (match s.2.2.2.2 with | some (_, false) => True | _ => s.2.1.flatten = [])) (fun s => s.1.length) (ls, [], [], 0, none) rfl ⟨rfl, rfl, rfl, rfl⟩ ?_
   intro c8 Q2 hc8 hQ2
   rintro ⟨suf, pre, eo, m, k⟩ ⟨hm, hk', he, hg⟩ ih
   simp only at hm hk' he hg ih
   rcases k with _ | ⟨kk, _ | _⟩
   all_goals
    simp only at hg
    cases suf with
    | nil =>
     have hp2 : ls = pre := by rw [hk', List.append_nil]
     first
      | (exfalso; rw [hp2, hg] at hN; simp at hN; omega)
      | (cbv
         rw [F.lt_f hm la (by simp [hk'])]; cbv
         rw [hQ2]; cbv
         rw [hQ]; cbv
         rw [← hr, het, he, hp2])
    | cons x suf =>
     have hpl : pre.flatten.length + x.length ≤ 1099511627776 := by
      have : ls.flatten.length = pre.flatten.length + (x.length + suf.flatten.length) := by rw [hk']; simp
      omega
     have hpr : pre.length < ls.length := by rw [hk']; simp
     obtain ⟨ix, hix⟩ := nm (pre.length * 1)
     obtain ⟨e1, he1⟩ := nm (row fI x)
     have p0 : at' 1 ea m = some (ix, [.row () e1]) := by rw [hix, he1]; exact F.get hm hea hk' (fun _ => rfl) (by decide)
     have p1 : allS e1 = true := F.scal he1 (fun _ => rfl)
     have p3 : isNil e1 = x.isEmpty := F.nil he1
     obtain ⟨eo', heo'⟩ := nm (row fI (pre ++ [x]).flatten)
     have p2 : app 1 eo e1 = some eo' := by
      rw [heo']
      have := F.app' (k := 1) he he1 (fun _ => rfl) hpl
      rw [this]; simp
     have hm' : At (add .i64 m 1) (pre ++ [x]).length := at_len (F.inc hm (by omega)) (by simp)
     have hk2 : ls = (pre ++ [x]) ++ suf := by rw [hk']; simp
     cbv
     rw [F.lt_t hm la (by simp [hk'])]; cbv
     rw [p0]; cbv
     rw [p1]; cbv
     rw [p2]; cbv
     first
      | (refine ih (suf, pre ++ [x], eo', add .i64 m 1, some (e1, false)) ⟨hm', hk2, heo', trivial⟩ (by simp))
      | (rw [p1]; cbv
         rw [p3]
         cases x with
         | nil => cbv; exact ih (suf, pre ++ [[]], eo', add .i64 m 1, some (e1, true)) ⟨hm', hk2, heo', by simp only; rw [List.flatten_append, hg]; rfl⟩ (by simp)
         | cons a x => cbv; exact ih (suf, pre ++ [a :: x], eo', add .i64 m 1, some (e1, false)) ⟨hm', hk2, heo', trivial⟩ (by simp))
 | cons x suf =>
  have hpl : pre.flatten.length + x.length ≤ 1099511627776 := by
   have : ls.flatten.length = pre.flatten.length + (x.length + suf.flatten.length) := by rw [hl']; simp
   omega
  have hpr : pre.length < ls.length := by rw [hl']; simp
  obtain ⟨ix, hix⟩ := nm (pre.length * 1)
  obtain ⟨e1, he1⟩ := nm (row fI x)
  have lx := F.len_at he1
  have p0 : at' 1 ea i = some (ix, [.row () e1]) := by rw [hix, he1]; exact F.get hi hea hl' (fun _ => rfl) (by decide)
  have hb' : At (add .i64 n (len e1)) (pre ++ [x]).flatten.length := by
   unfold At at *
   rw [F.add, hb, lx, wrap64 (by omega) (by omega)]; simp
  have g1 : lt (add .i64 n (len e1)) 0 = false := F.lt_f hb' at0 (Nat.zero_le _)
  have hi' : At (add .i64 i 1) (pre ++ [x]).length := at_len (F.inc hi (by omega)) (by simp)
  have hl2 : ls = (pre ++ [x]) ++ suf := by rw [hl']; simp
  rcases j with _ | _
  all_goals
   cbv
   rw [F.lt_t hi la (by simp [hl'])]; cbv
   rw [p0]; cbv
   rw [g1]; cbv
   exact ih (suf, pre ++ [x], add .i64 n (len e1), add .i64 i 1, some e1) ⟨hi', hl2, hb', by simp⟩ (by simp)
theorem ok284 (k : Int) (l : List Int) (hl : l.length ≤ 1073741824) {f0 : Fl} (q0 : inFl f0 = true) : fix Tb md 284 [I k, R (row fI l) f0] = some ⟨[I (khash k l)], [], none⟩ := by
 obtain ⟨T, hT⟩ := nm (khash k l)
 rw [← hT]
 generalize hr : (⟨_, [], none⟩ : Ret) = r
 obtain ⟨ea, hea⟩ := nm (row fI l)
 rw [← hea]
 obtain ⟨e2, he2⟩ := nm (row fI (k :: l ++ [k]))
 refine fix_fn2 (fn := ir284) tb_284 rfl rfl (by decide) rfl ?_; intro Q hQ; simp only [shutArgs, shutS, List.map_cons, List.map_nil, ir284, shut_in q0, List.head?_nil, reduceCtorEq, if_false, sExt, sHello, sAnswer, sEdit, sDeal, sBox, sDialed, sKnown]
 intro add sub mul arith eq ne lt le gt ge neg conv mn mx not beq len at' ln bd cut app allS isNil mks set o hP F ho
 have c0 : o 304 [R [[.row () [[.int .i64 k]]], [.row () ea], [.row () [[.int .i64 k]]]] (.sp 0 0)] = some ⟨[R e2 (.ow false)], [], none⟩ := by
  rw [ho, he2, hea]
  have := ok304 [[k], l, [k]] (by simp) (by simp; omega) (by simp) (f0 := .sp 0 0) rfl
  simpa [row, fR, fI] using this
 have c1 : o 269 [R e2 (.sp 0 0)] = some ⟨[I T], [], none⟩ := by rw [ho, he2, hT]; exact ok269 _ (by simp; omega) rfl
 cbv
 rw [c0]; cbv
 rw [c1]; cbv
 rw [hQ]; cbv
 exact congrArg some hr
theorem ok144 (k : Int) (l : List (List Int)) (s : Int) (w : l.length ≤ 1048576 ∧ ∀ y ∈ l, y.length ≤ 1048576) {f0 : Fl} (q0 : inFl f0 = true) : fix Tb md 144 [I k, R (row fR l) f0, I s] = some ⟨[I (finV k l s)], [], none⟩ := by
 obtain ⟨a, ha⟩ := nm (vKey k)
 obtain ⟨b, hb⟩ := nm (isTr l)
 obtain ⟨c, hc⟩ := nm (inR s 0 1)
 obtain ⟨n, hn⟩ := nm (thash l)
 obtain ⟨m, hm⟩ := nm (khash k [s, n])
 rw [show finV k l s = if a && b && c then m else 0 by rw [ha, hb, hc, hm, hn]; rfl]
 generalize hr : (⟨_, [], none⟩ : Ret) = r
 obtain ⟨el, hel⟩ := nm (row fR l)
 rw [← hel]
 refine fix_fn2 (fn := ir144) tb_144 rfl rfl (by decide) rfl ?_; intro Q hQ; simp only [shutArgs, shutS, List.map_cons, List.map_nil, ir144, shut_in q0, List.head?_nil, reduceCtorEq, if_false, sExt, sHello, sAnswer, sEdit, sDeal, sBox, sDialed, sKnown]
 intro add sub mul arith eq ne lt le gt ge neg conv mn mx not beq len at' ln bd cut app allS isNil mks set o hP F ho
 have c1 : o 114 [I k] = some ⟨[B a], [], none⟩ := by rw [ho, ha]; exact ok114 ..
 have c2 : o 73 [R el (.sp 0 0)] = some ⟨[B b], [], none⟩ := by rw [ho, hb, hel]; exact ok73 _ w rfl
 have c3 : o 232 [I s, I 0, I 1] = some ⟨[B c], [], none⟩ := by rw [ho, hc]; exact ok232 ..
 have c4 : o 121 [R el (.sp 0 0)] = some ⟨[I n], [], none⟩ := by rw [ho, hn, hel]; exact ok121 _ w rfl
 have c5 : o 284 [I k, R [[.int .i64 s], [.int .i64 n]] (.sp 1 0)] = some ⟨[I m], [], none⟩ := by rw [ho, hm]; exact ok284 k [s, n] (by simp) rfl
 cbv
 rw [c1]; cbv
 refine both (fun d1 => ?_) (fun d1 => ?_) <;> rw [d1] <;> cbv
 ·rw [hQ]; cbv
  rw [← hr, F.not_t d1]; rfl
 rw [c2]; cbv
 refine both (fun d2 => ?_) (fun d2 => ?_) <;> rw [d2] <;> cbv
 ·rw [hQ]; cbv
  rw [← hr, F.not_f d1, F.not_t d2]; rfl
 rw [c3]; cbv
 refine both (fun d3 => ?_) (fun d3 => ?_) <;> rw [d3] <;> cbv
 ·rw [hQ]; cbv
  rw [← hr, F.not_f d1, F.not_f d2, F.not_t d3]; rfl
 rw [c4]; cbv
 rw [c5]; cbv
 rw [hQ]; cbv
 rw [← hr, F.not_f d1, F.not_f d2, F.not_f d3]; rfl
theorem ok146 (k : Int) (l : List (List Int)) (s f : Int) (w : l.length ≤ 1048576 ∧ ∀ y ∈ l, y.length ≤ 1048576) {f0 : Fl} (q0 : inFl f0 = true) : fix Tb md 146 [I k, R (row fR l) f0, I s, I f] = some ⟨[B (chkV k l s f)], [], none⟩ := by
 obtain ⟨n, hn⟩ := nm (finV k l s)
 obtain ⟨a, ha⟩ := nm (decide (f = 0))
 obtain ⟨b, hb⟩ := nm (decide (n = f))
 rw [show chkV k l s f = (!a && b) by rw [ha, hb, hn]; rfl]
 generalize hr : (⟨_, [], none⟩ : Ret) = r
 obtain ⟨el, hel⟩ := nm (row fR l)
 rw [← hel]
 refine fix_fn2 (fn := ir146) tb_146 rfl rfl (by decide) rfl ?_; intro Q hQ; simp only [shutArgs, shutS, List.map_cons, List.map_nil, ir146, shut_in q0, List.head?_nil, reduceCtorEq, if_false, sExt, sHello, sAnswer, sEdit, sDeal, sBox, sDialed, sKnown]
 intro add sub mul arith eq ne lt le gt ge neg conv mn mx not beq len at' ln bd cut app allS isNil mks set o hP F ho
 have c1 : o 144 [I k, R el (.sp 1 0), I s] = some ⟨[I n], [], none⟩ := by rw [ho, hn, hel]; exact ok144 k l s w rfl
 have g1 : ne f 0 = !a := by rw [F.ne, ha]; simp
 have g2 : eq f n = b := by rw [F.eq, hb]; simp [eq_comm]
 cbv
 rw [g1]
 refine both (fun d1 => ?_) (fun d1 => ?_) <;> rw [d1] <;> cbv
 ·rw [c1]; cbv
  rw [g2]; cbv
  rw [hQ]; cbv
  rw [← hr, d1]; rfl
 ·rw [hQ]; cbv
  rw [← hr, d1]; rfl
theorem ok118 (v : Int) (l : List Ext) (hl : l.length ≤ 1099511627776) (w : ∀ y ∈ l, y.body.length ≤ 1099511627776) {f0 : Fl} (h0 : inFl f0 = true) : fix Tb md 118 [sAnswer v (row fExt l) f0] = some ⟨[B (isAns v l)], [], none⟩ := by
 obtain ⟨a, ha⟩ := nm (inR v 1 9)
 obtain ⟨b, hb⟩ := nm (areEx l)
 rw [show isAns v l = (a && b) by rw [ha, hb]; rfl]
 generalize hr : (⟨_, [], none⟩ : Ret) = r
 obtain ⟨ea, hea⟩ := nm (row fExt l)
 rw [← hea]
 refine fix_fn2 (fn := ir118) tb_118 rfl rfl (by decide) rfl ?_; intro Q hQ; simp only [shutArgs, shutS, List.map_cons, List.map_nil, ir118, shut_in h0, List.head?_nil, reduceCtorEq, if_false, sExt, sHello, sAnswer, sEdit, sDeal, sBox, sDialed, sKnown]
 intro add sub mul arith eq ne lt le gt ge neg conv mn mx not beq len at' ln bd cut app allS isNil mks set o hP F ho
 have c1 : o 232 [I v, I 1, I 9] = some ⟨[B a], [], none⟩ := by rw [ho, ha]; exact ok232 ..
 have c2 : o 258 [R ea (.sp 0 0)] = some ⟨[B b], [], none⟩ := by rw [ho, hb, hea]; exact ok258 _ hl w rfl
 cbv
 rw [c1]; cbv
 refine both (fun d1 => ?_) (fun d1 => ?_) <;> rw [d1] <;> cbv
 ·rw [c2]; cbv
  rw [hQ]; cbv
  rw [← hr, d1]; rfl
 ·rw [hQ]; cbv
  rw [← hr, d1]; rfl
theorem ok294 (l : List Ext) (hok : areEx l = true) {f0 : Fl} (h0 : inFl f0 = true) : fix Tb md 294 [R (row fExt l) f0] = some ⟨[R (row fI (encX l)) (.ow false), B true], [], none⟩ := by
 obtain ⟨hl, hw⟩ := areEx_all hok
 obtain ⟨et, het⟩ := nm (row fI (encX l))
 rw [← het]
 generalize hr : (⟨_, [], none⟩ : Ret) = r
 obtain ⟨ea, hea⟩ := nm (row fExt l)
 rw [← hea]
 obtain ⟨nl, hnl⟩ := nm ((l.length : Int))
 obtain ⟨e0, he0⟩ := nm (row fI [nl])
 have hen : encX l = nl :: l.flatMap exI := by rw [hnl]; rfl
 refine fix_fn2 (fn := ir294) tb_294 rfl rfl (by decide) rfl ?_; intro Q hQ; simp only [shutArgs, shutS, List.map_cons, List.map_nil, ir294, shut_in h0, List.head?_nil, reduceCtorEq, if_false, sExt, sHello, sAnswer, sEdit, sDeal, sBox, sDialed, sKnown]
 intro add sub mul arith eq ne lt le gt ge neg conv mn mx not beq len at' ln bd cut app allS isNil mks set o hP F ho
 have la := F.len_at hea
 have lna : len ea = nl := by rw [hnl]; exact la
 have la' : At nl l.length := hnl
 have c1 : o 258 [R ea (.sp 0 0)] = some ⟨[B true], [], none⟩ := by rw [ho, hea, ← hok]; exact ok258 _ (by omega) (fun y hy => by have := (hw y hy).1; omega) rfl
 cbv
 rw [c1]; cbv
 rw [show not true = false by rw [F.not]; rfl]; cbv
 rw [lna]
 refine loop_ind2 hP (σ := List Ext × List Ext × List (List V) × Int × Option (Int × List (List V))) (fun s => match s.2.2.2.2 with | none => [(0, R ea .sh), (2, R [] .nl), (3, B false), (4, R s.2.2.1 (.ow false)), (13, R ea .sh), (14, I nl), (15, I s.2.2.2.1)] | some j => [(0, R ea .sh), (2, R [] .nl), (3, B false), (4, R s.2.2.1 (.ow false)), (6, ⟨.ptr 38 0, []⟩), (13, R ea .sh), (14, I nl), (15, I s.2.2.2.1), (38, ⟨.box (), [⟨.int .i64 j.1, .sc⟩, ⟨.row () j.2, .sh⟩]⟩)]) (fun s => At s.2.2.2.1 s.2.1.length ∧ l = s.2.1 ++ s.1 ∧ s.2.2.1 = row fI (nl :: s.2.1.flatMap exI)) (fun s => s.1.length) (l, [], [[.int .i64 nl]], 0, none) rfl ⟨rfl, rfl, rfl⟩ ?_
 intro c1 Q1 hc1 hQ1
 rintro ⟨suf, pre, eo, i, j⟩ ⟨hi, hl', hb⟩ ih
 simp only at hi hl' hb ih
 have hpre : pre.length ≤ 6 := by rw [hl'] at hl; simp at hl; omega
 have hfl : (pre.flatMap exI).length ≤ 36 := by have := exI_len (l := pre) (fun y hy => (hw y (by rw [hl']; simp [hy])).1); omega
 rcases j with _ | ⟨j1, j2⟩
 all_goals
  cbv
  cases suf with
  | nil =>
   rw [F.lt_f hi la' (by simp [hl'])]; cbv
   rw [hQ1]; cbv
   rw [hQ]; cbv
   rw [← hr, het, hb, hen, hl', List.append_nil]
  | cons x suf =>
   obtain ⟨ix, hix⟩ := nm (pre.length * 2)
   obtain ⟨e1, he1⟩ := nm (row fI x.body)
   obtain ⟨nb, hnb⟩ := nm ((x.body.length : Int))
   have hx := (hw x (by rw [hl']; simp)).1
   have hxi : exI x = x.tag :: nb :: x.body := by rw [hnb]; rfl
   have p0 : at' 2 ea i = some (ix, [.int .i64 x.tag, .row () e1]) := by rw [hix, he1]; exact F.get hi hea hl' (fun _ => rfl) (by decide)
   have l1 : len e1 = nb := by rw [hnb]; exact F.len_at he1
   obtain ⟨eo1, heo1⟩ := nm (row fI (nl :: pre.flatMap exI ++ [x.tag, nb]))
   obtain ⟨eo2, heo2⟩ := nm (row fI (nl :: (pre ++ [x]).flatMap exI))
   have q1 : app 1 eo [[.int .i64 x.tag], [.int .i64 nb]] = some eo1 := by
    have h := F.app' (f := fI) (k := 1) (e2 := [[.int .i64 x.tag], [.int .i64 nb]]) (l2 := [x.tag, nb]) hb rfl (fun _ => rfl) (by simp only [List.length_cons, List.length_append, List.length_nil]; omega)
    rw [h, heo1]
   have q2 : app 1 eo1 e1 = some eo2 := by
    have h := F.app' (f := fI) (k := 1) heo1 he1 (fun _ => rfl) (by simp only [List.length_cons, List.length_append, List.length_nil]; omega)
    rw [h, heo2, List.flatMap_append, List.flatMap_cons, hxi]; simp
   have q3 : allS [[.int .i64 x.tag], [.int .i64 nb]] = true := by rw [F.allS]; rfl
   have q4 : allS e1 = true := F.scal he1 (fun _ => rfl)
   rw [F.lt_t hi la' (by simp [hl'])]; cbv
   rw [p0]; cbv
   repeat' (first | (rw [p0]; cbv) | (rw [l1]; cbv) | (rw [q1]; cbv) | (rw [q2]; cbv) | (rw [q3]; cbv) | (rw [q4]; cbv))
   refine ih (suf, pre ++ [x], eo2, add .i64 i 1, some (x.tag, e1)) ⟨at_len (F.inc hi (by omega)) (by simp), by simp [hl'], heo2⟩ (by simp)
theorem ok152 (a : Answer) (hl : a.exts.length ≤ 1099511627776) (w : ∀ y ∈ a.exts, y.body.length ≤ 1099511627776) {f0 : Fl} (h0 : inFl f0 = true) : fix Tb md 152 [sAnswer a.version (row fExt a.exts) f0] = some ⟨[R (row fI (ansB a)) (.ow false)], [], none⟩ ∨ (ansB a = [] ∧ fix Tb md 152 [sAnswer a.version (row fExt a.exts) f0] = some ⟨[R [] .nl], [], none⟩) := by
 obtain ⟨u, hu⟩ := nm (isAns a.version a.exts)
 cases hu2 : u with
 | true =>
  rw [hu2] at hu
  have hok : areEx a.exts = true := by unfold isAns at hu; cases h : areEx a.exts with | true => rfl | false => rw [h, Bool.and_false] at hu; exact Bool.noConfusion hu
  refine .inl ?_
  obtain ⟨et, het⟩ := nm (row fI (ansB a))
  rw [← het]
  generalize hr : (⟨_, [], none⟩ : Ret) = r
  obtain ⟨ea, hea⟩ := nm (row fExt a.exts)
  rw [← hea]
  obtain ⟨ex, hex⟩ := nm (row fI (encX a.exts))
  have hlen := encX_len hok
  refine fix_fn2 (fn := ir152) tb_152 rfl rfl (by decide) rfl ?_; intro Q hQ; simp only [shutArgs, shutS, List.map_cons, List.map_nil, ir152, shut_in h0, List.head?_nil, reduceCtorEq, if_false, sExt, sHello, sAnswer, sEdit, sDeal, sBox, sDialed, sKnown]
  intro add sub mul arith eq ne lt le gt ge neg conv mn mx not beq len at' ln bd cut app allS isNil mks set o hP F ho
  have c1 : o 118 [sAnswer a.version ea (.sp 0 1)] = some ⟨[B true], [], none⟩ := by rw [ho, hu, hea]; exact ok118 _ _ hl w rfl
  have c2 : o 294 [R ea (.sp 0 0)] = some ⟨[R ex (.ow false), B true], [], none⟩ := by rw [ho, hea, hex]; exact ok294 _ hok rfl
  have q1 : app 1 [[.int .i64 a.version]] ex = some et := by
   have h := F.app' (f := fI) (k := 1) (e1 := [[.int .i64 a.version]]) (l1 := [a.version]) rfl hex (fun _ => rfl) (by simp; omega)
   rw [h, het, ansB, ← hu, if_pos rfl]; rfl
  have q2 : allS ex = true := F.scal hex (fun _ => rfl)
  cbv
  rw [c1]; cbv
  rw [show not true = false by rw [F.not]; rfl]; cbv
  rw [c2]; cbv
  rw [q2]; cbv
  rw [q1]; cbv
  rw [hQ]; cbv
  exact congrArg some hr
 | false =>
  rw [hu2] at hu
  refine .inr ⟨by rw [ansB, ← hu]; rfl, ?_⟩
  generalize hr : (⟨_, [], none⟩ : Ret) = r
  obtain ⟨ea, hea⟩ := nm (row fExt a.exts)
  rw [← hea]
  refine fix_fn2 (fn := ir152) tb_152 rfl rfl (by decide) rfl ?_; intro Q hQ; simp only [shutArgs, shutS, List.map_cons, List.map_nil, ir152, shut_in h0, List.head?_nil, reduceCtorEq, if_false, sExt, sHello, sAnswer, sEdit, sDeal, sBox, sDialed, sKnown]
  intro add sub mul arith eq ne lt le gt ge neg conv mn mx not beq len at' ln bd cut app allS isNil mks set o hP F ho
  have c1 : o 118 [sAnswer a.version ea (.sp 0 1)] = some ⟨[B false], [], none⟩ := by rw [ho, hu, hea]; exact ok118 _ _ hl w rfl
  cbv
  rw [c1]; cbv
  rw [show not false = true by rw [F.not]; rfl]; cbv
  rw [hQ]; cbv
  exact congrArg some hr
theorem ok289 (y : Ext) (h : Hello) (hl2 : h.exts.length ≤ 1099511627776) (w2 : ∀ y ∈ h.exts, y.body.length ≤ 1099511627776) {f0 : Fl} (h0 : inFl f0 = true) : fix Tb md 289 [sExt y.tag (row fI y.body) f0, ⟨.val, [⟨.ptr () [.row () (row fI h.versions), .row () (row fExt h.exts)], .sh⟩]⟩] = some ⟨[B (!bodyOk h.exts y)], [], none⟩ := by
 obtain ⟨u, hu⟩ := nm (bodyOk h.exts y)
 generalize hr : (⟨_, [], none⟩ : Ret) = r
 obtain ⟨e1, he1⟩ := nm (row fI y.body)
 obtain ⟨dv, hdv⟩ := nm (row fI h.versions)
 obtain ⟨dx, hdx⟩ := nm (row fExt h.exts)
 rw [← he1, ← hdv, ← hdx]
 obtain ⟨v, hvv⟩ := nm (extOf h.exts y.tag)
 rcases extOf_find h.exts y.tag with ⟨n1, n2⟩ | ⟨p', d, s', n1, n2, n3, n4⟩
 ·refine fix_fn2 (fn := ir289) tb_289 rfl rfl (by decide) rfl ?_; intro Q hQ; simp only [shutArgs, shutS, List.map_cons, List.map_nil, ir289, shut_in h0, List.head?_nil, reduceCtorEq, if_false, sExt, sHello, sAnswer, sEdit, sDeal, sBox, sDialed, sKnown]
  intro add sub mul arith eq ne lt le gt ge neg conv mn mx not beq len at' ln bd cut app allS isNil mks set o hP F ho
  have hu' : u = false := by rw [hu, bodyOk, n1]
  have c3 : o 290 [R dx (.sp 0 0), I y.tag] = some ⟨[I v], [], none⟩ := by rw [ho, hvv, hdx]; exact ok290 _ _ hl2 rfl
  have g1 : lt v 0 = true := by rw [F.lt, hvv, n2]; rfl
  cbv
  rw [c3]; cbv
  rw [g1]; cbv
  rw [hQ]; cbv
  rw [← hr, ← hu, hu']; rfl
 ·obtain ⟨e2, he2⟩ := nm (row fI d.body)
  obtain ⟨iy, hiy⟩ := nm (p'.length * 2)
  refine fix_fn2 (fn := ir289) tb_289 rfl rfl (by decide) rfl ?_; intro Q hQ; simp only [shutArgs, shutS, List.map_cons, List.map_nil, ir289, shut_in h0, List.head?_nil, reduceCtorEq, if_false, sExt, sHello, sAnswer, sEdit, sDeal, sBox, sDialed, sKnown]
  intro add sub mul arith eq ne lt le gt ge neg conv mn mx not beq len at' ln bd cut app allS isNil mks set o hP F ho
  have c3 : o 290 [R dx (.sp 0 0), I y.tag] = some ⟨[I v], [], none⟩ := by rw [ho, hvv, hdx]; exact ok290 _ _ hl2 rfl
  have g1 : lt v 0 = false := by rw [F.lt, hvv]; simp; exact n3
  rw [← hvv] at n2
  have p1 : at' 2 dx v = some (iy, [.int .i64 d.tag, .row () e2]) := by rw [hiy, he2]; exact F.get n2 hdx n1 (fun _ => rfl) (by decide)
  have hu' : decide (d = y) = u := by
   rw [hu, bodyOk, n4]
   have ht : d.tag = y.tag := by have := List.find?_some n4; simpa [tagP] using this
   simp [Ext.eq_iff, ht]
  have c4 : o 291 [sExt d.tag e2 (.sp 0 1), sExt y.tag e1 (.sp 1 1)] = some ⟨[B u], [], none⟩ := by rw [ho, ← hu', he1, he2]; exact ok291 _ _ (w2 d (by rw [n1]; simp)) rfl rfl
  cbv
  rw [c3]; cbv
  rw [g1]; cbv
  rw [p1]; cbv
  rw [c4]; cbv
  rw [hQ]; cbv
  rw [← hr, F.not, ← hu]
theorem notIn_nil (a b : List Int) : decide ((sel (notIn b) idI a).length = 0) = a.all (hasI b) := by
 rw [sel_idI]
 induction a with
 | nil => rfl
 | cons x a ih =>
  rw [List.filter_cons, List.all_cons, notIn]
  cases h : hasI b x with
  | true => simpa using ih
  | false => simp
theorem ok148 (x h : Hello) (hvx : x.versions.length ≤ 1073741824) (hv2 : h.versions.length ≤ 1073741824) (hl : x.exts.length ≤ 1099511627776) (hl2 : h.exts.length ≤ 1099511627776) (w : ∀ y ∈ x.exts, y.body.length ≤ 1099511627776) (w2 : ∀ y ∈ h.exts, y.body.length ≤ 1099511627776) {f0 f1 f2 f3 : Fl} (q0 : inFl f0 = true) (q1 : inFl f1 = true) (q2 : inFl f2 = true) (q3 : inFl f3 = true) : fix Tb md 148 [sHello (row fI x.versions) (row fExt x.exts) f0 f1, sHello (row fI h.versions) (row fExt h.exts) f2 f3] = some ⟨[B (isPart x h)], [], none⟩ := by
 obtain ⟨T1, hT1⟩ := nm (x.versions.all (hasI h.versions))
 obtain ⟨T3, hT3⟩ := nm (x.exts.any fun y => !bodyOk h.exts y)
 have e : isPart x h = (T1 && !T3) := by rw [hT1, hT3, isPart, List.all_eq_not_any_not (l := x.exts)]
 rw [e]
 generalize hr : (⟨_, [], none⟩ : Ret) = r
 obtain ⟨ev, hev⟩ := nm (row fI x.versions)
 obtain ⟨ex, hex⟩ := nm (row fExt x.exts)
 obtain ⟨dv, hdv⟩ := nm (row fI h.versions)
 obtain ⟨dx, hdx⟩ := nm (row fExt h.exts)
 rw [← hev, ← hex, ← hdv, ← hdx]
 obtain ⟨ew, hew⟩ := nm (row fI (sel (notIn h.versions) idI x.versions))
 refine fix_fn2 (fn := ir148) tb_148 rfl rfl (by decide) rfl ?_; intro Q hQ; simp only [shutArgs, shutS, List.map_cons, List.map_nil, ir148, shut_in q0, shut_in q1, shut_in q2, shut_in q3, List.head?_nil, reduceCtorEq, if_false, sExt, sHello, sAnswer, sEdit, sDeal, sBox, sDialed, sKnown]
 intro add sub mul arith eq ne lt le gt ge neg conv mn mx not beq len at' ln bd cut app allS isNil mks set o hP F ho
 have lw := F.len_at hew
 have c1 : o 287 [R ev (.sp 0 0), R dv (.sp 1 0)] = some ⟨[R ew (.ow false)], [], none⟩ := by rw [ho, hew, hev, hdv]; exact ok287 _ _ hvx hv2 rfl rfl
 have g1 : eq (len ew) 0 = T1 := by rw [F.eq_n lw (k := 0) (m := 0) rfl, hT1]; exact notIn_nil _ _
 have c2 : o 288 [R ex (.sp 0 0), ⟨.val, [⟨.fn 289 [.ptr () [.row () dv, .row () dx]], .sh⟩]⟩] = some ⟨[B T3], [], none⟩ := by
  rw [ho, hT3, hex, hdv, hdx]; exact ok288_1 289 rfl _ (fun y => !bodyOk h.exts y) x.exts hl (fun y _ => ok289 y h hl2 w2 rfl) rfl
 cbv
 rw [c1]; cbv
 rw [g1]; cbv
 refine both (fun d1 => ?_) (fun d1 => ?_) <;> rw [d1] <;> cbv
 ·rw [c2]; cbv
  rw [hQ]; cbv
  rw [← hr, F.not, d1]; rfl
 ·rw [hQ]; cbv
  rw [← hr, d1]; rfl
theorem ok337 (t : Int) : fix Tb md 337 [I t] = some ⟨[B (resv t)], [], none⟩ := by
 obtain ⟨a, ha⟩ := nm (inR t 0 255)
 obtain ⟨n, hn⟩ := nm (Int.tmod t 16)
 obtain ⟨b, hb⟩ := nm (decide (n = 10))
 rw [show resv t = (a && b) by rw [ha, hb, hn]; rfl]
 generalize hr : (⟨_, [], none⟩ : Ret) = r
 refine fix_fn2 (fn := ir337) tb_337 rfl rfl (by decide) rfl ?_; intro Q hQ; simp only [shutArgs, shutS, List.map_cons, List.map_nil, ir337, List.head?_nil, reduceCtorEq, if_false, sExt, sHello, sAnswer, sEdit, sDeal, sBox, sDialed, sKnown]
 intro add sub mul arith eq ne lt le gt ge neg conv mn mx not beq len at' ln bd cut app allS isNil mks set o hP F ho
 have c1 : o 232 [I t, I 0, I 255] = some ⟨[B a], [], none⟩ := by rw [ho, ha]; exact ok232 ..
 have g1 : arith .rem .i64 t 16 = some (.int .i64 n) := by rw [F.arith, hn]; rfl
 have g2 : eq n 10 = b := by rw [F.eq, hb]
 cbv
 rw [c1]; cbv
 refine both (fun d => ?_) (fun d => ?_) <;> rw [d] <;> cbv
 ·rw [g1]; cbv
  rw [hQ]; cbv
  rw [g2, ← hr, d]; rfl
 ·rw [hQ]; cbv
  rw [← hr, d]; rfl
theorem ok223 (l : List Int) (hl : l.length ≤ 1099511627776) {f0 : Fl} (h0 : inFl f0 = true) : fix Tb md 223 [R (row fI l) f0] = some ⟨[B (l.any resv)], [], none⟩ := by
 obtain ⟨v, hv⟩ := nm (l.any resv)
 rw [← hv]
 generalize hr : (⟨_, [], none⟩ : Ret) = r
 obtain ⟨ea, hea⟩ := nm (row fI l)
 rw [← hea]
 refine fix_fn2 (fn := ir223) tb_223 rfl rfl (by decide) rfl ?_; intro Q hQ; simp only [shutArgs, shutS, List.map_cons, List.map_nil, ir223, shut_in h0, List.head?_nil, reduceCtorEq, if_false, sExt, sHello, sAnswer, sEdit, sDeal, sBox, sDialed, sKnown]
 intro add sub mul arith eq ne lt le gt ge neg conv mn mx not beq len at' ln bd cut app allS isNil mks set o hP F ho
 have c1 : o 336 [R ea (.sp 0 0), ⟨.val, [⟨.fn 337 [], .sh⟩]⟩] = some ⟨[B v], [], none⟩ := by rw [ho, hv, hea]; exact ok336_0 337 rfl resv l hl (fun x _ => ok337 x) rfl
 cbv
 rw [c1]; cbv
 rw [hQ]; cbv
 exact congrArg some hr
theorem ok303 (l : List Ext) (hl : l.length ≤ 1073741824) {f0 : Fl} (h0 : inFl f0 = true) : fix Tb md 303 [R (row fExt l) f0] = some ⟨[B ((tags l).any resv)], [], none⟩ := by
 obtain ⟨v, hv⟩ := nm ((tags l).any resv)
 rw [← hv]
 have ht : (tags l).length ≤ l.length := sel_len
 generalize hr : (⟨_, [], none⟩ : Ret) = r
 obtain ⟨ea, hea⟩ := nm (row fExt l)
 rw [← hea]
 obtain ⟨et, het⟩ := nm (row fI (tags l))
 refine fix_fn2 (fn := ir303) tb_303 rfl rfl (by decide) rfl ?_; intro Q hQ; simp only [shutArgs, shutS, List.map_cons, List.map_nil, ir303, shut_in h0, List.head?_nil, reduceCtorEq, if_false, sExt, sHello, sAnswer, sEdit, sDeal, sBox, sDialed, sKnown]
 intro add sub mul arith eq ne lt le gt ge neg conv mn mx not beq len at' ln bd cut app allS isNil mks set o hP F ho
 have c1 : o 179 [R ea (.sp 0 0)] = some ⟨[R et (.ow false)], [], none⟩ := by rw [ho, het, hea]; exact ok179 _ hl rfl
 have c2 : o 223 [R et (.sp 0 0)] = some ⟨[B v], [], none⟩ := by rw [ho, hv, het]; exact ok223 _ (by omega) rfl
 cbv
 rw [c1]; cbv
 rw [c2]; cbv
 rw [hQ]; cbv
 exact congrArg some hr
end Go.Vm
