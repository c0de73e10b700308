/- What the functions answer. -/
import Derived.Test.YtijojkfdbpiimaaGreatGCTab
import Derived.Test.YtijojkfdbpiimaaGreatGCFA
import Derived.Test.YtijojkfdbpiimaaGreatGCFB
import Derived.Test.YtijojkfdbpiimaaGreatGCFC
import Derived.Test.YtijojkfdbpiimaaGreatGCFD
set_option maxHeartbeats 4000000
set_option maxRecDepth 10000
set_option linter.unusedVariables false
set_option linter.unusedSimpArgs false
namespace Go.Vm
theorem ok324 (l : List Int) (n : Int) (hl : l.length ≤ 1073741824) {f0 : Fl} (q0 : inFl f0 = true) : fix Tb md 324 [R (row fI l) f0, I n] = some ⟨[R (row fI (avV l n)) (.ow false), B (avOk l n)], [], none⟩ := by
 obtain ⟨u, hu⟩ := nm (areVer l)
 obtain ⟨v, hv⟩ := nm (inR n 1 9)
 obtain ⟨w, hw⟩ := nm (hasI l n)
 obtain ⟨W, hW⟩ := nm (avOk l n)
 obtain ⟨et, het⟩ := nm (row fI (avV l n))
 rw [← hW, ← het]
 have hW' : W = (u && v && !w) := by rw [hW, hu, hv, hw]; rfl
 have hT1 : W = true → et = row fI (l4V l n) := fun h => by rw [het, avV, ← hW, h]; rfl
 have hT2 : W = false → et = row fI l := fun h => by rw [het, avV, ← hW, h]; rfl
 clear hW het
 generalize hr : (⟨_, [], none⟩ : Ret) = r
 obtain ⟨ea, hea⟩ := nm (row fI l)
 rw [← hea]
 rw [← hea] at hT2
 obtain ⟨es, hes⟩ := nm (row fI (l4V l n))
 rw [← hes] at hT1
 refine fix_fn2 (fn := ir324) tb_324 rfl rfl (by decide) rfl ?_; intro Q hQ; simp only [shutArgs, shutS, List.map_cons, List.map_nil, ir324, shut_in q0, List.head?_nil, reduceCtorEq, if_false, sExt, sHello, sAnswer, sEdit, sDeal, sBox, sDialed, sKnown]
 intro add sub mul arith eq ne lt le gt ge neg conv mn mx not beq len at' ln bd cut app allS isNil mks set o hP F ho
 have c1 : o 257 [R ea (.sp 0 0)] = some ⟨[B u], [], none⟩ := by rw [ho, hu, hea]; exact ok257 _ (by omega) rfl
 have c2 : o 230 [I n, I 1, I 9] = some ⟨[B v], [], none⟩ := by rw [ho, hv]; exact ok230 ..
 have c3 : o 285 [R ea (.sp 0 0), I n] = some ⟨[B w], [], none⟩ := by rw [ho, hw, hea]; exact ok285 _ _ (by omega) rfl
 have g2 : allS ea = true := F.scal hea (fun _ => rfl)
 have g3 : app 1 [] ea = some ea := F.app_nil hea (fun _ => rfl) (by omega)
 cbv
 rw [c1]; cbv
 refine both (fun d1 => ?_) (fun d1 => ?_) <;> rw [d1] <;> cbv
 ·rw [g2]; cbv
  rw [g3]; cbv
  rw [hQ]; cbv
  rw [F.not_t d1] at hW'
  rw [← hr, hW', hT2 hW']; rfl
 rw [c2]; cbv
 refine both (fun d2 => ?_) (fun d2 => ?_) <;> rw [d2] <;> cbv
 ·rw [g2]; cbv
  rw [g3]; cbv
  rw [hQ]; cbv
  rw [F.not_f d1, F.not_t d2] at hW'
  rw [← hr, hW', hT2 hW']; rfl
 rw [c3]; cbv
 refine both (fun d3 => ?_) (fun d3 => ?_) <;> rw [d3] <;> cbv
 ·rw [g2]; cbv
  rw [g3]; cbv
  rw [hQ]; cbv
  rw [F.not_f d1, F.not_f d2, d3] at hW'
  rw [← hr, hW', hT2 hW']; rfl
 rw [F.not_f d1, F.not_f d2, d3] at hW'
 have c4 : o 345 [R ea (.sp 0 0), I n] = some ⟨[R es (.ow false)], [], none⟩ := by rw [ho, hes, hea]; exact ok345 _ _ hl rfl
 rw [c4]; cbv
 rw [hQ]; cbv
 rw [← hr, hW', hT1 hW']; rfl
theorem ok209 (h : Hello) (e : Edit) (q : hB h 1073741823 1073741823) {f0 f1 : Fl} (q0 : inFl f0 = true) (q1 : inFl f1 = true) : fix Tb md 209 [sHello (row fI h.versions) (row fExt h.exts) f0 f1, sEdit e.kind e.n] = some ⟨[sHello (row fI (editH h e).versions) (row fExt (editH h e).exts) (.ow false) (.ow false)], [], none⟩ := by
 obtain ⟨hvl, hxl, wm⟩ := q
 have mh : h.Mid := ⟨by omega, by omega, wm⟩
 have wh : ∀ y ∈ h.exts, y.body.length ≤ 1099511627776 := fun y hy => Nat.le_trans (wm y hy) (by decide)
 have wx : ∀ y ∈ ehX h e.n, y.body.length ≤ 1099511627776 := fun y hy => by
  simp only [ehX] at hy
  rcases List.mem_append.1 hy with hy | hy
  ·exact wh y hy
  ·simp at hy; subst hy; simp
 obtain ⟨k, hk⟩ := nm e.kind
 obtain ⟨n, hn⟩ := nm e.n
 obtain ⟨z, hz⟩ := nm (editH h e)
 obtain ⟨u, hu⟩ := nm (areEx (ehX h n))
 have hv : z = if k = 1 then ⟨dvV h.versions n, h.exts⟩ else if k = 2 then ⟨avV h.versions n, h.exts⟩ else if k = 3 then ⟨h.versions, sel (notTag n) idE h.exts⟩ else if k = 6 then (if u = true then ⟨h.versions, ehX h n⟩ else h) else h := by rw [hz, hk, hu, hn]; rfl
 rw [← hk, ← hn, ← hz]
 rw [← hn] at wx
 clear hz hk hn
 have hc : k = 1 ∨ k = 2 ∨ k = 3 ∨ k = 6 ∨ (k ≠ 1 ∧ k ≠ 2 ∧ k ≠ 3 ∧ k ≠ 6) := by omega
 have k1 := ok279 h mh (f0 := .sp 0 0) (f1 := .sp 0 1) rfl rfl
 have k2 := ok323 h.versions n (by omega) (f0 := .sp 0 0) rfl
 have k3 := ok324 h.versions n (by omega) (f0 := .sp 0 0) rfl
 have k4 := ok295 h.exts (by omega) wh (f0 := .sp 0 0) rfl
 have k5 := ok271 (ehX h n) (by simp [ehX]; omega) wx (f0 := .sp 0 0) rfl
 have k6 := ok296 h.exts n (by omega) wh (f0 := .sp 0 0) rfl
 rw [← hu] at k5
 obtain ⟨w1, hw1⟩ := nm (dvOk h.versions n)
 obtain ⟨w2, hw2⟩ := nm (avOk h.versions n)
 rw [← hw1] at k2
 rw [← hw2] at k3
 clear hw1 hw2
 obtain ⟨dv, hdv⟩ := nm (row fI h.versions)
 obtain ⟨dx, hdx⟩ := nm (row fExt h.exts)
 obtain ⟨ed, hed⟩ := nm (row fI (dvV h.versions n))
 obtain ⟨ea, hea⟩ := nm (row fI (avV h.versions n))
 obtain ⟨es, hes⟩ := nm (row fExt (sel (notTag n) idE h.exts))
 obtain ⟨ex, hex⟩ := nm (row fExt (ehX h n))
 rw [← hdv, ← hdx] at k1 ⊢
 rw [← hdv, ← hed] at k2
 rw [← hdv, ← hea] at k3
 rw [← hdx] at k4
 rw [← hdx, ← hes] at k6
 rw [← hex] at k5
 rcases hc with rfl | rfl | rfl | rfl | ⟨n1, n2, n3, n6⟩
 ·have hv' : z = ⟨dvV h.versions n, h.exts⟩ := by rw [hv, if_pos rfl]
  rw [hv']
  simp only
  rw [← hed, ← hdx]
  generalize hr : (⟨_, [], none⟩ : Ret) = r
  refine fix_fn2 (fn := ir209) tb_209 rfl rfl (by decide) rfl ?_; intro Q hQ; simp only [shutArgs, shutS, List.map_cons, List.map_nil, ir209, shut_in q0, shut_in q1, List.head?_nil, reduceCtorEq, if_false, sExt, sHello, sAnswer, sEdit, sDeal, sBox, sDialed, sKnown]
  intro add sub mul arith eq ne lt le gt ge neg conv mn mx not beq len at' ln bd cut app allS isNil mks set o hP F ho
  rw [← ho] at k1 k2
  cbv
  rw [k1]; cbv
  rw [F.eq_t rfl]; cbv
  rw [k2]; cbv
  rw [hQ]; cbv
  exact congrArg some hr
 ·have hv' : z = ⟨avV h.versions n, h.exts⟩ := by rw [hv, if_neg (by decide), if_pos rfl]
  rw [hv']
  simp only
  rw [← hea, ← hdx]
  generalize hr : (⟨_, [], none⟩ : Ret) = r
  refine fix_fn2 (fn := ir209) tb_209 rfl rfl (by decide) rfl ?_; intro Q hQ; simp only [shutArgs, shutS, List.map_cons, List.map_nil, ir209, shut_in q0, shut_in q1, List.head?_nil, reduceCtorEq, if_false, sExt, sHello, sAnswer, sEdit, sDeal, sBox, sDialed, sKnown]
  intro add sub mul arith eq ne lt le gt ge neg conv mn mx not beq len at' ln bd cut app allS isNil mks set o hP F ho
  rw [← ho] at k1 k3
  cbv
  rw [k1]; cbv
  rw [F.eq_f (i := 2) (j := 1) (by decide)]; cbv
  rw [F.eq_t rfl]; cbv
  rw [k3]; cbv
  rw [hQ]; cbv
  exact congrArg some hr
 ·have hv' : z = ⟨h.versions, sel (notTag n) idE h.exts⟩ := by rw [hv, if_neg (by decide), if_neg (by decide), if_pos rfl]
  rw [hv']
  simp only
  rw [← hdv, ← hes]
  generalize hr : (⟨_, [], none⟩ : Ret) = r
  refine fix_fn2 (fn := ir209) tb_209 rfl rfl (by decide) rfl ?_; intro Q hQ; simp only [shutArgs, shutS, List.map_cons, List.map_nil, ir209, shut_in q0, shut_in q1, List.head?_nil, reduceCtorEq, if_false, sExt, sHello, sAnswer, sEdit, sDeal, sBox, sDialed, sKnown]
  intro add sub mul arith eq ne lt le gt ge neg conv mn mx not beq len at' ln bd cut app allS isNil mks set o hP F ho
  rw [← ho] at k1 k6
  cbv
  rw [k1]; cbv
  rw [F.eq_f (i := 3) (j := 1) (by decide)]; cbv
  rw [F.eq_f (i := 3) (j := 2) (by decide)]; cbv
  rw [F.eq_t rfl]; cbv
  rw [k6]; cbv
  rw [hQ]; cbv
  exact congrArg some hr
 ·have hv' : z = if u = true then ⟨h.versions, ehX h n⟩ else h := by rw [hv, if_neg (by decide), if_neg (by decide), if_neg (by decide), if_pos rfl]
  have hb : u = true ∨ u = false := by cases u <;> simp
  rcases hb with rfl | rfl
  all_goals
   simp only [if_true, Bool.false_eq_true, if_false] at hv'
   rw [hv']
   try simp only
   rw [← hdv]
   first | rw [← hex] | rw [← hdx]
   generalize hr : (⟨_, [], none⟩ : Ret) = r
   refine fix_fn2 (fn := ir209) tb_209 rfl rfl (by decide) rfl ?_; intro Q hQ; simp only [shutArgs, shutS, List.map_cons, List.map_nil, ir209, shut_in q0, shut_in q1, List.head?_nil, reduceCtorEq, if_false, sExt, sHello, sAnswer, sEdit, sDeal, sBox, sDialed, sKnown]
   intro add sub mul arith eq ne lt le gt ge neg conv mn mx not beq len at' ln bd cut app allS isNil mks set o hP F ho
   have p1 : app 2 dx [[.int .i64 n, .row () []]] = some ex := by rw [hex]; exact F.push (f := fExt) (x := ⟨n, []⟩) hdx (fun _ => rfl) rfl (by omega)
   have p2 : allS [[.int .i64 n, .row () []]] = false := by rw [F.allS]; rfl
   rw [← ho] at k1 k4 k5
   cbv
   rw [k1]; cbv
   rw [F.eq_f (i := 6) (j := 1) (by decide)]; cbv
   rw [F.eq_f (i := 6) (j := 2) (by decide)]; cbv
   rw [F.eq_f (i := 6) (j := 3) (by decide)]; cbv
   rw [F.eq_t rfl]; cbv
   rw [k4]; cbv
   rw [p2]; cbv
   rw [p1]; cbv
   rw [k5]; cbv
   rw [hQ]; cbv
   exact congrArg some hr
 ·have hv' : z = h := by rw [hv, if_neg n1, if_neg n2, if_neg n3, if_neg n6]
  rw [hv', ← hdv, ← hdx]
  generalize hr : (⟨_, [], none⟩ : Ret) = r
  refine fix_fn2 (fn := ir209) tb_209 rfl rfl (by decide) rfl ?_; intro Q hQ; simp only [shutArgs, shutS, List.map_cons, List.map_nil, ir209, shut_in q0, shut_in q1, List.head?_nil, reduceCtorEq, if_false, sExt, sHello, sAnswer, sEdit, sDeal, sBox, sDialed, sKnown]
  intro add sub mul arith eq ne lt le gt ge neg conv mn mx not beq len at' ln bd cut app allS isNil mks set o hP F ho
  rw [← ho] at k1
  cbv
  rw [k1]; cbv
  rw [F.eq_f n1]; cbv
  rw [F.eq_f n2]; cbv
  rw [F.eq_f n3]; cbv
  rw [F.eq_f n6]; cbv
  rw [hQ]; cbv
  exact congrArg some hr
def gEx (x : Ext) : Bool := inR x.tag 0 255 && !decide (4 < x.body.length) && bytes x.body
theorem exOk_iff : ∀ {suf pre : List Ext}, exOk pre suf = true ↔ (∀ x ∈ suf, gEx x = true ∧ ∀ y ∈ pre, y.tag ≠ x.tag) ∧ suf.Pairwise (fun x y => x.tag ≠ y.tag)
 | [], pre => by simp [exOk]
 | x :: suf, pre => by
  have hp : pre.any (tagP x.tag) = false ↔ ∀ y ∈ pre, y.tag ≠ x.tag := by simp [List.any_eq_false, tagP]
  unfold exOk
  simp only [Bool.and_eq_true, Bool.not_eq_true', exOk_iff (suf := suf) (pre := pre ++ [x]), List.pairwise_cons, hp]
  constructor
  ·rintro ⟨⟨⟨⟨a, b⟩, c⟩, d⟩, e, f⟩
   refine ⟨?_, fun y hy => ?_, f⟩
   ·intro z hz
    rcases List.mem_cons.1 hz with rfl | hz
    ·exact ⟨by unfold gEx; rw [a, b, c]; rfl, d⟩
    ·exact ⟨(e z hz).1, fun y hy => (e z hz).2 y (by simp [hy])⟩
   ·exact (e y hy).2 x (by simp)
  ·rintro ⟨h1, h2, h3⟩
   have hx := h1 x (by simp)
   unfold gEx at hx
   simp only [Bool.and_eq_true, Bool.not_eq_true'] at hx
   refine ⟨⟨⟨hx.1.1, hx.1.2⟩, hx.2⟩, fun z hz => ⟨(h1 z (by simp [hz])).1, fun y hy => ?_⟩, h3⟩
   rcases List.mem_append.1 hy with hy | hy
   ·exact (h1 z (by simp [hz])).2 y hy
   ·simp at hy; subst hy; exact h2 z hz
theorem areEx_iff {l : List Ext} : areEx l = true ↔ (∀ x ∈ l, gEx x = true) ∧ l.Pairwise (fun x y => x.tag ≠ y.tag) ∧ l.length ≤ 6 := by
 unfold areEx
 rw [Bool.and_eq_true, exOk_iff, decide_eq_true_eq]
 constructor
 ·rintro ⟨⟨h1, h2⟩, h3⟩; exact ⟨fun x hx => (h1 x hx).1, h2, h3⟩
 ·rintro ⟨h1, h2, h3⟩; exact ⟨⟨fun x hx => ⟨h1 x hx, by simp⟩, h2⟩, h3⟩
theorem areEx_sel {l : List Ext} {p : Ext → Bool} (h : areEx l = true) : areEx (sel p idE l) = true := by
 rw [sel_idE]
 obtain ⟨h1, h2, h3⟩ := areEx_iff.1 h
 exact areEx_iff.2 ⟨fun x hx => h1 x (List.mem_filter.1 hx).1, h2.filter _, Nat.le_trans (List.length_filter_le _ _) h3⟩
theorem bestC_in {a b : List Int} (h : bestC a b ≠ 0) : 1 ≤ bestC a b ∧ bestC a b ≤ 9 ∧ hasI b (bestC a b) = true ∧ hasI a (bestC a b) = true := by
 unfold bestC at h ⊢
 split at h
 ·rename_i hv
  rw [if_pos hv]
  rw [Bool.and_eq_true] at hv
  have hne : comm a b ≠ [] := fun e => by rw [e] at h; exact h rfl
  have hm : (comm a b).getLastD 0 ∈ comm a b := by
   rw [List.getLastD_eq_getLast?, List.getLast?_eq_some_getLast hne]
   exact List.getLast_mem hne
  obtain ⟨m, hmm⟩ : ∃ m, m = (comm a b).getLastD 0 := ⟨_, rfl⟩
  rw [← hmm] at hm ⊢
  have h1 := (comm_asc (b := b) hv.1).2 _ hm
  have h2 : m ∈ a ∧ hasI b m = true := by
   unfold comm at hm
   rw [sel_idI, List.mem_filter] at hm
   exact hm
  refine ⟨h1.1, h1.2, h2.2, ?_⟩
  unfold hasI
  rw [List.any_eq_true]
  exact ⟨_, h2.1, by simp⟩
 ·exact absurd rfl h
theorem caV_ans {vs tg : List Int} {h : Hello} (q : caOk vs h = true) : isAns (caV vs tg h).version (caV vs tg h).exts = true := by
 unfold caV
 rw [if_pos q]
 unfold caOk isHel at q
 simp only [Bool.and_eq_true, Bool.not_eq_true', decide_eq_false_iff_not] at q
 obtain ⟨⟨_, hx⟩, hb⟩ := q
 have := bestC_in hb
 unfold isAns
 rw [Bool.and_eq_true]
 refine ⟨?_, areEx_sel (areEx_sel hx)⟩
 unfold inR
 simp; omega
theorem caOk_hel {vs : List Int} {h : Hello} (q : caOk vs h = true) : isHel h = true := by
 unfold caOk at q; simp only [Bool.and_eq_true] at q; exact q.1
theorem ansB_ne {a : Answer} (q : isAns a.version a.exts = true) : ansB a ≠ [] := by unfold ansB; rw [if_pos q]; simp
def dlG (vs tg : List Int) (seen : Hello) (es : List Edit) : Answer := es.foldl editA (caV vs tg seen)
def dlF (k : Int) (vs tg : List Int) (seen : Hello) : Int := finV k [helB seen, ansB (caV vs tg seen)] 1
def dlOk (h seen : Hello) (vs tg : List Int) (k : Int) (es : List Edit) : Bool := caOk vs seen && (fitsV h (dlG vs tg seen es) && chkV k [helB h, ansB (dlG vs tg seen es)] 1 (dlF k vs tg seen))
def dlV (h seen : Hello) (vs tg : List Int) (k : Int) (es : List Edit) : Deal := if dlOk h seen vs tg k es then ⟨true, (dlG vs tg seen es).version, tags (dlG vs tg seen es).exts⟩ else ⟨false, 0, []⟩
theorem two_w {a b : List Int} (h1 : a.length ≤ 48) (h2 : b.length ≤ 48) : [a, b].length ≤ 1048576 ∧ ∀ y ∈ [a, b], y.length ≤ 1048576 := ⟨by simp, by intro y hy; simp at hy; rcases hy with rfl | rfl <;> omega⟩
theorem dlG_mid : ∀ (es : List Edit) {a : Answer}, a.Mid → (es.foldl editA a).Mid
 | [], _, ma => ma
 | e :: es, a, ma => dlG_mid es (editA_mid ma)
theorem fits_parts {h : Hello} {a : Answer} (q : fitsV h a = true) : isHel h = true ∧ isAns a.version a.exts = true := by
 unfold fitsV at q; simp only [Bool.and_eq_true] at q; exact ⟨q.1.1.2, q.1.2⟩
def isBox (limit : Int) (drops strips : List Int) : Bool := inR limit 0 9 && decide (drops.length ≤ 6) && decide (strips.length ≤ 6) && bytes drops && bytes strips
theorem ok68 (limit : Int) (drops strips : List Int) (lists : Bool) (hd : drops.length ≤ 1099511627776) (hs : strips.length ≤ 1099511627776) {f0 f1 : Fl} (h0 : inFl f0 = true) (h1 : inFl f1 = true) :
  fix Tb md 68 [⟨.agg, [⟨.int .i64 limit, .sc⟩, ⟨.row () (row fI drops), f0⟩, ⟨.row () (row fI strips), f1⟩, ⟨.bool lists, .sc⟩]⟩] = some ⟨[B (isBox limit drops strips)], [], none⟩ := by
 refine fix_fn (fn := ir68) tb_68 rfl rfl (by decide) rfl ?_; simp only [shutArgs, shutS, List.map_cons, List.map_nil, ir68, shut_in h0, shut_in h1, List.head?_nil, reduceCtorEq, if_false, sExt, sHello, sAnswer, sEdit, sDeal, sBox, sDialed, sKnown]
 generalize hr : (⟨_, [], none⟩ : Ret) = r
 obtain ⟨ed, hed⟩ := nm (row fI drops)
 obtain ⟨es, hes⟩ := nm (row fI strips)
 rw [← hed, ← hes]
 obtain ⟨v1, hv1⟩ := nm (inR limit 0 9)
 obtain ⟨v2, hv2⟩ := nm (bytes drops)
 obtain ⟨v3, hv3⟩ := nm (bytes strips)
 intro add sub mul arith eq ne lt le gt ge neg conv mn mx not beq len at' ln bd cut app allS isNil mks set o hP F ho
 have ld := F.len_at hed
 have ls := F.len_at hes
 have c1 : o 230 [I limit, I 0, I 9] = some ⟨[B v1], [], none⟩ := by rw [ho, hv1]; exact ok230 ..
 have c2 : o 231 [R ed (.sp 0 0)] = some ⟨[B v2], [], none⟩ := by rw [ho, hv2, hed]; exact ok231 _ hd rfl
 have c3 : o 231 [R es (.sp 0 0)] = some ⟨[B v3], [], none⟩ := by rw [ho, hv3, hes]; exact ok231 _ hs rfl
 cbv
 repeat' (first | (rw [c1]; cbv) | (rw [c2]; cbv) | (rw [c3]; cbv) | (refine both (fun c => ?_) (fun c => ?_) <;> (try rw [c]) <;> (try cbv)))
 all_goals (clear hP c1 c2 c3 ho; unfold At at ld ls; try simp only [F.eq, F.ne, F.le, F.lt, F.ge, F.gt, F.not, F.beq, ld, ls] at *; clear F; subst hr)
 all_goals (simp_all [isBox] <;> (intros; omega))
def lastI (l : List Int) : Int := (l.getLast?).getD 0
def stripE (b : List Int) (e : Ext) : Bool := !hasI b e.tag
def lost (b : Box) (e : Ext) : Bool := hasI b.drops e.tag || (b.lists && !hasI b.strips e.tag && !inR e.tag 1 3)
def overL (b : Box) (h : Hello) : Bool := decide (0 < b.limit) && decide (b.limit < lastI h.versions)
def pbOk (b : Box) (h : Hello) : Bool := isBox b.limit b.drops b.strips && isHel h && !overL b h && !h.exts.any (lost b)
def pbV (b : Box) (h : Hello) : Hello := if pbOk b h then ⟨h.versions, sel (stripE b.strips) idE h.exts⟩ else ⟨[], []⟩
theorem pbV_mid {b : Box} {h : Hello} (m : h.Mid) : (pbV b h).Mid := by
 unfold pbV
 split
 ·unfold Hello.Mid at *
  exact ⟨m.1, Nat.le_trans sel_len m.2.1, fun y hy => m.2.2 y (by simp only [sel_idE] at hy; exact (List.mem_filter.1 hy).1)⟩
 ·exact ⟨by simp, by simp, by simp⟩
theorem isHel_ne {h : Hello} (hh : isHel h = true) : ∃ p y, h.versions = p ++ [y] ∧ lastI h.versions = y := by
 unfold isHel areVer at hh
 simp only [Bool.and_eq_true, decide_eq_true_eq] at hh
 rcases List.eq_nil_or_concat h.versions with h0 | ⟨p, y, h0⟩
 ·rw [h0] at hh; simp at hh
 ·rw [List.concat_eq_append] at h0; exact ⟨p, y, h0, by rw [h0]; simp [lastI]⟩
def maxGo (m : Int) : List Int → Int
 | [] => m
 | x :: xs => maxGo (if x > m then x else m) xs
theorem max_last : ∀ (xs pre : List Int) (m : Int), verGo (pre ++ [m]) xs = true → maxGo m xs = lastI (m :: xs)
 | [], _, m, _ => rfl
 | x :: xs, pre, m, h => by
  unfold verGo at h
  simp only [Bool.and_eq_true] at h
  obtain ⟨⟨_, h2⟩, h3⟩ := h
  have hx : x > m := by simp at h2; omega
  show maxGo (if x > m then x else m) xs = _
  rw [if_pos hx, max_last xs (pre ++ [m]) x h3]
  show _ = lastI (m :: x :: xs)
  simp [lastI]
theorem max_hel {x : Int} {xs : List Int} (h : areVer (x :: xs) = true) : maxGo x xs = lastI (x :: xs) := by
 unfold areVer at h
 simp only [Bool.and_eq_true] at h
 have h1 := h.1
 unfold verGo at h1
 simp only [Bool.and_eq_true] at h1
 exact max_last xs [] x h1.2
def ppGo : List Box → Hello → Hello × Bool
 | [], h => (h, true)
 | b :: bs, h => if pbOk b h then ppGo bs (pbV b h) else (⟨[], []⟩, false)
def pp (path : List Box) (h : Hello) : Hello × Bool := if isHel h && decide (path.length ≤ 4) then ppGo path h else (⟨[], []⟩, false)
def ppV (path : List Box) (h : Hello) : Hello := (pp path h).1
def ppOk (path : List Box) (h : Hello) : Bool := (pp path h).2
theorem ppGo_mid : ∀ (path : List Box) {h : Hello}, h.Mid → (ppGo path h).1.Mid
 | [], _, m => m
 | b :: bs, h, m => by
  unfold ppGo
  split
  ·exact ppGo_mid bs (pbV_mid m)
  ·exact ⟨by simp, by simp, by simp⟩
theorem ppV_mid {path : List Box} {h : Hello} (m : h.Mid) : (ppV path h).Mid := by
 unfold ppV pp
 split
 ·exact ppGo_mid path m
 ·exact ⟨by simp, by simp, by simp⟩
theorem ppGo_cases : ∀ (path : List Box) (h : Hello), (ppGo path h).2 = true ∨ ppGo path h = (⟨[], []⟩, false)
 | [], _ => .inl rfl
 | b :: bs, h => by
  unfold ppGo
  split
  ·exact ppGo_cases bs _
  ·exact .inr rfl
theorem pp_cases (path : List Box) (h : Hello) : (pp path h).2 = true ∨ pp path h = (⟨[], []⟩, false) := by
 unfold pp
 split
 ·exact ppGo_cases _ _
 ·exact .inr rfl
def doOk (h : Hello) (path : List Box) (vs tg : List Int) (k : Int) : Bool := ppOk path h && dlOk h (ppV path h) vs tg k []
def doV (h : Hello) (path : List Box) (vs tg : List Int) (k : Int) : Deal := if doOk h path vs tg k then ⟨true, (caV vs tg (ppV path h)).version, tags (caV vs tg (ppV path h)).exts⟩ else ⟨false, 0, []⟩
theorem tags_len {l : List Ext} : (tags l).length = l.length := by rw [tags_map, List.length_map]
theorem doV_mid {h : Hello} {path : List Box} {vs tg : List Int} {k : Int} (m : h.Mid) : (doV h path vs tg k).Mid := by
 unfold doV
 split
 ·have := caV_mid (vs := vs) (tg := tg) (ppV_mid (path := path) m)
  show (tags _).length ≤ 1073741824
  rw [tags_len]; exact this.1
 ·show ([] : List Int).length ≤ 1073741824
  simp
theorem dl_nil {h seen : Hello} {vs tg : List Int} {k : Int} (q : caOk vs seen = true) : dlOk h seen vs tg k [] = (fitsV h (caV vs tg seen) && (!decide (finV k [helB h, ansB (caV vs tg seen)] 1 = 0) && decide (finV k [helB h, ansB (caV vs tg seen)] 1 = finV k [helB seen, ansB (caV vs tg seen)] 1))) := by
 unfold dlOk dlF chkV
 rw [q, Bool.true_and, show dlG vs tg seen [] = caV vs tg seen from rfl]
 congr 1
 by_cases e : finV k [helB h, ansB (caV vs tg seen)] 1 = finV k [helB seen, ansB (caV vs tg seen)] 1
 ·rw [e]
 ·simp [e]
def tF : Bool → Fl
 | true => .ow false
 | false => .nl
def rhS (h : Hello) (es : List Edit) : Hello := es.foldl editH h
def rhOk (h : Hello) (vs tg : List Int) (k : Int) (es : List Edit) : Bool := isHel h && (!decide (6 < es.length) && dlOk h (rhS h es) vs tg k es)
def rhV (h : Hello) (vs tg : List Int) (k : Int) (es : List Edit) : Deal := if rhOk h vs tg k es then ⟨true, (dlG vs tg (rhS h es) es).version, tags (dlG vs tg (rhS h es) es).exts⟩ else ⟨false, 0, []⟩
theorem foldH_b : ∀ (es : List Edit) {h : Hello} {n : Nat}, hB h n n → hB (es.foldl editH h) (n + es.length) (n + es.length)
 | [], _, _, q => q
 | e :: es, h, n, q => by
  have := foldH_b es (editH_b (e := e) q)
  rw [List.foldl_cons, List.length_cons, show n + (es.length + 1) = n + 1 + es.length by omega]; exact this
theorem rhS_mid {h : Hello} {es : List Edit} (q : hB h 1048576 1048576) (he : es.length ≤ 1048576) : (rhS h es).Mid := hB_mid (foldH_b es q) (by omega)
theorem rhV_mid {h : Hello} {vs tg : List Int} {k : Int} {es : List Edit} (q : hB h 1048576 1048576) (he : es.length ≤ 1048576) : (rhV h vs tg k es).Mid := by
 unfold rhV
 split
 ·have : (dlG vs tg (rhS h es) es).Mid := dlG_mid es (caV_mid (rhS_mid q he))
  show (tags _).length ≤ 1073741824
  rw [tags_len]; exact this.1
 ·show ([] : List Int).length ≤ 1073741824
  simp
theorem editA_0 (a : Answer) : editA a ⟨0, 0⟩ = a := by unfold editA; rfl
theorem rhV_tags {h : Hello} {vs tg : List Int} {k : Int} {es : List Edit} (e : rhOk h vs tg k es = false) : (rhV h vs tg k es).tags = [] := by unfold rhV; rw [e]; rfl
theorem joinF {d : Deal} {a : Bool} {P Q : List (List V) → Fl → Prop} (ha : a = false → d.tags = []) (p : P (row fI d.tags) (tF a)) (q : Q (row fI d.tags) (tF a)) : (P (row fI d.tags) (.ow false) ∧ Q (row fI d.tags) (.ow false)) ∨ ((d.tags = [] ∧ P [] .nl) ∧ (d.tags = [] ∧ Q [] .nl)) := by
 cases a with
 | true => exact .inl ⟨p, q⟩
 | false => have e := ha rfl; rw [e] at p q; exact .inr ⟨⟨e, p⟩, e, q⟩
theorem ok138r (h : Hello) (vs tg : List Int) (k : Int) (es : List Edit) (q : hB h 1048576 1048576) (hv : vs.length ≤ 1073741824) (ht : tg.length ≤ 1073741824) (he : es.length ≤ 1048576) {f0 f1 f2 f3 f4 : Fl} (q0 : inFl f0 = true) (q1 : inFl f1 = true) (q2 : inFl f2 = true) (q3 : inFl f3 = true) (q4 : inFl f4 = true) (r : Ret)
  (rA : rhOk h vs tg k es = true → (⟨[sDeal true (dlG vs tg (rhS h es) es).version (row fI (tags (dlG vs tg (rhS h es) es).exts)) (.ow false)], [], none⟩ : Ret) = r) (rC : rhOk h vs tg k es = false → (⟨[sDeal false 0 [] .nl], [], none⟩ : Ret) = r) :
  fix Tb md 138 [sHello (row fI h.versions) (row fExt h.exts) f0 f1, R (row fI vs) f2, R (row fI tg) f3, I k, R (row fEdit es) f4] = some r := by
 have mh : h.Mid := hB_mid q (by decide)
 have mh' := mh
 unfold Hello.Mid at mh'
 have wh : ∀ y ∈ h.exts, y.body.length ≤ 1099511627776 := fun y hy => Nat.le_trans (show y.body.length ≤ 1073741824 from mh'.2.2 y hy) (by decide)
 obtain ⟨seen, hseen⟩ := nm (rhS h es)
 have ms : seen.Mid := by rw [hseen]; exact rhS_mid q he
 obtain ⟨u, hu⟩ := nm (isHel h)
 obtain ⟨w, hw⟩ := nm (decide (6 < es.length))
 have hok : rhOk h vs tg k es = (u && (!w && dlOk h seen vs tg k es)) := by rw [hu, hw, hseen]; rfl
 rw [hok] at rA rC
 rw [← hseen] at rA
 have hfs : es.foldl editH h = seen := hseen.symm
 clear hok hseen
 have k1 := ok142 h (by omega) (by omega) wh (f0 := .sp 0 0) (f1 := .sp 0 1) rfl rfl
 rw [← hu] at k1
 have k3 := ok279 h mh (f0 := .sp 0 0) (f1 := .sp 0 1) rfl rfl
 cases hca : caOk vs seen with
 | false =>
  have hd : dlOk h seen vs tg k es = false := by unfold dlOk; rw [hca]; rfl
  rw [hd, Bool.and_false, Bool.and_false] at rC
  replace rC := fun (_ : True) => rC rfl
  clear rA
  have k2 := ok168b vs tg seen hv ht ms (f0 := .sp 0 0) (f1 := .sp 1 0) (f2 := .sp 2 0) (f3 := .sp 2 1) rfl rfl rfl rfl hca
  obtain ⟨ev, hev⟩ := nm (row fI vs)
  obtain ⟨et, het⟩ := nm (row fI tg)
  obtain ⟨dv, hdv⟩ := nm (row fI h.versions)
  obtain ⟨dx, hdx⟩ := nm (row fExt h.exts)
  obtain ⟨sv, hsv⟩ := nm (row fI seen.versions)
  obtain ⟨sx, hsx⟩ := nm (row fExt seen.exts)
  obtain ⟨ee, hee⟩ := nm (row fEdit es)
  rw [← hdv, ← hdx] at k1 k3
  rw [← hsv, ← hsx, ← hev, ← het] at k2
  rw [← hev, ← het, ← hdv, ← hdx, ← hee]
  refine fix_fn2 (fn := ir138) tb_138 rfl rfl (by decide) rfl ?_; intro Q hQ; simp only [shutArgs, shutS, List.map_cons, List.map_nil, ir138, shut_in q0, shut_in q1, shut_in q2, shut_in q3, shut_in q4, List.head?_nil, reduceCtorEq, if_false, sExt, sHello, sAnswer, sEdit, sDeal, sBox, sDialed, sKnown]
  intro add sub mul arith eq ne lt le gt ge neg conv mn mx not beq len at' ln bd cut app allS isNil mks set o hP F ho
  have le := F.len_at hee
  have g1 : gt (len ee) 6 = w := by rw [hw]; exact F.gt_n le (k := 6) (m := 6) rfl
  rw [← ho] at k1 k2 k3
  cbv
  rw [k1]; cbv
  refine both (fun d1 => ?_) (fun d1 => ?_) <;> rw [d1] <;> cbv
  ·rw [hQ]; cbv
   exact congrArg some (rC trivial)
  rw [g1]
  refine both (fun d2 => ?_) (fun d2 => ?_) <;> rw [d2] <;> cbv
  ·rw [hQ]; cbv
   exact congrArg some (rC trivial)
  have hu1 := F.not_f d1
  have h6 : es.length ≤ 6 := by rw [d2] at hw; simpa using hw.symm
  rw [k3]; cbv
  refine loop_ind2 hP (σ := List Edit × List Edit × Hello × List (List V) × List (List V) × Int) (fun s => [(0, sHello dv dx .sh .sh), (1, R ev .sh), (2, R et .sh), (3, I k), (4, R ee .sh), (5, ⟨.ptr 106 0, []⟩), (10, ⟨.ptr 111 0, []⟩), (11, ⟨.ptr 112 0, []⟩), (12, I s.2.2.2.2.2), (106, ⟨.box (), [⟨.row () dv, .sh⟩, ⟨.row () dx, .sh⟩]⟩), (111, ⟨.box (), [⟨.bool false, .sc⟩, ⟨.int .i64 0, .sc⟩, ⟨.row () [], .nl⟩]⟩), (112, ⟨.box (), [⟨.row () s.2.2.2.1, .ow false⟩, ⟨.row () s.2.2.2.2.1, .ow false⟩]⟩)]) (fun s => At s.2.2.2.2.2 s.2.1.length ∧ es = s.2.1 ++ s.1 ∧ s.1.foldl editH s.2.2.1 = seen ∧ hB s.2.2.1 (1048576 + s.2.1.length) (1048576 + s.2.1.length) ∧ s.2.2.2.1 = row fI s.2.2.1.versions ∧ s.2.2.2.2.1 = row fExt s.2.2.1.exts) (fun s => s.1.length) (es, [], h, dv, dx, 0) rfl ⟨rfl, rfl, hfs, q, hdv, hdx⟩ ?_
  intro c9 Q1 hc9 hQ1
  rintro ⟨suf, pre, a, av, ax, i⟩ ⟨hi, hl', hb, ma, hav, hax⟩ ih
  simp only at hi hl' hb ma hav hax ih
  have hpl : pre.length ≤ 6 := by rw [hl'] at h6; simp at h6; omega
  cbv
  cases suf with
  | cons x suf =>
   rw [List.foldl_cons] at hb
   obtain ⟨ix, hix⟩ := nm (pre.length * 2)
   have p0 : at' 2 ee i = some (ix, [.int .i64 x.kind, .int .i64 x.n]) := by rw [hix]; exact F.get hi hee hl' (fun _ => rfl) (by decide)
   obtain ⟨a', ha'⟩ := nm (editH a x)
   have ma' : hB a' (1048576 + (pre ++ [x]).length) (1048576 + (pre ++ [x]).length) := by rw [ha', List.length_append]; exact editH_b ma
   have k0 := ok209 a x ⟨by have := ma.1; omega, by have := ma.2.1; omega, ma.2.2⟩ (f0 := .sp 0 0) (f1 := .sp 0 1) rfl rfl
   rw [← ha'] at k0 hb
   obtain ⟨av', hav'⟩ := nm (row fI a'.versions)
   obtain ⟨ax', hax'⟩ := nm (row fExt a'.exts)
   rw [← hav', ← hax', ← hav, ← hax, ← ho] at k0
   rw [F.lt_t hi le (by simp [hl'])]; cbv
   rw [p0]; cbv
   rw [k0]; cbv
   exact ih (suf, pre ++ [x], a', av', ax', add .i64 i 1) ⟨at_len (F.inc hi (by omega)) (by simp), by rw [hl']; simp, hb, ma', hav', hax'⟩ (by simp)
  | nil =>
   have haS : a = seen := hb
   rw [haS] at hav hax
   rw [← hsv] at hav
   rw [← hsx] at hax
   rw [F.lt_f hi le (by simp [hl'])]; cbv
   rw [hQ1]; cbv
   rw [hav, hax]
   rw [k2]; cbv
   rw [show not false = true by rw [F.not]; rfl]; cbv
   rw [hQ]; cbv
   exact congrArg some (rC trivial)
 | true =>
  obtain ⟨S, hS⟩ := nm (caV vs tg seen)
  obtain ⟨G, hG⟩ := nm (dlG vs tg seen es)
  have hGS : es.foldl editA S = G := by rw [hS, hG]; rfl
  have mS : S.Mid := by rw [hS]; exact caV_mid ms
  have mG : G.Mid := by rw [← hGS]; exact dlG_mid es mS
  have lS : S.exts.length ≤ 1073741824 := mS.1
  have lG : G.exts.length ≤ 1073741824 := mG.1
  have wS : ∀ y ∈ S.exts, y.body.length ≤ 1099511627776 := fun y hy => Nat.le_trans (show y.body.length ≤ 1073741824 from mS.2 y hy) (by decide)
  have wG : ∀ y ∈ G.exts, y.body.length ≤ 1099511627776 := fun y hy => Nat.le_trans (show y.body.length ≤ 1073741824 from mG.2 y hy) (by decide)
  have bS : (ansB S).length ≤ 48 := Nat.le_trans (ansB_len S) (by decide)
  have bG : (ansB G).length ≤ 48 := Nat.le_trans (ansB_len G) (by decide)
  obtain ⟨z, hz⟩ := nm (fitsV h G)
  obtain ⟨n1, hn1⟩ := nm (finV k [helB h, ansB G] 1)
  obtain ⟨n2, hn2⟩ := nm (finV k [helB seen, ansB S] 1)
  obtain ⟨z1, hz1⟩ := nm (decide (n1 = n2))
  obtain ⟨z2, hz2⟩ := nm (decide (n1 = 0))
  have hd : dlOk h seen vs tg k es = (z && (z1 && !z2)) := by
   unfold dlOk dlF chkV
   rw [hca, Bool.true_and, ← hG, ← hS, ← hz, ← hn1, ← hn2, hz1, hz2]
   congr 1
   by_cases e : n1 = n2
   ·rw [e, decide_eq_true (rfl : n2 = n2), Bool.and_true, Bool.true_and]
   ·simp [e]
  rw [hd] at rA rC
  rw [← hG] at rA
  have k2 := ok168a vs tg seen hv ht ms (f0 := .sp 0 0) (f1 := .sp 1 0) (f2 := .sp 2 0) (f3 := .sp 2 1) rfl rfl rfl rfl hca
  rw [← hS] at k2
  have k4 := ok154 S ⟨0, 0⟩ lS wS (f0 := .sp 0 1) rfl
  rw [editA_0] at k4
  have k5 := ok162 h mh (f0 := .sp 0 0) (f1 := .sp 0 1) rfl rfl
  have k6 := ok151 G (by omega) wG (f0 := .sp 0 1) rfl
  have k7 := ok143 k [helB h, ansB G] 1 (two_w (helB_small h) bG) (f0 := .sp 1 0) rfl
  have k8 := ok162 seen ms (f0 := .sp 0 0) (f1 := .sp 0 1) rfl rfl
  have k9 := ok151 S (by omega) wS (f0 := .sp 0 1) rfl
  have k10 := ok143 k [helB seen, ansB S] 1 (two_w (helB_small seen) bS) (f0 := .sp 1 0) rfl
  have k11 := ok160 h G mh mG (f0 := .sp 0 0) (f1 := .sp 0 1) (f2 := .sp 1 1) rfl rfl rfl
  have k12 := ok280 G.exts lG (f0 := .sp 0 0) rfl
  rw [show sel yesE Ext.tag G.exts = tags G.exts from rfl] at k12
  rw [← hn1] at k7
  rw [← hn2] at k10
  rw [← hz] at k11
  obtain ⟨ev, hev⟩ := nm (row fI vs)
  obtain ⟨et, het⟩ := nm (row fI tg)
  obtain ⟨dv, hdv⟩ := nm (row fI h.versions)
  obtain ⟨dx, hdx⟩ := nm (row fExt h.exts)
  obtain ⟨sv, hsv⟩ := nm (row fI seen.versions)
  obtain ⟨sx, hsx⟩ := nm (row fExt seen.exts)
  obtain ⟨ee, hee⟩ := nm (row fEdit es)
  obtain ⟨eS, heS⟩ := nm (row fExt S.exts)
  obtain ⟨eG, heG⟩ := nm (row fExt G.exts)
  obtain ⟨eT, heT⟩ := nm (row fI (tags G.exts))
  obtain ⟨b1, hb1⟩ := nm (row fI (helB h))
  obtain ⟨b2, hb2⟩ := nm (row fI (ansB G))
  obtain ⟨b3, hb3⟩ := nm (row fI (helB seen))
  obtain ⟨b4, hb4⟩ := nm (row fI (ansB S))
  rw [← hdv, ← hdx] at k1 k3
  rw [← hsv, ← hsx, ← hev, ← het, ← heS] at k2
  rw [← heS] at k4
  rw [← hdv, ← hdx, ← hb1] at k5
  rw [← heG, ← hb2] at k6
  rw [← hsv, ← hsx, ← hb3] at k8
  rw [← heS, ← hb4] at k9
  simp only [row, fR, List.map_cons, List.map_nil] at k7 k10
  rw [show List.map fI (helB h) = b1 from hb1.symm, show List.map fI (ansB G) = b2 from hb2.symm] at k7
  rw [show List.map fI (helB seen) = b3 from hb3.symm, show List.map fI (ansB S) = b4 from hb4.symm] at k10
  rw [← hdv, ← hdx, ← heG] at k11
  rw [← heG, ← heT] at k12
  rw [← heT] at rA
  rw [← hev, ← het, ← hdv, ← hdx, ← hee]
  refine fix_fn2 (fn := ir138) tb_138 rfl rfl (by decide) rfl ?_; intro Q hQ; simp only [shutArgs, shutS, List.map_cons, List.map_nil, ir138, shut_in q0, shut_in q1, shut_in q2, shut_in q3, shut_in q4, List.head?_nil, reduceCtorEq, if_false, sExt, sHello, sAnswer, sEdit, sDeal, sBox, sDialed, sKnown]
  intro add sub mul arith eq ne lt le gt ge neg conv mn mx not beq len at' ln bd cut app allS isNil mks set o hP F ho
  have le := F.len_at hee
  have g1 : gt (len ee) 6 = w := by rw [hw]; exact F.gt_n le (k := 6) (m := 6) rfl
  rw [← ho] at k1 k2 k3 k4 k5 k6 k7 k8 k9 k10 k11 k12
  cbv
  rw [k1]; cbv
  refine both (fun d1 => ?_) (fun d1 => ?_) <;> rw [d1] <;> cbv
  ·rw [hQ]; cbv
   exact congrArg some (rC (by rw [F.not_t d1]; rfl))
  rw [g1]
  refine both (fun d2 => ?_) (fun d2 => ?_) <;> rw [d2] <;> cbv
  ·rw [hQ]; cbv
   exact congrArg some (rC (by rw [d2, F.not_f d1]; rfl))
  have hu1 := F.not_f d1
  have h6 : es.length ≤ 6 := by rw [d2] at hw; simpa using hw.symm
  rw [k3]; cbv
  refine loop_ind2 hP (σ := List Edit × List Edit × Hello × List (List V) × List (List V) × Int) (fun s => [(0, sHello dv dx .sh .sh), (1, R ev .sh), (2, R et .sh), (3, I k), (4, R ee .sh), (5, ⟨.ptr 106 0, []⟩), (10, ⟨.ptr 111 0, []⟩), (11, ⟨.ptr 112 0, []⟩), (12, I s.2.2.2.2.2), (106, ⟨.box (), [⟨.row () dv, .sh⟩, ⟨.row () dx, .sh⟩]⟩), (111, ⟨.box (), [⟨.bool false, .sc⟩, ⟨.int .i64 0, .sc⟩, ⟨.row () [], .nl⟩]⟩), (112, ⟨.box (), [⟨.row () s.2.2.2.1, .ow false⟩, ⟨.row () s.2.2.2.2.1, .ow false⟩]⟩)]) (fun s => At s.2.2.2.2.2 s.2.1.length ∧ es = s.2.1 ++ s.1 ∧ s.1.foldl editH s.2.2.1 = seen ∧ hB s.2.2.1 (1048576 + s.2.1.length) (1048576 + s.2.1.length) ∧ s.2.2.2.1 = row fI s.2.2.1.versions ∧ s.2.2.2.2.1 = row fExt s.2.2.1.exts) (fun s => s.1.length) (es, [], h, dv, dx, 0) rfl ⟨rfl, rfl, hfs, q, hdv, hdx⟩ ?_
  intro c9 Q1 hc9 hQ1
  rintro ⟨suf, pre, a, av, ax, i⟩ ⟨hi, hl', hb, ma, hav, hax⟩ ih
  simp only at hi hl' hb ma hav hax ih
  have hpl : pre.length ≤ 6 := by rw [hl'] at h6; simp at h6; omega
  cbv
  cases suf with
  | cons x suf =>
   rw [List.foldl_cons] at hb
   obtain ⟨ix, hix⟩ := nm (pre.length * 2)
   have p0 : at' 2 ee i = some (ix, [.int .i64 x.kind, .int .i64 x.n]) := by rw [hix]; exact F.get hi hee hl' (fun _ => rfl) (by decide)
   obtain ⟨a', ha'⟩ := nm (editH a x)
   have ma' : hB a' (1048576 + (pre ++ [x]).length) (1048576 + (pre ++ [x]).length) := by rw [ha', List.length_append]; exact editH_b ma
   have k0 := ok209 a x ⟨by have := ma.1; omega, by have := ma.2.1; omega, ma.2.2⟩ (f0 := .sp 0 0) (f1 := .sp 0 1) rfl rfl
   rw [← ha'] at k0 hb
   obtain ⟨av', hav'⟩ := nm (row fI a'.versions)
   obtain ⟨ax', hax'⟩ := nm (row fExt a'.exts)
   rw [← hav', ← hax', ← hav, ← hax, ← ho] at k0
   rw [F.lt_t hi le (by simp [hl'])]; cbv
   rw [p0]; cbv
   rw [k0]; cbv
   exact ih (suf, pre ++ [x], a', av', ax', add .i64 i 1) ⟨at_len (F.inc hi (by omega)) (by simp), by rw [hl']; simp, hb, ma', hav', hax'⟩ (by simp)
  | nil =>
   have haS : a = seen := hb
   rw [haS] at hav hax
   rw [← hsv] at hav
   rw [← hsx] at hax
   rw [F.lt_f hi le (by simp [hl'])]; cbv
   rw [hQ1]; cbv
   rw [hav, hax]
   rw [k2]; cbv
   rw [show not true = false by rw [F.not]; rfl]; cbv
   rw [k4]; cbv
   clear ih hc9 hQ1
   refine loop_ind2 hP (σ := List Edit × List Edit × Answer × Int × List (List V) × Int) (fun s => [(0, sHello dv dx .sh .sh), (1, R ev .sh), (2, R et .sh), (3, I k), (4, R ee .sh), (5, ⟨.ptr 106 0, []⟩), (10, ⟨.ptr 111 0, []⟩), (11, ⟨.ptr 112 0, []⟩), (12, I i), (13, ⟨.ptr 114 0, []⟩), (14, B true), (15, ⟨.ptr 116 0, []⟩), (16, I s.2.2.2.2.2), (106, ⟨.box (), [⟨.row () dv, .sh⟩, ⟨.row () dx, .sh⟩]⟩), (111, ⟨.box (), [⟨.bool false, .sc⟩, ⟨.int .i64 0, .sc⟩, ⟨.row () [], .nl⟩]⟩), (112, ⟨.box (), [⟨.row () sv, .ow false⟩, ⟨.row () sx, .ow false⟩]⟩), (114, ⟨.box (), [⟨.int .i64 S.version, .sc⟩, ⟨.row () eS, .ow false⟩]⟩), (116, ⟨.box (), [⟨.int .i64 s.2.2.2.1, .sc⟩, ⟨.row () s.2.2.2.2.1, .ow false⟩]⟩)]) (fun s => At s.2.2.2.2.2 s.2.1.length ∧ es = s.2.1 ++ s.1 ∧ s.1.foldl editA s.2.2.1 = G ∧ s.2.2.1.Mid ∧ s.2.2.2.1 = s.2.2.1.version ∧ s.2.2.2.2.1 = row fExt s.2.2.1.exts) (fun s => s.1.length) (es, [], S, S.version, eS, 0) rfl ⟨rfl, rfl, hGS, mS, rfl, heS⟩ ?_
   intro c8 Q2 hc8 hQ2
   rintro ⟨suf, pre, a, ver, ex, m⟩ ⟨hm, hl2, hb, ma, hver, hex⟩ ih
   simp only at hm hl2 hb ma hver hex ih
   cbv
   cases suf with
   | cons x suf =>
    rw [List.foldl_cons] at hb
    have hpl2 : pre.length ≤ 6 := by rw [hl2] at h6; simp at h6; omega
    obtain ⟨ix, hix⟩ := nm (pre.length * 2)
    have p0 : at' 2 ee m = some (ix, [.int .i64 x.kind, .int .i64 x.n]) := by rw [hix]; exact F.get hm hee hl2 (fun _ => rfl) (by decide)
    obtain ⟨a', ha'⟩ := nm (editA a x)
    have ma' : a'.Mid := by rw [ha']; exact editA_mid ma
    have la := ma.1
    have k0 := ok154 a x la (fun y hy => Nat.le_trans (show y.body.length ≤ 1073741824 from ma.2 y hy) (by decide)) (f0 := .sp 0 1) rfl
    rw [← ha'] at k0 hb
    obtain ⟨ver', hver'⟩ := nm (a'.version)
    obtain ⟨ex', hex'⟩ := nm (row fExt a'.exts)
    rw [← hver', ← hex', ← hver, ← hex, ← ho] at k0
    rw [F.lt_t hm le (by simp [hl2])]; cbv
    rw [p0]; cbv
    rw [k0]; cbv
    exact ih (suf, pre ++ [x], a', ver', ex', add .i64 m 1) ⟨at_len (F.inc hm (by omega)) (by simp), by rw [hl2]; simp, hb, ma', hver', hex'⟩ (by simp)
   | nil =>
    have haG : a = G := hb
    rw [haG] at hver hex
    rw [← heG] at hex
    have g2 : ne n1 n2 = !z1 := by rw [F.ne, hz1]; simp
    have g3 : eq n1 0 = z2 := by rw [F.eq, hz2]
    rw [F.lt_f hm le (by simp [hl2])]; cbv
    rw [hQ2]; cbv
    rw [hver, hex]
    rw [k5]; cbv
    rw [k6]; cbv
    rw [k7]; cbv
    rw [k8]; cbv
    rw [k9]; cbv
    rw [k10]; cbv
    rw [k11]; cbv
    refine both (fun d3 => ?_) (fun d3 => ?_) <;> rw [d3] <;> cbv
    ·rw [hQ]; cbv
     exact congrArg some (rC (by rw [F.not_t d3, hu1, d2]; rfl))
    rw [g2]
    refine both (fun d4 => ?_) (fun d4 => ?_) <;> rw [d4] <;> cbv
    ·rw [hQ]; cbv
     exact congrArg some (rC (by rw [F.not_f d3, hu1, d2, show z1 = false by simpa using d4]; rfl))
    rw [g3]
    refine both (fun d5 => ?_) (fun d5 => ?_) <;> rw [d5] <;> cbv
    ·rw [hQ]; cbv
     exact congrArg some (rC (by rw [F.not_f d3, hu1, d2, d5, show z1 = true by simpa using d4]; rfl))
    rw [k12]; cbv
    rw [hQ]; cbv
    exact congrArg some (rA (by rw [F.not_f d3, hu1, d2, d5, show z1 = true by simpa using d4]; rfl))
theorem ok138f (h : Hello) (vs tg : List Int) (k : Int) (es : List Edit) (q : hB h 1048576 1048576) (hv : vs.length ≤ 1073741824) (ht : tg.length ≤ 1073741824) (he : es.length ≤ 1048576) {f0 f1 f2 f3 f4 : Fl} (q0 : inFl f0 = true) (q1 : inFl f1 = true) (q2 : inFl f2 = true) (q3 : inFl f3 = true) (q4 : inFl f4 = true) :
  fix Tb md 138 [sHello (row fI h.versions) (row fExt h.exts) f0 f1, R (row fI vs) f2, R (row fI tg) f3, I k, R (row fEdit es) f4] = some ⟨[sDeal (rhV h vs tg k es).ok (rhV h vs tg k es).version (row fI (rhV h vs tg k es).tags) (tF (rhOk h vs tg k es))], [], none⟩ := by
 cases e : rhOk h vs tg k es with
 | true =>
  refine ok138r h vs tg k es q hv ht he q0 q1 q2 q3 q4 _ (fun _ => ?_) (fun z => by rw [e] at z; cases z)
  rw [rhV, e]; rfl
 | false =>
  rw [show rhV h vs tg k es = ⟨false, 0, []⟩ by rw [rhV, e]; rfl]
  exact ok138r h vs tg k es q hv ht he q0 q1 q2 q3 q4 _ (fun z => by rw [e] at z; cases z) (fun _ => rfl)
theorem ok267 (t k n : Int) : fix Tb md 267 [I t, ⟨.val, [⟨.ptr () [.int .i64 k, .int .i64 n], .sh⟩]⟩] = some ⟨[B (decide (t ≠ n))], [], none⟩ := by
 generalize hr : (⟨_, [], none⟩ : Ret) = r
 refine fix_fn2 (fn := ir267) tb_267 rfl rfl (by decide) rfl ?_; intro Q hQ; simp only [shutArgs, shutS, List.map_cons, List.map_nil, ir267, List.head?_nil, reduceCtorEq, if_false, sExt, sHello, sAnswer, sEdit, sDeal, sBox, sDialed, sKnown]
 intro add sub mul arith eq ne lt le gt ge neg conv mn mx not beq len at' ln bd cut app allS isNil mks set o hP F ho
 cbv
 rw [hQ]; cbv
 rw [← hr, F.ne]
theorem ok119 (a : Answer) (e : Edit) (hl : a.exts.length ≤ 1073741824) (w : ∀ y ∈ a.exts, y.body.length ≤ 1099511627776) {f0 : Fl} (h0 : inFl f0 = true) : fix Tb md 119 [sAnswer a.version (row fExt a.exts) f0, sEdit e.kind e.n] = some ⟨[sAnswer (editA a e).version (row fExt (editA a e).exts) (.ow false)], [], none⟩ := by
 obtain ⟨b1, hb1⟩ := nm (decide (e.kind = 4))
 obtain ⟨b2, hb2⟩ := nm (inR e.n 1 9)
 obtain ⟨b3, hb3⟩ := nm (decide (e.kind = 5))
 have h45 : b1 = true → b3 = false := by intro q; rw [hb1] at q; rw [hb3]; simp at q ⊢; omega
 have hv : editA a e = if (b1 && b2) = true then ⟨e.n, a.exts⟩ else if b3 = true then ⟨a.version, sel (notTag e.n) idE a.exts⟩ else a := by rw [hb1, hb2, hb3]; rfl
 obtain ⟨z, hz⟩ := nm (editA a e)
 rw [← hz] at hv ⊢
 have hA : b1 = true → b2 = true → z = ⟨e.n, a.exts⟩ := by intro q1 q2; rw [hv, q1, q2]; rfl
 have hB : (b1 && b2) = false → b3 = true → z = ⟨a.version, sel (notTag e.n) idE a.exts⟩ := by intro q1 q2; rw [hv, q1, q2]; rfl
 have hC : (b1 && b2) = false → b3 = false → z = a := by intro q1 q2; rw [hv, q1, q2]; rfl
 obtain ⟨et, het⟩ := nm (row fExt z.exts)
 rw [← het]
 generalize hr : (⟨_, [], none⟩ : Ret) = r
 obtain ⟨ea, hea⟩ := nm (row fExt a.exts)
 rw [← hea]
 obtain ⟨ed, hed⟩ := nm (row fExt (sel (notTag e.n) idE a.exts))
 refine fix_fn2 (fn := ir119) tb_119 rfl rfl (by decide) rfl ?_; intro Q hQ; simp only [shutArgs, shutS, List.map_cons, List.map_nil, ir119, shut_in h0, List.head?_nil, reduceCtorEq, if_false, sExt, sHello, sAnswer, sEdit, sDeal, sBox, sDialed, sKnown]
 intro add sub mul arith eq ne lt le gt ge neg conv mn mx not beq len at' ln bd cut app allS isNil mks set o hP F ho
 have c1 : o 266 [R ea (.sp 0 0)] = some ⟨[R ea (.ow false)], [], none⟩ := by rw [ho, hea]; exact ok266 _ hl w rfl
 have c2 : o 232 [I e.n, I 1, I 9] = some ⟨[B b2], [], none⟩ := by rw [ho, hb2]; exact ok232 ..
 have c3 : o 264 [R ea (.sp 0 0), ⟨.val, [⟨.fn 267 [.ptr () [.int .i64 e.kind, .int .i64 e.n]], .sh⟩]⟩] = some ⟨[R ed (.ow false)], [], none⟩ := by
  rw [ho, hed, hea]
  exact ok264_1 267 rfl _ (fun t => decide (t ≠ e.n)) a.exts hl w (fun x _ => ok267 x.tag e.kind e.n) rfl
 have g1 : eq e.kind 4 = b1 := by rw [F.eq, hb1]
 have g2 : eq e.kind 5 = b3 := by rw [F.eq, hb3]
 cbv
 rw [c1]; cbv
 rw [g1]; cbv
 refine both (fun d1 => ?_) (fun d1 => ?_) <;> rw [d1] <;> cbv
 ·rw [c2]; cbv
  refine both (fun d2 => ?_) (fun d2 => ?_) <;> rw [d2] <;> cbv
  ·rw [hQ]; cbv
   have hv := hA d1 d2
   rw [← hr, het, hv, hea]
  ·rw [hQ]; cbv
   have hv := hC (by rw [d1, d2]; rfl) (h45 d1)
   rw [← hr, het, hv, hea]
 ·rw [g2]; cbv
  refine both (fun d3 => ?_) (fun d3 => ?_) <;> rw [d3] <;> cbv
  ·rw [c3]; cbv
   rw [hQ]; cbv
   have hv := hB (by rw [d1]; rfl) d3
   rw [← hr, het, hv, hed]
  ·rw [hQ]; cbv
   have hv := hC (by rw [d1]; rfl) d3
   rw [← hr, het, hv, hea]
theorem ok114 (k : Int) : fix Tb md 114 [I k] = some ⟨[B (vKey k)], [], none⟩ := by
 obtain ⟨a, ha⟩ := nm (vKey k)
 rw [← ha]
 generalize hr : (⟨_, [], none⟩ : Ret) = r
 refine fix_fn2 (fn := ir114) tb_114 rfl rfl (by decide) rfl ?_; intro Q hQ; simp only [shutArgs, shutS, List.map_cons, List.map_nil, ir114, List.head?_nil, reduceCtorEq, if_false, sExt, sHello, sAnswer, sEdit, sDeal, sBox, sDialed, sKnown]
 intro add sub mul arith eq ne lt le gt ge neg conv mn mx not beq len at' ln bd cut app allS isNil mks set o hP F ho
 have c1 : o 232 [I k, I 1, I 2147483646] = some ⟨[B a], [], none⟩ := by rw [ho, ha]; exact ok232 ..
 cbv
 rw [c1]; cbv
 rw [hQ]; cbv
 exact congrArg some hr
theorem ok349 (n m : Int) : fix Tb md 349 [I n, I m] = some ⟨[I (modV n m)], [], none⟩ := by
 obtain ⟨T, hT⟩ := nm (modV n m)
 rw [← hT]
 generalize hr : (⟨_, [], none⟩ : Ret) = r
 obtain ⟨v, hv⟩ := nm (inR m 1 1000000000000)
 refine fix_fn2 (fn := ir349) tb_349 rfl rfl (by decide) rfl ?_; intro Q hQ; simp only [shutArgs, shutS, List.map_cons, List.map_nil, ir349, List.head?_nil, reduceCtorEq, if_false, sExt, sHello, sAnswer, sEdit, sDeal, sBox, sDialed, sKnown]
 intro add sub mul arith eq ne lt le gt ge neg conv mn mx not beq len at' ln bd cut app allS isNil mks set o hP F ho
 have c1 : o 232 [I m, I 1, I 1000000000000] = some ⟨[B v], [], none⟩ := by rw [ho, hv]; exact ok232 ..
 cbv
 rw [c1]; cbv
 refine both (fun d1 => ?_) (fun d1 => ?_) <;> rw [d1] <;> cbv
 ·rw [hQ]; cbv
  have hv0 := F.not_t d1
  rw [← hr, hT]; unfold modV; rw [← hv, hv0]; rfl
 have hv1 := F.not_f d1
 have hm : m ≠ 0 := by rw [hv] at hv1; simp [inR] at hv1; omega
 obtain ⟨n1, hn1⟩ := nm (Int.tmod n m)
 obtain ⟨n2, hn2⟩ := nm (add .i64 n1 m)
 obtain ⟨n3, hn3⟩ := nm (Int.tmod n2 m)
 rw [show arith .rem .i64 n m = some (.int .i64 n1) by rw [F.arith, hn1]; exact rem_nz hm]; cbv
 rw [← hn2]
 rw [show arith .rem .i64 n2 m = some (.int .i64 n3) by rw [F.arith, hn3]; exact rem_nz hm]; cbv
 rw [hQ]; cbv
 rw [← hr, hT]; unfold modV; rw [← hv, hv1, if_pos rfl, hn3, hn2, hn1, F.add]
theorem ok269 (l : List Int) (hl : l.length ≤ 1099511627776) {f0 : Fl} (h0 : inFl f0 = true) : fix Tb md 269 [R (row fI l) f0] = some ⟨[I (hashV l)], [], none⟩ := by
 obtain ⟨T, hT⟩ := nm (hashV l)
 rw [← hT]
 generalize hr : (⟨_, [], none⟩ : Ret) = r
 obtain ⟨ea, hea⟩ := nm (row fI l)
 rw [← hea]
 refine fix_fn2 (fn := ir269) tb_269 rfl rfl (by decide) rfl ?_; intro Q hQ; simp only [shutArgs, shutS, List.map_cons, List.map_nil, ir269, shut_in h0, List.head?_nil, reduceCtorEq, if_false, sExt, sHello, sAnswer, sEdit, sDeal, sBox, sDialed, sKnown]
 intro add sub mul arith eq ne lt le gt ge neg conv mn mx not beq len at' ln bd cut app allS isNil mks set o hP F ho
 have la := F.len_at hea
 cbv
 refine loop_ind2 hP (σ := List Int × List Int × Int × Int × Option Int) (fun s => match s.2.2.2.2 with
   | none => [(0, R ea .sh), (2, I 0), (3, I s.2.2.1), (6, R ea .sh), (7, I (len ea)), (8, I s.2.2.2.1)]
   | some j => [(0, R ea .sh), (2, I 0), (3, I s.2.2.1), (5, I j), (6, R ea .sh), (7, I (len ea)), (8, I s.2.2.2.1)]) (fun s => At s.2.2.2.1 s.2.1.length ∧ l = s.2.1 ++ s.1 ∧ s.1.foldl hstep s.2.2.1 = T) (fun s => s.1.length) (l, [], 11, 0, none) rfl ⟨rfl, rfl, hT.symm⟩ ?_
 intro c1 Q1 hc1 hQ1
 rintro ⟨suf, pre, d, i, j⟩ ⟨hi, hl', hb⟩ ih
 simp only at hi hl' hb ih
 rcases j with _ | _
 all_goals
  cbv
  cases suf with
  | nil =>
   rw [F.lt_f hi la (by simp [hl'])]; cbv
   rw [hQ1]; cbv
   rw [hQ]; cbv
   rw [← hr, ← hb]; rfl
  | cons x suf =>
   rw [List.foldl_cons] at hb
   rw [F.lt_t hi la (by simp [hl'])]; cbv
   obtain ⟨ix, hix⟩ := nm (pre.length * 1)
   rw [show at' 1 ea i = some (ix, [.int .i64 x]) by rw [hix]; exact F.get hi hea hl' (fun _ => rfl) (by decide)]; cbv
   obtain ⟨v, hv⟩ := nm (modV x 2147483647)
   rw [show o 349 [I x, I 2147483647] = some ⟨[I v], [], none⟩ by rw [ho, hv]; exact ok349 ..]; cbv
   obtain ⟨d', hd'⟩ := nm (hstep d x)
   rw [show arith .rem .i64 (add .i64 (add .i64 (mul .i64 d 1000003) v) 13) 2147483647 = some (.int .i64 d') by rw [F.arith, hd', F.add, F.add, F.mul]; unfold hstep; rw [← hv]; exact rem_nz (by decide)]; cbv
   rw [← hd'] at hb
   refine ih (suf, pre ++ [x], d', add .i64 i 1, some x) ⟨at_len (F.inc hi (by simp [hl'] at hl; omega)) (by simp), by simp [hl'], hb⟩ (by simp)
theorem ok341_0 (g : Nat) (hg : md g = []) (p : (List Int) → Bool) (l : List (List Int)) (hl : l.length ≤ 1099511627776) (hp : ∀ x ∈ l, fix Tb md g [R (row fI x) (.sp 0 0)] = some ⟨[B (p x)], [], none⟩) {f0 : Fl} (h0 : inFl f0 = true) :
  fix Tb md 341 [R (row fR l) f0, ⟨.val, [⟨.fn g [], .sh⟩]⟩] = some ⟨[I (ixOf p l 0)], [], none⟩ := by
 generalize hm : md = m at hg hp ⊢
 refine fix_fn (fn := ir341) tb_341 rfl rfl (by decide) rfl ?_; simp only [shutArgs, shutS, List.map_cons, List.map_nil, ir341, shut_in h0, List.head?_nil, reduceCtorEq, if_false, sExt, sHello, sAnswer, sEdit, sDeal, sBox, sDialed, sKnown]
 generalize hr : (⟨_, [], none⟩ : Ret) = r
 obtain ⟨ea, hea⟩ := nm (row fR l)
 rw [← hea]
 intro add sub mul arith eq ne lt le gt ge neg conv mn mx not beq len at' ln bd cut app allS isNil mks set o hP F ho
 have la := F.len_at hea
 cbv
 refine loop_ind hP (σ := List (List Int) × List (List Int) × Int × Option Int) (fun s => match s.2.2.2 with | none => [(0, R ea .sh), (1, ⟨.val, [⟨.fn g [], .sh⟩]⟩), (4, I 0), (7, I (len ea)), (8, I s.2.2.1)] | some j => [(0, R ea .sh), (1, ⟨.val, [⟨.fn g [], .sh⟩]⟩), (4, I 0), (5, I j), (7, I (len ea)), (8, I s.2.2.1)])
  (fun s => At s.2.2.1 s.2.1.length ∧ l = s.2.1 ++ s.1 ∧ ixOf p s.1 (s.2.1.length : Int) = ixOf p l 0) (fun s => s.1.length) (l, [], 0, none) rfl ⟨rfl, rfl, rfl⟩ ?_
 rintro ⟨suf, pre, i, j⟩ ⟨hi, hl', hx⟩ ih
 simp only at hi hl' hx ih
 have hi' : i = (pre.length : Int) := hi
 rw [← hi'] at hx
 cases j <;> cbv <;> (
  cases suf with
  | nil =>
   rw [F.lt_f hi la (by simp [hl'])]; cbv
   rw [← hr, ← hx]; rfl
  | cons x suf =>
   rw [F.lt_t hi la (by simp [hl'])]; cbv
   obtain ⟨e1, he1⟩ := nm (row fI x)
   obtain ⟨ix, hix⟩ := nm (pre.length * 1)
   rw [show at' 1 ea i = some (ix, [.row () e1]) by rw [hix, he1]; exact F.get hi hea hl' (fun _ => rfl) (by decide)]; cbv
   obtain ⟨v, hv⟩ := nm (p x)
   have c1 : o g [R e1 (.sp 0 0)] = some ⟨[B v], [], none⟩ := by rw [ho, hv, he1]; exact hp x (by rw [hl']; simp)
   rw [hg]; cbv
   rw [c1]; cbv
   have hx1 : ixOf p (x :: suf) i = if p x = true then i else ixOf p suf (i + 1) := rfl
   rw [hx1] at hx
   refine both (fun c => ?_) (fun c => ?_) <;> rw [c] <;> cbv
   ·rw [← hv, if_pos c] at hx
    rw [← hr, ← hx]
   ·rw [← hv, if_neg (by simp [c])] at hx
    refine ih (suf, pre ++ [x], add .i64 i 1, some i) ⟨at_len (F.inc hi (by simp [hl'] at hl; omega)) (by simp), by simp [hl'], ?_⟩ (by simp)
    rw [← hx, hi']
    simp)
theorem ok341_1 (g : Nat) (hg : md g = []) (k0 : V) (p : (List Int) → Bool) (l : List (List Int)) (hl : l.length ≤ 1099511627776) (hp : ∀ x ∈ l, fix Tb md g [R (row fI x) (.sp 0 0), ⟨.val, [⟨k0, .sh⟩]⟩] = some ⟨[B (p x)], [], none⟩) {f0 : Fl} (h0 : inFl f0 = true) :
  fix Tb md 341 [R (row fR l) f0, ⟨.val, [⟨.fn g [k0], .sh⟩]⟩] = some ⟨[I (ixOf p l 0)], [], none⟩ := by
 generalize hm : md = m at hg hp ⊢
 refine fix_fn (fn := ir341) tb_341 rfl rfl (by decide) rfl ?_; simp only [shutArgs, shutS, List.map_cons, List.map_nil, ir341, shut_in h0, List.head?_nil, reduceCtorEq, if_false, sExt, sHello, sAnswer, sEdit, sDeal, sBox, sDialed, sKnown]
 generalize hr : (⟨_, [], none⟩ : Ret) = r
 obtain ⟨ea, hea⟩ := nm (row fR l)
 rw [← hea]
 intro add sub mul arith eq ne lt le gt ge neg conv mn mx not beq len at' ln bd cut app allS isNil mks set o hP F ho
 have la := F.len_at hea
 cbv
 refine loop_ind hP (σ := List (List Int) × List (List Int) × Int × Option Int) (fun s => match s.2.2.2 with | none => [(0, R ea .sh), (1, ⟨.val, [⟨.fn g [k0], .sh⟩]⟩), (4, I 0), (7, I (len ea)), (8, I s.2.2.1)] | some j => [(0, R ea .sh), (1, ⟨.val, [⟨.fn g [k0], .sh⟩]⟩), (4, I 0), (5, I j), (7, I (len ea)), (8, I s.2.2.1)])
  (fun s => At s.2.2.1 s.2.1.length ∧ l = s.2.1 ++ s.1 ∧ ixOf p s.1 (s.2.1.length : Int) = ixOf p l 0) (fun s => s.1.length) (l, [], 0, none) rfl ⟨rfl, rfl, rfl⟩ ?_
 rintro ⟨suf, pre, i, j⟩ ⟨hi, hl', hx⟩ ih
 simp only at hi hl' hx ih
 have hi' : i = (pre.length : Int) := hi
 rw [← hi'] at hx
 cases j <;> cbv <;> (
  cases suf with
  | nil =>
   rw [F.lt_f hi la (by simp [hl'])]; cbv
   rw [← hr, ← hx]; rfl
  | cons x suf =>
   rw [F.lt_t hi la (by simp [hl'])]; cbv
   obtain ⟨e1, he1⟩ := nm (row fI x)
   obtain ⟨ix, hix⟩ := nm (pre.length * 1)
   rw [show at' 1 ea i = some (ix, [.row () e1]) by rw [hix, he1]; exact F.get hi hea hl' (fun _ => rfl) (by decide)]; cbv
   obtain ⟨v, hv⟩ := nm (p x)
   have c1 : o g [R e1 (.sp 0 0), ⟨.val, [⟨k0, .sh⟩]⟩] = some ⟨[B v], [], none⟩ := by rw [ho, hv, he1]; exact hp x (by rw [hl']; simp)
   rw [hg]; cbv
   rw [c1]; cbv
   have hx1 : ixOf p (x :: suf) i = if p x = true then i else ixOf p suf (i + 1) := rfl
   rw [hx1] at hx
   refine both (fun c => ?_) (fun c => ?_) <;> rw [c] <;> cbv
   ·rw [← hv, if_pos c] at hx
    rw [← hr, ← hx]
   ·rw [← hv, if_neg (by simp [c])] at hx
    refine ih (suf, pre ++ [x], add .i64 i 1, some i) ⟨at_len (F.inc hi (by simp [hl'] at hl; omega)) (by simp), by simp [hl'], ?_⟩ (by simp)
    rw [← hx, hi']
    simp)
theorem ok234_0 (g : Nat) (hg : md g = []) (p : (List Int) → Bool) (l : List (List Int)) (hl : l.length ≤ 1099511627776) (hp : ∀ x ∈ l, fix Tb md g [R (row fI x) (.sp 0 0)] = some ⟨[B (p x)], [], none⟩) {f0 : Fl} (h0 : inFl f0 = true) :
  fix Tb md 234 [R (row fR l) f0, ⟨.val, [⟨.fn g [], .sh⟩]⟩] = some ⟨[B (l.any p)], [], none⟩ := by
 refine fix_fn (fn := ir234) tb_234 rfl rfl (by decide) rfl ?_; simp only [shutArgs, shutS, List.map_cons, List.map_nil, ir234, shut_in h0, List.head?_nil, reduceCtorEq, if_false, sExt, sHello, sAnswer, sEdit, sDeal, sBox, sDialed, sKnown]
 generalize hr : (⟨_, [], none⟩ : Ret) = r
 obtain ⟨ea, hea⟩ := nm (row fR l)
 rw [← hea]
 obtain ⟨v, hv⟩ := nm (ixOf p l 0)
 have hv2 : decide (0 ≤ v) = l.any p := by rw [hv]; exact ixOf_ge p l 0 (by decide)
 rw [← hv2] at hr
 clear hv2
 intro add sub mul arith eq ne lt le gt ge neg conv mn mx not beq len at' ln bd cut app allS isNil mks set o hP F ho
 have c1 : o 341 [R ea (.sp 0 0), ⟨.val, [⟨.fn g [], .sh⟩]⟩] = some ⟨[I v], [], none⟩ := by rw [ho, hv, hea]; exact ok341_0 g hg p l hl hp rfl
 cbv
 rw [c1]; cbv
 rw [← hr, F.ge]
theorem ok234_1 (g : Nat) (hg : md g = []) (k0 : V) (p : (List Int) → Bool) (l : List (List Int)) (hl : l.length ≤ 1099511627776) (hp : ∀ x ∈ l, fix Tb md g [R (row fI x) (.sp 0 0), ⟨.val, [⟨k0, .sh⟩]⟩] = some ⟨[B (p x)], [], none⟩) {f0 : Fl} (h0 : inFl f0 = true) :
  fix Tb md 234 [R (row fR l) f0, ⟨.val, [⟨.fn g [k0], .sh⟩]⟩] = some ⟨[B (l.any p)], [], none⟩ := by
 refine fix_fn (fn := ir234) tb_234 rfl rfl (by decide) rfl ?_; simp only [shutArgs, shutS, List.map_cons, List.map_nil, ir234, shut_in h0, List.head?_nil, reduceCtorEq, if_false, sExt, sHello, sAnswer, sEdit, sDeal, sBox, sDialed, sKnown]
 generalize hr : (⟨_, [], none⟩ : Ret) = r
 obtain ⟨ea, hea⟩ := nm (row fR l)
 rw [← hea]
 obtain ⟨v, hv⟩ := nm (ixOf p l 0)
 have hv2 : decide (0 ≤ v) = l.any p := by rw [hv]; exact ixOf_ge p l 0 (by decide)
 rw [← hv2] at hr
 clear hv2
 intro add sub mul arith eq ne lt le gt ge neg conv mn mx not beq len at' ln bd cut app allS isNil mks set o hP F ho
 have c1 : o 341 [R ea (.sp 0 0), ⟨.val, [⟨.fn g [k0], .sh⟩]⟩] = some ⟨[I v], [], none⟩ := by rw [ho, hv, hea]; exact ok341_1 g hg k0 p l hl hp rfl
 cbv
 rw [c1]; cbv
 rw [← hr, F.ge]
theorem ok235 (l : List Int) (hl : l.length ≤ 1099511627776) {f0 : Fl} (h0 : inFl f0 = true) : fix Tb md 235 [R (row fI l) f0] = some ⟨[B (!bytes l)], [], none⟩ := by
 refine fix_fn (fn := ir235) tb_235 rfl rfl (by decide) rfl ?_; simp only [shutArgs, shutS, List.map_cons, List.map_nil, ir235, shut_in h0, List.head?_nil, reduceCtorEq, if_false, sExt, sHello, sAnswer, sEdit, sDeal, sBox, sDialed, sKnown]
 generalize hr : (⟨_, [], none⟩ : Ret) = r
 obtain ⟨v, hv⟩ := nm (bytes l)
 obtain ⟨ea, hea⟩ := nm (row fI l)
 rw [← hv] at hr
 rw [← hea]
 intro add sub mul arith eq ne lt le gt ge neg conv mn mx not beq len at' ln bd cut app allS isNil mks set o hP F ho
 have c1 : o 233 [R ea (.sp 0 0), I 0, I 255] = some ⟨[B v], [], none⟩ := by rw [ho, hv, hea]; exact ok233 _ _ _ hl rfl
 cbv
 rw [c1]; cbv
 rw [← hr, F.not]
theorem ok73 (l : List (List Int)) (w : l.length ≤ 1048576 ∧ ∀ y ∈ l, y.length ≤ 1048576) {f0 : Fl} (h0 : inFl f0 = true) : fix Tb md 73 [R (row fR l) f0] = some ⟨[B (isTr l)], [], none⟩ := by
 have w1 := w.1
 refine fix_fn (fn := ir73) tb_73 rfl rfl (by decide) rfl ?_; simp only [shutArgs, shutS, List.map_cons, List.map_nil, ir73, shut_in h0, List.head?_nil, reduceCtorEq, if_false, sExt, sHello, sAnswer, sEdit, sDeal, sBox, sDialed, sKnown]
 generalize hr : (⟨_, [], none⟩ : Ret) = r
 obtain ⟨v, hv⟩ := nm (l.any fun y => !bytes y)
 have e : isTr l = (decide (l.length ≤ 12) && !v) := by rw [hv]; unfold isTr; rw [List.all_eq_not_any_not, Bool.and_comm]
 obtain ⟨ea, hea⟩ := nm (row fR l)
 rw [e] at hr
 rw [← hea]
 intro add sub mul arith eq ne lt le gt ge neg conv mn mx not beq len at' ln bd cut app allS isNil mks set o hP F ho
 have la := F.len_at hea
 have c1 : o 234 [R ea (.sp 0 0), ⟨.val, [⟨.fn 235 [], .sh⟩]⟩] = some ⟨[B v], [], none⟩ := by rw [ho, hv, hea]; exact ok234_0 235 rfl _ l (by omega) (fun x hx => ok235 x (by have := w.2 x hx; omega) rfl) rfl
 cbv
 repeat' (first | (rw [c1]; cbv) | (refine both (fun c => ?_) (fun c => ?_) <;> (try rw [c]) <;> (try cbv)))
 all_goals (clear hP c1 ho; unfold At at la; try simp only [F.eq, F.ne, F.le, F.lt, F.ge, F.gt, F.not, F.beq, la] at *; clear F; subst hr)
 all_goals (simp_all [] <;> (intros; omega))
end Go.Vm
