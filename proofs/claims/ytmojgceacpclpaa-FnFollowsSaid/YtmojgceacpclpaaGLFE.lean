/- What the functions answer. -/
import Derived.Test.YtmojgceacpclpaaGLTab
import Derived.Test.YtmojgceacpclpaaGLFA
import Derived.Test.YtmojgceacpclpaaGLFD
set_option maxHeartbeats 4000000
set_option maxRecDepth 10000
set_option linter.unusedVariables false
set_option linter.unusedSimpArgs false
namespace Go.Vm
def clash (x o : Move) : Bool := decide (o.src = x.src) && (!decide (o.send = x.send) || decide (o.msg = x.msg))
def inM (st : Int) (x : Move) : Bool := inR x.src 0 (st - 1) && inR x.dst 0 (st - 1) && inR x.msg 0 5
def mvOk (st : Int) : List Move → List Move → Bool
 | _, [] => true
 | pre, x :: suf => inM st x && !pre.any (clash x) && mvOk st (pre ++ [x]) suf
def mchO (st : Int) (es : List Bool) (l : List Move) : Bool := inR st 1 6 && decide ((es.length : Int) = st) && !decide (12 < (l.length : Int)) && mvOk st [] l
theorem ok214 (st : Int) (es : List Bool) (l : List Move) (he : es.length ≤ 1073741824) (hl : l.length ≤ 1073741824) {f0 f1 : Fl} (h0 : inFl f0 = true) (h1 : inFl f1 = true) : fix Tb md 214 [sMach st (row fB es) (row fMove l) f0 f1] = some ⟨[B (mchO st es l)], [], none⟩ := by
 obtain ⟨T, hT⟩ := nm (mchO st es l)
 rw [← hT]
 generalize hr : (⟨_, [], none⟩ : Ret) = r
 obtain ⟨ea, hea⟩ := nm (row fMove l)
 obtain ⟨eb, heb⟩ := nm (row fB es)
 rw [← hea, ← heb]
 obtain ⟨u1, hu1⟩ := nm (inR st 1 6)
 obtain ⟨u2, hu2⟩ := nm (decide ((es.length : Int) = st))
 obtain ⟨u3, hu3⟩ := nm (decide (12 < (l.length : Int)))
 have hT' : T = (u1 && u2 && !u3 && mvOk st [] l) := by rw [hT, hu1, hu2, hu3]; rfl
 have hst : u1 = true → IntKind.wrap .i64 (st - 1) = st - 1 := fun q => by rw [hu1] at q; unfold inR at q; simp at q; rw [wrap64 (by omega) (by omega)]
 obtain ⟨m1, hm1⟩ := nm (st - 1)
 rw [← hm1] at hst
 have hl12 : u3 = false → l.length ≤ 12 := fun q => by rw [hu3, decide_eq_false_iff_not] at q; omega
 refine fix_fn2 (fn := ir214) tb_214 rfl rfl (by decide) rfl ?_; intro Q hQ; simp only [shutArgs, shutS, List.map_cons, List.map_nil, ir214, shut_in h0, shut_in h1, List.head?_nil, reduceCtorEq, if_false, sExt, sHello, sAnswer, sEdit, sDeal, sBox, sDialed, sKnown, sMach, sMove]
 intro add sub mul arith eq ne lt le gt ge neg conv mn mx not beq len at' ln bd cut app allS isNil mks set o hP F ho
 have la := F.len_at hea
 have c1 : o 232 [I st, I 1, I 6] = some ⟨[B u1], [], none⟩ := by rw [ho, hu1]; exact ok232 ..
 have g2 : ne (len eb) st = !u2 := by rw [F.ne, show len eb = (es.length : Int) from F.len_at heb, hu2]; simp
 have g3 : gt (len ea) 12 = u3 := by rw [F.gt, show len ea = (l.length : Int) from la, hu3]
 cbv
 rw [c1]; cbv
 refine both (fun d1 => ?_) (fun d1 => ?_) <;> rw [d1] <;> cbv
 ·rw [hQ]; cbv
  rw [F.not_t d1] at hT'
  rw [← hr, hT']; rfl
 ·have e1 := F.not_f d1
  rw [e1] at hT'
  have hs : sub .i64 st 1 = m1 := by rw [F.sub, ← hm1]; exact hst e1
  rw [g2]
  refine both (fun d2 => ?_) (fun d2 => ?_) <;> rw [d2] <;> cbv
  ·have e2 : u2 = false := by simpa using d2
   rw [hQ]; cbv
   rw [e2] at hT'
   rw [← hr, hT']; rfl
  ·have e2 : u2 = true := by simpa using d2
   rw [g3]
   refine both (fun d3 => ?_) (fun d3 => ?_) <;> rw [d3] <;> cbv
   ·rw [hQ]; cbv
    rw [e2, d3] at hT'
    rw [← hr, hT']; rfl
   ·rw [e2, d3] at hT'
    have hT1 : T = mvOk st [] l := hT'
    have hl12' := hl12 d3
    clear hT' hl12 g2 g3 c1 d1 d2 d3 hst
    refine loop_ind2 hP (σ := List Move × List Move × Int × Option (Move × Int × List (List V) × Int × Int × Option Move)) (fun s => match s.2.2.2 with
     | none => [(0, sMach st eb ea .sh .sh), (1, ⟨.ptr 86 0, []⟩), (2, B false), (26, R ea .sh), (27, I (len ea)), (28, I s.2.2.1), (86, ⟨.box (), [⟨.int .i64 st, .sc⟩, ⟨.row () eb, .sh⟩, ⟨.row () ea, .sh⟩]⟩)]
     | some (x, k, e, n, z, none) => [(0, sMach st eb ea .sh .sh), (1, ⟨.ptr 86 0, []⟩), (2, B false), (3, I k), (4, ⟨.ptr 89 0, []⟩), (26, R ea .sh), (27, I (len ea)), (28, I s.2.2.1), (58, R e .sh), (59, I n), (60, I z), (86, ⟨.box (), [⟨.int .i64 st, .sc⟩, ⟨.row () eb, .sh⟩, ⟨.row () ea, .sh⟩]⟩), (89, ⟨.box (), [⟨.int .i64 x.src, .sc⟩, ⟨.bool x.send, .sc⟩, ⟨.int .i64 x.msg, .sc⟩, ⟨.int .i64 x.dst, .sc⟩]⟩)]
     | some (x, k, e, n, z, some y) => [(0, sMach st eb ea .sh .sh), (1, ⟨.ptr 86 0, []⟩), (2, B false), (3, I k), (4, ⟨.ptr 89 0, []⟩), (6, ⟨.ptr 91 0, []⟩), (26, R ea .sh), (27, I (len ea)), (28, I s.2.2.1), (58, R e .sh), (59, I n), (60, I z), (86, ⟨.box (), [⟨.int .i64 st, .sc⟩, ⟨.row () eb, .sh⟩, ⟨.row () ea, .sh⟩]⟩), (89, ⟨.box (), [⟨.int .i64 x.src, .sc⟩, ⟨.bool x.send, .sc⟩, ⟨.int .i64 x.msg, .sc⟩, ⟨.int .i64 x.dst, .sc⟩]⟩), (91, ⟨.box (), [⟨.int .i64 y.src, .sc⟩, ⟨.bool y.send, .sc⟩, ⟨.int .i64 y.msg, .sc⟩, ⟨.int .i64 y.dst, .sc⟩]⟩)]) (fun s => At s.2.2.1 s.2.1.length ∧ l = s.2.1 ++ s.1 ∧ mvOk st s.2.1 s.1 = T) (fun s => s.1.length) (l, [], 0, none) rfl ⟨rfl, rfl, hT1.symm⟩ ?_
    clear hT1
    intro c9 Q1 hc9 hQ1
    rintro ⟨suf, pre, i, j⟩ ⟨hi, hl', hb⟩ ih
    simp only at hi hl' hb ih
    rcases j with _ | ⟨⟨o1, o2, o3, o4⟩, k0, e0, n0, z0, _ | ⟨q1, q2, q3, q4⟩⟩
    ·cbv
     cases suf with
     | nil =>
      rw [F.lt_f hi la (by simp [hl'])]; cbv
      rw [hQ1]; cbv
      rw [hQ]; cbv
      rw [← hr, ← hb]; rfl
     | cons x suf =>
      obtain ⟨x1, x2, x3, x4⟩ := x
      obtain ⟨ix, hix⟩ := nm (pre.length * 4)
      obtain ⟨ec, hec⟩ := nm (row fMove pre)
      obtain ⟨pn, hpn⟩ := nm (pre.length)
      obtain ⟨v1, hv1⟩ := nm (inR x1 0 m1)
      obtain ⟨v2, hv2⟩ := nm (inR x4 0 m1)
      obtain ⟨v3, hv3⟩ := nm (inR x3 0 5)
      have hin : inM st ⟨x1, x2, x3, x4⟩ = (v1 && v2 && v3) := by rw [hv1, hv2, hv3, hm1]; rfl
      have hb' : T = ((v1 && v2 && v3) && !pre.any (clash ⟨x1, x2, x3, x4⟩) && mvOk st (pre ++ [⟨x1, x2, x3, x4⟩]) suf) := by rw [← hb, ← hin]; rfl
      have hpre : pre.length ≤ 12 := by rw [hl'] at hl12'; simp at hl12'; omega
      have hi' : At (add .i64 i 1) (pre ++ [(⟨x1, x2, x3, x4⟩ : Move)]).length := at_len (F.inc hi (by omega)) (by simp)
      have hl2 : l = (pre ++ [⟨x1, x2, x3, x4⟩]) ++ suf := by rw [hl']; simp
      have p0 : at' 4 ea i = some (ix, [.int .i64 x1, .bool x2, .int .i64 x3, .int .i64 x4]) := by rw [hix]; exact F.get hi hea hl' (fun _ => rfl) (by decide)
      have c1 : o 232 [I x1, I 0, I m1] = some ⟨[B v1], [], none⟩ := by rw [ho, hv1]; exact ok232 ..
      have c2 : o 232 [I x4, I 0, I m1] = some ⟨[B v2], [], none⟩ := by rw [ho, hv2]; exact ok232 ..
      have c3 : o 232 [I x3, I 0, I 5] = some ⟨[B v3], [], none⟩ := by rw [ho, hv3]; exact ok232 ..
      have b1 : bd (ln ea) i = some pn := by rw [F.ln' hea, hpn]; exact F.bd' hi (by rw [hl']; simp)
      have b2 : cut 4 ea pn 0 = some ec := by rw [F.cut' hea (fun _ => rfl), hec, hl', hpn]; simp
      have lc := F.len_at hec
      rw [F.lt_t hi la (by simp [hl'])]; cbv
      rw [p0]; cbv
      rw [hs]; cbv
      rw [c1]; cbv
      refine both (fun d1 => ?_) (fun d1 => ?_) <;> rw [d1] <;> cbv
      ·rw [hQ1]; cbv
       rw [hQ]; cbv
       rw [F.not_t d1] at hb'
       rw [← hr, hb']; rfl
      ·rw [hs]; cbv
       rw [c2]; cbv
       refine both (fun d2 => ?_) (fun d2 => ?_) <;> rw [d2] <;> cbv
       ·rw [hQ1]; cbv
        rw [hQ]; cbv
        rw [F.not_t d2] at hb'
        rw [← hr, hb', Bool.and_false]; rfl
       ·rw [c3]; cbv
        refine both (fun d3 => ?_) (fun d3 => ?_) <;> rw [d3] <;> cbv
        ·rw [hQ1]; cbv
         rw [hQ]; cbv
         rw [F.not_t d3] at hb'
         rw [← hr, hb', Bool.and_false]; rfl
        ·rw [F.not_f d1, F.not_f d2, F.not_f d3] at hb'
         have hb2 : T = (!pre.any (clash ⟨x1, x2, x3, x4⟩) && mvOk st (pre ++ [⟨x1, x2, x3, x4⟩]) suf) := hb'
         rw [b1]; cbv
         rw [b2]; cbv
         refine loop_ind2 hP (σ := List Move × List Move × Int × Option Move) (fun s => match s.2.2.2 with
          | none => [(0, sMach st eb ea .sh .sh), (1, ⟨.ptr 86 0, []⟩), (2, B false), (3, I i), (4, ⟨.ptr 89 0, []⟩), (26, R ea .sh), (27, I (len ea)), (28, I i), (58, R ec .sh), (59, I (len ec)), (60, I s.2.2.1), (86, ⟨.box (), [⟨.int .i64 st, .sc⟩, ⟨.row () eb, .sh⟩, ⟨.row () ea, .sh⟩]⟩), (89, ⟨.box (), [⟨.int .i64 x1, .sc⟩, ⟨.bool x2, .sc⟩, ⟨.int .i64 x3, .sc⟩, ⟨.int .i64 x4, .sc⟩]⟩)]
          | some y => [(0, sMach st eb ea .sh .sh), (1, ⟨.ptr 86 0, []⟩), (2, B false), (3, I i), (4, ⟨.ptr 89 0, []⟩), (6, ⟨.ptr 91 0, []⟩), (26, R ea .sh), (27, I (len ea)), (28, I i), (58, R ec .sh), (59, I (len ec)), (60, I s.2.2.1), (86, ⟨.box (), [⟨.int .i64 st, .sc⟩, ⟨.row () eb, .sh⟩, ⟨.row () ea, .sh⟩]⟩), (89, ⟨.box (), [⟨.int .i64 x1, .sc⟩, ⟨.bool x2, .sc⟩, ⟨.int .i64 x3, .sc⟩, ⟨.int .i64 x4, .sc⟩]⟩), (91, ⟨.box (), [⟨.int .i64 y.src, .sc⟩, ⟨.bool y.send, .sc⟩, ⟨.int .i64 y.msg, .sc⟩, ⟨.int .i64 y.dst, .sc⟩]⟩)]) (fun s => At s.2.2.1 s.2.1.length ∧ pre = s.2.1 ++ s.1 ∧ s.1.any (clash ⟨x1, x2, x3, x4⟩) = pre.any (clash ⟨x1, x2, x3, x4⟩)) (fun s => s.1.length) (pre, [], 0, none) rfl ⟨rfl, rfl, rfl⟩ ?_
         intro c8 Q2 hc8 hQ2
         rintro ⟨s2, p2, k, y⟩ ⟨hk, hp, hv⟩ ih2
         simp only at hk hp hv ih2
         rcases y with _ | ⟨y1, y2, y3, y4⟩
         all_goals
          cbv
          cases s2 with
          | nil =>
           rw [← hv] at hb2
           rw [F.lt_f hk lc (by simp [hp])]; cbv
           rw [hQ2]; cbv
           have hb3 : T = mvOk st (pre ++ [⟨x1, x2, x3, x4⟩]) suf := hb2
           first
           | exact ih (suf, pre ++ [⟨x1, x2, x3, x4⟩], add .i64 i 1, some (⟨x1, x2, x3, x4⟩, i, ec, len ec, k, none)) ⟨hi', hl2, hb3.symm⟩ (by simp)
           | exact ih (suf, pre ++ [⟨x1, x2, x3, x4⟩], add .i64 i 1, some (⟨x1, x2, x3, x4⟩, i, ec, len ec, k, some ⟨y1, y2, y3, y4⟩)) ⟨hi', hl2, hb3.symm⟩ (by simp)
          | cons z s2 =>
           obtain ⟨z1, z2, z3, z4⟩ := z
           obtain ⟨iz, hiz⟩ := nm (p2.length * 4)
           have hp2 : p2.length ≤ 12 := by rw [hp] at hpre; simp at hpre; omega
           have hk' : At (add .i64 k 1) (p2 ++ [(⟨z1, z2, z3, z4⟩ : Move)]).length := at_len (F.inc hk (by omega)) (by simp)
           have hp3 : pre = (p2 ++ [⟨z1, z2, z3, z4⟩]) ++ s2 := by rw [hp]; simp
           have r0 : at' 4 ec k = some (iz, [.int .i64 z1, .bool z2, .int .i64 z3, .int .i64 z4]) := by rw [hiz]; exact F.get hk hec hp (fun _ => rfl) (by decide)
           have g1 : eq z1 x1 = decide (z1 = x1) := F.eq ..
           have g2 : beq z2 x2 = decide (z2 = x2) := F.beq ..
           have g3 : eq z3 x3 = decide (z3 = x3) := F.eq ..
           have hcl : clash ⟨x1, x2, x3, x4⟩ ⟨z1, z2, z3, z4⟩ = (decide (z1 = x1) && (!decide (z2 = x2) || decide (z3 = x3))) := rfl
           rw [List.any_cons, hcl] at hv
           rw [F.lt_t hk lc (by simp [hp])]; cbv
           rw [r0]; cbv
           rw [g1]
           refine both (fun w1 => ?_) (fun w1 => ?_) <;> rw [w1] <;> cbv
           ·rw [w1, Bool.true_and] at hv
            rw [g2]
            refine both (fun w2 => ?_) (fun w2 => ?_) <;> rw [w2] <;> cbv
            ·rw [hQ2]; cbv
             rw [hQ1]; cbv
             rw [hQ]; cbv
             rw [F.not_t w2] at hv
             rw [← hv] at hb2
             rw [← hr, hb2]; rfl
            ·rw [F.not_f w2] at hv
             rw [g3]
             refine both (fun w3 => ?_) (fun w3 => ?_) <;> rw [w3] <;> cbv
             ·rw [hQ2]; cbv
              rw [hQ1]; cbv
              rw [hQ]; cbv
              rw [w3] at hv
              rw [← hv] at hb2
              rw [← hr, hb2]; rfl
             ·rw [w3] at hv
              exact ih2 (s2, p2 ++ [⟨z1, z2, z3, z4⟩], add .i64 k 1, some ⟨z1, z2, z3, z4⟩) ⟨hk', hp3, hv⟩ (by simp)
           ·rw [w1, Bool.false_and, Bool.false_or] at hv
            exact ih2 (s2, p2 ++ [⟨z1, z2, z3, z4⟩], add .i64 k 1, some ⟨z1, z2, z3, z4⟩) ⟨hk', hp3, hv⟩ (by simp)
    ·cbv
     cases suf with
     | nil =>
      rw [F.lt_f hi la (by simp [hl'])]; cbv
      rw [hQ1]; cbv
      rw [hQ]; cbv
      rw [← hr, ← hb]; rfl
     | cons x suf =>
      obtain ⟨x1, x2, x3, x4⟩ := x
      obtain ⟨ix, hix⟩ := nm (pre.length * 4)
      obtain ⟨ec, hec⟩ := nm (row fMove pre)
      obtain ⟨pn, hpn⟩ := nm (pre.length)
      obtain ⟨v1, hv1⟩ := nm (inR x1 0 m1)
      obtain ⟨v2, hv2⟩ := nm (inR x4 0 m1)
      obtain ⟨v3, hv3⟩ := nm (inR x3 0 5)
      have hin : inM st ⟨x1, x2, x3, x4⟩ = (v1 && v2 && v3) := by rw [hv1, hv2, hv3, hm1]; rfl
      have hb' : T = ((v1 && v2 && v3) && !pre.any (clash ⟨x1, x2, x3, x4⟩) && mvOk st (pre ++ [⟨x1, x2, x3, x4⟩]) suf) := by rw [← hb, ← hin]; rfl
      have hpre : pre.length ≤ 12 := by rw [hl'] at hl12'; simp at hl12'; omega
      have hi' : At (add .i64 i 1) (pre ++ [(⟨x1, x2, x3, x4⟩ : Move)]).length := at_len (F.inc hi (by omega)) (by simp)
      have hl2 : l = (pre ++ [⟨x1, x2, x3, x4⟩]) ++ suf := by rw [hl']; simp
      have p0 : at' 4 ea i = some (ix, [.int .i64 x1, .bool x2, .int .i64 x3, .int .i64 x4]) := by rw [hix]; exact F.get hi hea hl' (fun _ => rfl) (by decide)
      have c1 : o 232 [I x1, I 0, I m1] = some ⟨[B v1], [], none⟩ := by rw [ho, hv1]; exact ok232 ..
      have c2 : o 232 [I x4, I 0, I m1] = some ⟨[B v2], [], none⟩ := by rw [ho, hv2]; exact ok232 ..
      have c3 : o 232 [I x3, I 0, I 5] = some ⟨[B v3], [], none⟩ := by rw [ho, hv3]; exact ok232 ..
      have b1 : bd (ln ea) i = some pn := by rw [F.ln' hea, hpn]; exact F.bd' hi (by rw [hl']; simp)
      have b2 : cut 4 ea pn 0 = some ec := by rw [F.cut' hea (fun _ => rfl), hec, hl', hpn]; simp
      have lc := F.len_at hec
      rw [F.lt_t hi la (by simp [hl'])]; cbv
      rw [p0]; cbv
      rw [hs]; cbv
      rw [c1]; cbv
      refine both (fun d1 => ?_) (fun d1 => ?_) <;> rw [d1] <;> cbv
      ·rw [hQ1]; cbv
       rw [hQ]; cbv
       rw [F.not_t d1] at hb'
       rw [← hr, hb']; rfl
      ·rw [hs]; cbv
       rw [c2]; cbv
       refine both (fun d2 => ?_) (fun d2 => ?_) <;> rw [d2] <;> cbv
       ·rw [hQ1]; cbv
        rw [hQ]; cbv
        rw [F.not_t d2] at hb'
        rw [← hr, hb', Bool.and_false]; rfl
       ·rw [c3]; cbv
        refine both (fun d3 => ?_) (fun d3 => ?_) <;> rw [d3] <;> cbv
        ·rw [hQ1]; cbv
         rw [hQ]; cbv
         rw [F.not_t d3] at hb'
         rw [← hr, hb', Bool.and_false]; rfl
        ·rw [F.not_f d1, F.not_f d2, F.not_f d3] at hb'
         have hb2 : T = (!pre.any (clash ⟨x1, x2, x3, x4⟩) && mvOk st (pre ++ [⟨x1, x2, x3, x4⟩]) suf) := hb'
         rw [b1]; cbv
         rw [b2]; cbv
         refine loop_ind2 hP (σ := List Move × List Move × Int × Option Move) (fun s => match s.2.2.2 with
          | none => [(0, sMach st eb ea .sh .sh), (1, ⟨.ptr 86 0, []⟩), (2, B false), (3, I i), (4, ⟨.ptr 89 0, []⟩), (26, R ea .sh), (27, I (len ea)), (28, I i), (58, R ec .sh), (59, I (len ec)), (60, I s.2.2.1), (86, ⟨.box (), [⟨.int .i64 st, .sc⟩, ⟨.row () eb, .sh⟩, ⟨.row () ea, .sh⟩]⟩), (89, ⟨.box (), [⟨.int .i64 x1, .sc⟩, ⟨.bool x2, .sc⟩, ⟨.int .i64 x3, .sc⟩, ⟨.int .i64 x4, .sc⟩]⟩)]
          | some y => [(0, sMach st eb ea .sh .sh), (1, ⟨.ptr 86 0, []⟩), (2, B false), (3, I i), (4, ⟨.ptr 89 0, []⟩), (6, ⟨.ptr 91 0, []⟩), (26, R ea .sh), (27, I (len ea)), (28, I i), (58, R ec .sh), (59, I (len ec)), (60, I s.2.2.1), (86, ⟨.box (), [⟨.int .i64 st, .sc⟩, ⟨.row () eb, .sh⟩, ⟨.row () ea, .sh⟩]⟩), (89, ⟨.box (), [⟨.int .i64 x1, .sc⟩, ⟨.bool x2, .sc⟩, ⟨.int .i64 x3, .sc⟩, ⟨.int .i64 x4, .sc⟩]⟩), (91, ⟨.box (), [⟨.int .i64 y.src, .sc⟩, ⟨.bool y.send, .sc⟩, ⟨.int .i64 y.msg, .sc⟩, ⟨.int .i64 y.dst, .sc⟩]⟩)]) (fun s => At s.2.2.1 s.2.1.length ∧ pre = s.2.1 ++ s.1 ∧ s.1.any (clash ⟨x1, x2, x3, x4⟩) = pre.any (clash ⟨x1, x2, x3, x4⟩)) (fun s => s.1.length) (pre, [], 0, none) rfl ⟨rfl, rfl, rfl⟩ ?_
         intro c8 Q2 hc8 hQ2
         rintro ⟨s2, p2, k, y⟩ ⟨hk, hp, hv⟩ ih2
         simp only at hk hp hv ih2
         rcases y with _ | ⟨y1, y2, y3, y4⟩
         all_goals
          cbv
          cases s2 with
          | nil =>
           rw [← hv] at hb2
           rw [F.lt_f hk lc (by simp [hp])]; cbv
           rw [hQ2]; cbv
           have hb3 : T = mvOk st (pre ++ [⟨x1, x2, x3, x4⟩]) suf := hb2
           first
           | exact ih (suf, pre ++ [⟨x1, x2, x3, x4⟩], add .i64 i 1, some (⟨x1, x2, x3, x4⟩, i, ec, len ec, k, none)) ⟨hi', hl2, hb3.symm⟩ (by simp)
           | exact ih (suf, pre ++ [⟨x1, x2, x3, x4⟩], add .i64 i 1, some (⟨x1, x2, x3, x4⟩, i, ec, len ec, k, some ⟨y1, y2, y3, y4⟩)) ⟨hi', hl2, hb3.symm⟩ (by simp)
          | cons z s2 =>
           obtain ⟨z1, z2, z3, z4⟩ := z
           obtain ⟨iz, hiz⟩ := nm (p2.length * 4)
           have hp2 : p2.length ≤ 12 := by rw [hp] at hpre; simp at hpre; omega
           have hk' : At (add .i64 k 1) (p2 ++ [(⟨z1, z2, z3, z4⟩ : Move)]).length := at_len (F.inc hk (by omega)) (by simp)
           have hp3 : pre = (p2 ++ [⟨z1, z2, z3, z4⟩]) ++ s2 := by rw [hp]; simp
           have r0 : at' 4 ec k = some (iz, [.int .i64 z1, .bool z2, .int .i64 z3, .int .i64 z4]) := by rw [hiz]; exact F.get hk hec hp (fun _ => rfl) (by decide)
           have g1 : eq z1 x1 = decide (z1 = x1) := F.eq ..
           have g2 : beq z2 x2 = decide (z2 = x2) := F.beq ..
           have g3 : eq z3 x3 = decide (z3 = x3) := F.eq ..
           have hcl : clash ⟨x1, x2, x3, x4⟩ ⟨z1, z2, z3, z4⟩ = (decide (z1 = x1) && (!decide (z2 = x2) || decide (z3 = x3))) := rfl
           rw [List.any_cons, hcl] at hv
           rw [F.lt_t hk lc (by simp [hp])]; cbv
           rw [r0]; cbv
           rw [g1]
           refine both (fun w1 => ?_) (fun w1 => ?_) <;> rw [w1] <;> cbv
           ·rw [w1, Bool.true_and] at hv
            rw [g2]
            refine both (fun w2 => ?_) (fun w2 => ?_) <;> rw [w2] <;> cbv
            ·rw [hQ2]; cbv
             rw [hQ1]; cbv
             rw [hQ]; cbv
             rw [F.not_t w2] at hv
             rw [← hv] at hb2
             rw [← hr, hb2]; rfl
            ·rw [F.not_f w2] at hv
             rw [g3]
             refine both (fun w3 => ?_) (fun w3 => ?_) <;> rw [w3] <;> cbv
             ·rw [hQ2]; cbv
              rw [hQ1]; cbv
              rw [hQ]; cbv
              rw [w3] at hv
              rw [← hv] at hb2
              rw [← hr, hb2]; rfl
             ·rw [w3] at hv
              exact ih2 (s2, p2 ++ [⟨z1, z2, z3, z4⟩], add .i64 k 1, some ⟨z1, z2, z3, z4⟩) ⟨hk', hp3, hv⟩ (by simp)
           ·rw [w1, Bool.false_and, Bool.false_or] at hv
            exact ih2 (s2, p2 ++ [⟨z1, z2, z3, z4⟩], add .i64 k 1, some ⟨z1, z2, z3, z4⟩) ⟨hk', hp3, hv⟩ (by simp)
    ·cbv
     cases suf with
     | nil =>
      rw [F.lt_f hi la (by simp [hl'])]; cbv
      rw [hQ1]; cbv
      rw [hQ]; cbv
      rw [← hr, ← hb]; rfl
     | cons x suf =>
      obtain ⟨x1, x2, x3, x4⟩ := x
      obtain ⟨ix, hix⟩ := nm (pre.length * 4)
      obtain ⟨ec, hec⟩ := nm (row fMove pre)
      obtain ⟨pn, hpn⟩ := nm (pre.length)
      obtain ⟨v1, hv1⟩ := nm (inR x1 0 m1)
      obtain ⟨v2, hv2⟩ := nm (inR x4 0 m1)
      obtain ⟨v3, hv3⟩ := nm (inR x3 0 5)
      have hin : inM st ⟨x1, x2, x3, x4⟩ = (v1 && v2 && v3) := by rw [hv1, hv2, hv3, hm1]; rfl
      have hb' : T = ((v1 && v2 && v3) && !pre.any (clash ⟨x1, x2, x3, x4⟩) && mvOk st (pre ++ [⟨x1, x2, x3, x4⟩]) suf) := by rw [← hb, ← hin]; rfl
      have hpre : pre.length ≤ 12 := by rw [hl'] at hl12'; simp at hl12'; omega
      have hi' : At (add .i64 i 1) (pre ++ [(⟨x1, x2, x3, x4⟩ : Move)]).length := at_len (F.inc hi (by omega)) (by simp)
      have hl2 : l = (pre ++ [⟨x1, x2, x3, x4⟩]) ++ suf := by rw [hl']; simp
      have p0 : at' 4 ea i = some (ix, [.int .i64 x1, .bool x2, .int .i64 x3, .int .i64 x4]) := by rw [hix]; exact F.get hi hea hl' (fun _ => rfl) (by decide)
      have c1 : o 232 [I x1, I 0, I m1] = some ⟨[B v1], [], none⟩ := by rw [ho, hv1]; exact ok232 ..
      have c2 : o 232 [I x4, I 0, I m1] = some ⟨[B v2], [], none⟩ := by rw [ho, hv2]; exact ok232 ..
      have c3 : o 232 [I x3, I 0, I 5] = some ⟨[B v3], [], none⟩ := by rw [ho, hv3]; exact ok232 ..
      have b1 : bd (ln ea) i = some pn := by rw [F.ln' hea, hpn]; exact F.bd' hi (by rw [hl']; simp)
      have b2 : cut 4 ea pn 0 = some ec := by rw [F.cut' hea (fun _ => rfl), hec, hl', hpn]; simp
      have lc := F.len_at hec
      rw [F.lt_t hi la (by simp [hl'])]; cbv
      rw [p0]; cbv
      rw [hs]; cbv
      rw [c1]; cbv
      refine both (fun d1 => ?_) (fun d1 => ?_) <;> rw [d1] <;> cbv
      ·rw [hQ1]; cbv
       rw [hQ]; cbv
       rw [F.not_t d1] at hb'
       rw [← hr, hb']; rfl
      ·rw [hs]; cbv
       rw [c2]; cbv
       refine both (fun d2 => ?_) (fun d2 => ?_) <;> rw [d2] <;> cbv
       ·rw [hQ1]; cbv
        rw [hQ]; cbv
        rw [F.not_t d2] at hb'
        rw [← hr, hb', Bool.and_false]; rfl
       ·rw [c3]; cbv
        refine both (fun d3 => ?_) (fun d3 => ?_) <;> rw [d3] <;> cbv
        ·rw [hQ1]; cbv
         rw [hQ]; cbv
         rw [F.not_t d3] at hb'
         rw [← hr, hb', Bool.and_false]; rfl
        ·rw [F.not_f d1, F.not_f d2, F.not_f d3] at hb'
         have hb2 : T = (!pre.any (clash ⟨x1, x2, x3, x4⟩) && mvOk st (pre ++ [⟨x1, x2, x3, x4⟩]) suf) := hb'
         rw [b1]; cbv
         rw [b2]; cbv
         refine loop_ind2 hP (σ := List Move × List Move × Int × Option Move) (fun s => match s.2.2.2 with
          | none => [(0, sMach st eb ea .sh .sh), (1, ⟨.ptr 86 0, []⟩), (2, B false), (3, I i), (4, ⟨.ptr 89 0, []⟩), (26, R ea .sh), (27, I (len ea)), (28, I i), (58, R ec .sh), (59, I (len ec)), (60, I s.2.2.1), (86, ⟨.box (), [⟨.int .i64 st, .sc⟩, ⟨.row () eb, .sh⟩, ⟨.row () ea, .sh⟩]⟩), (89, ⟨.box (), [⟨.int .i64 x1, .sc⟩, ⟨.bool x2, .sc⟩, ⟨.int .i64 x3, .sc⟩, ⟨.int .i64 x4, .sc⟩]⟩)]
          | some y => [(0, sMach st eb ea .sh .sh), (1, ⟨.ptr 86 0, []⟩), (2, B false), (3, I i), (4, ⟨.ptr 89 0, []⟩), (6, ⟨.ptr 91 0, []⟩), (26, R ea .sh), (27, I (len ea)), (28, I i), (58, R ec .sh), (59, I (len ec)), (60, I s.2.2.1), (86, ⟨.box (), [⟨.int .i64 st, .sc⟩, ⟨.row () eb, .sh⟩, ⟨.row () ea, .sh⟩]⟩), (89, ⟨.box (), [⟨.int .i64 x1, .sc⟩, ⟨.bool x2, .sc⟩, ⟨.int .i64 x3, .sc⟩, ⟨.int .i64 x4, .sc⟩]⟩), (91, ⟨.box (), [⟨.int .i64 y.src, .sc⟩, ⟨.bool y.send, .sc⟩, ⟨.int .i64 y.msg, .sc⟩, ⟨.int .i64 y.dst, .sc⟩]⟩)]) (fun s => At s.2.2.1 s.2.1.length ∧ pre = s.2.1 ++ s.1 ∧ s.1.any (clash ⟨x1, x2, x3, x4⟩) = pre.any (clash ⟨x1, x2, x3, x4⟩)) (fun s => s.1.length) (pre, [], 0, (some ⟨q1, q2, q3, q4⟩)) rfl ⟨rfl, rfl, rfl⟩ ?_
         intro c8 Q2 hc8 hQ2
         rintro ⟨s2, p2, k, y⟩ ⟨hk, hp, hv⟩ ih2
         simp only at hk hp hv ih2
         rcases y with _ | ⟨y1, y2, y3, y4⟩
         all_goals
          cbv
          cases s2 with
          | nil =>
           rw [← hv] at hb2
           rw [F.lt_f hk lc (by simp [hp])]; cbv
           rw [hQ2]; cbv
           have hb3 : T = mvOk st (pre ++ [⟨x1, x2, x3, x4⟩]) suf := hb2
           first
           | exact ih (suf, pre ++ [⟨x1, x2, x3, x4⟩], add .i64 i 1, some (⟨x1, x2, x3, x4⟩, i, ec, len ec, k, none)) ⟨hi', hl2, hb3.symm⟩ (by simp)
           | exact ih (suf, pre ++ [⟨x1, x2, x3, x4⟩], add .i64 i 1, some (⟨x1, x2, x3, x4⟩, i, ec, len ec, k, some ⟨y1, y2, y3, y4⟩)) ⟨hi', hl2, hb3.symm⟩ (by simp)
          | cons z s2 =>
           obtain ⟨z1, z2, z3, z4⟩ := z
           obtain ⟨iz, hiz⟩ := nm (p2.length * 4)
           have hp2 : p2.length ≤ 12 := by rw [hp] at hpre; simp at hpre; omega
           have hk' : At (add .i64 k 1) (p2 ++ [(⟨z1, z2, z3, z4⟩ : Move)]).length := at_len (F.inc hk (by omega)) (by simp)
           have hp3 : pre = (p2 ++ [⟨z1, z2, z3, z4⟩]) ++ s2 := by rw [hp]; simp
           have r0 : at' 4 ec k = some (iz, [.int .i64 z1, .bool z2, .int .i64 z3, .int .i64 z4]) := by rw [hiz]; exact F.get hk hec hp (fun _ => rfl) (by decide)
           have g1 : eq z1 x1 = decide (z1 = x1) := F.eq ..
           have g2 : beq z2 x2 = decide (z2 = x2) := F.beq ..
           have g3 : eq z3 x3 = decide (z3 = x3) := F.eq ..
           have hcl : clash ⟨x1, x2, x3, x4⟩ ⟨z1, z2, z3, z4⟩ = (decide (z1 = x1) && (!decide (z2 = x2) || decide (z3 = x3))) := rfl
           rw [List.any_cons, hcl] at hv
           rw [F.lt_t hk lc (by simp [hp])]; cbv
           rw [r0]; cbv
           rw [g1]
           refine both (fun w1 => ?_) (fun w1 => ?_) <;> rw [w1] <;> cbv
           ·rw [w1, Bool.true_and] at hv
            rw [g2]
            refine both (fun w2 => ?_) (fun w2 => ?_) <;> rw [w2] <;> cbv
            ·rw [hQ2]; cbv
             rw [hQ1]; cbv
             rw [hQ]; cbv
             rw [F.not_t w2] at hv
             rw [← hv] at hb2
             rw [← hr, hb2]; rfl
            ·rw [F.not_f w2] at hv
             rw [g3]
             refine both (fun w3 => ?_) (fun w3 => ?_) <;> rw [w3] <;> cbv
             ·rw [hQ2]; cbv
              rw [hQ1]; cbv
              rw [hQ]; cbv
              rw [w3] at hv
              rw [← hv] at hb2
              rw [← hr, hb2]; rfl
             ·rw [w3] at hv
              exact ih2 (s2, p2 ++ [⟨z1, z2, z3, z4⟩], add .i64 k 1, some ⟨z1, z2, z3, z4⟩) ⟨hk', hp3, hv⟩ (by simp)
           ·rw [w1, Bool.false_and, Bool.false_or] at hv
            exact ih2 (s2, p2 ++ [⟨z1, z2, z3, z4⟩], add .i64 k 1, some ⟨z1, z2, z3, z4⟩) ⟨hk', hp3, hv⟩ (by simp)
end Go.Vm
