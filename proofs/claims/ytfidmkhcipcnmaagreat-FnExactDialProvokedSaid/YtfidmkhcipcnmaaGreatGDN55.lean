/- What the law answers. -/
import Derived.Test.YtfidmkhcipcnmaaGreatGDTab
import Derived.Test.YtfidmkhcipcnmaaGreatGDFA
import Derived.Test.YtfidmkhcipcnmaaGreatGDFB
import Derived.Test.YtfidmkhcipcnmaaGreatGDFC
import Derived.Test.YtfidmkhcipcnmaaGreatGDFQ
import Derived.Test.YtfidmkhcipcnmaaGreatGDFR
set_option maxHeartbeats 4000000
set_option maxRecDepth 10000
set_option linter.unusedVariables false
set_option linter.unusedSimpArgs false
namespace Go.Vm
theorem law55 (h:Hello) (wh:h.Fits) (path:List Box) (wpath:path.length≤9223372036854775807∧∀ y∈path,y.Fits) (versions:List Int) (wversions:versions.length≤9223372036854775807∧∀ y∈versions,bu y) (tags:List Int) (wtags:tags.length≤9223372036854775807∧∀ y∈tags,bu y) (key:Int) (wkey:bu key) (lost:Int) (wlost:bu lost):
  fix Tb md 55 [aa (row fI h.versions) (row ab h.exts) (.sp 0 0) (.sp 0 1),R (row ar path) (.sp 1 0),R (row fI versions) (.sp 2 0),R (row fI tags) (.sp 3 0),I key,I lost]=some ⟨[B true],[],none⟩:=by
 generalize hr:(⟨_,[],none⟩:Ret)=r
 obtain ⟨e1,he1⟩:=nm (row fI h.versions)
 obtain ⟨e2,he2⟩:=nm (row ab h.exts)
 obtain ⟨e3,he3⟩:=nm (row ar path)
 obtain ⟨e4,he4⟩:=nm (row fI versions)
 obtain ⟨e5,he5⟩:=nm (row fI tags)
 rw[←he1,←he2,←he3,←he4,←he5];obtain ⟨v1,hv1⟩:=nm (cu h 1048576)
 have u1:v1≤1048576:=by rw[hv1];exact (aB h).up (by decide)
 have s1:=fun q:0≤v1=>(aB h).ok 1048576 (by decide) (hv1▸q)
 obtain ⟨v2,hv2⟩:=nm (szL en path v1)
 have u2:v2≤1048576:=by rw[hv2];exact (Sz.list a9 path).up u1
 have s2:=fun q:0≤v2=>(Sz.list a9 path).ok v1 u1 (hv2▸q)
 obtain ⟨w,hw⟩:=nm (dpV h path versions tags key lost)
 refine cJ (fn:=ir55) tb_55 rfl rfl (by decide) rfl ?_;intro Q hQ;simp only[aj,aV,List.map_cons,List.map_nil,ir55,List.head?_nil,reduceCtorEq,if_false,cb,aa,ae,bp,al,aG,af,aH,ai (f:= .sp 0 0) rfl,ai (f:= .sp 0 1) rfl,ai (f:= .sp 1 0) rfl,ai (f:= .sp 2 0) rfl,ai (f:= .sp 3 0) rfl]
 intro add sub mul arith eq ne lt le gt ge neg conv mn mx not beq len at' ln bd cut app allS isNil mks set o hP F ho;have le4:=F.len_at he4;have le5:=F.len_at he5;have b1:o 83 [aa e1 e2 (.sp 0 0) (.sp 0 1),I 1048576]=some ⟨[I v1],[],none⟩:=by rw[ho,hv1,he1,he2];exact jE h _ wh (by decide) (by decide) rfl rfl
 have b2:0≤v1→o 101 [R e3 (.sp 0 0),I v1]=some ⟨[I v2],[],none⟩:=by intro q;rw[ho,hv2,he3];exact mi path _ wpath q u1 rfl
 cbv;refine both (fun dversions=>?_) (fun dversions=>?_)<;>rw[dversions]<;>cbv
 ·rw[hQ];cbv;exact congrArg some hr
 have tversions:versions.length≤1048576:=by unfold At at le4;simp only[F.gt,le4,decide_eq_false_iff_not] at dversions;omega
 refine both (fun dtags=>?_) (fun dtags=>?_)<;>rw[dtags]<;>cbv
 ·rw[hQ];cbv;exact congrArg some hr
 have ttags:tags.length≤1048576:=by unfold At at le5;simp only[F.gt,le5,decide_eq_false_iff_not] at dtags;omega
 rw[b1];cbv;refine both (fun d1=>?_) (fun d1=>?_)<;>rw[d1]<;>cbv
 ·rw[hQ];cbv;exact congrArg some hr
 have p1:0≤v1:=by simp only[F.lt,decide_eq_false_iff_not] at d1;omega
 have th:=s1 p1;have thm:=th.mid;have rh:=th;unfold Hello.Small at rh;rw[b2 p1];cbv;refine both (fun d2=>?_) (fun d2=>?_)<;>rw[d2]<;>cbv
 ·rw[hQ];cbv;exact congrArg some hr
 have p2:0≤v2:=by simp only[F.lt,decide_eq_false_iff_not] at d2;omega
 have tpath:=s2 p2;have tpathm:path.length≤1073741824∧∀ y∈path,y.Mid:=⟨Nat.le_trans tpath.1 (by decide),fun y hy=>(tpath.2 y hy).mid⟩
 have rpath:=tpath;have kh:o 85 [aa e1 e2 (.sp 0 0) (.sp 0 1)]=some ⟨[aa e1 e2 (.ow false) (.ow false)],[],none⟩:=by rw[ho,he1,he2];exact jF h thm rfl rfl
 have qh:o 78 [aa e1 e2 (.sp 0 0) (.sp 0 1),aa e1 e2 (.sp 1 0) (.sp 1 1)]=some ⟨[B true],[],none⟩:=by rw[ho,he1,he2];exact cz h thm rfl rfl  rfl rfl
 have kpath:o 103 [R e3 (.sp 0 0)]=some ⟨[R e3 (.ow false)],[],none⟩:=by rw[ho,he3];exact mj path tpathm rfl
 have qpath:o 105 [R e3 (.sp 0 0),R e3 (.sp 1 0)]=some ⟨[B true],[],none⟩:=by rw[ho,he3];exact ml path tpathm rfl  rfl
 have kversions:o 76 [R e4 (.sp 0 0)]=some ⟨[R e4 (.ow false)],[],none⟩:=by rw[ho,he4];exact gJ versions (show versions.length≤1099511627776 by omega) rfl
 have qversions:o 79 [R e4 (.sp 0 0),R e4 (.sp 1 0)]=some ⟨[B true],[],none⟩:=by rw[ho,he4];exact cM versions (show versions.length≤1099511627776 by omega) rfl  rfl
 have ktags:o 76 [R e5 (.sp 0 0)]=some ⟨[R e5 (.ow false)],[],none⟩:=by rw[ho,he5];exact gJ tags (show tags.length≤1099511627776 by omega) rfl
 have qtags:o 79 [R e5 (.sp 0 0),R e5 (.sp 1 0)]=some ⟨[B true],[],none⟩:=by rw[ho,he5];exact cM tags (show tags.length≤1099511627776 by omega) rfl  rfl
 have wm:w.Mid:=by rw[hw];exact Fc thm rh.1 rh.2.1
 obtain ⟨g0,hg0⟩:=nm (row fI w.deal.tags)
 obtain ⟨h0,hh0⟩:=nm (row fI ((aZ w 1).deal.tags))
 obtain ⟨g1,hg1⟩:=nm (row fI w.up)
 obtain ⟨h1,hh1⟩:=nm (row fI ((aZ w 1).up))
 obtain ⟨zz,hzz⟩:=nm (1+(ci w:Int))
 have lr:Lim 1 (ci w):=Lim.of1 (by have:=rK wm;omega)
 have l2:lt zz 0=false:=by rw[F.lt,hzz];simp;omega
 have l3:ne zz zz=false:=F.ne_f rfl;have a0:AtK 1 1 0:=AtK.zero;have y0:=bK th;have y1:=eE tpath;have y2:=tversions;have y3:=ttags;have lk:Lim 1 (0+aw h+bA path+versions.length+tags.length):=Lim.of1 (by omega)
 obtain ⟨z1,hz1⟩:=nm (1+(aw h:Int))
 have a1:AtK z1 1 (0+aw h):=hz1▸a0.plus;have v1m:Lim 1 (aw h):=a0.lim lk (by omega)
 obtain ⟨x0_0,hx0_0⟩:=nm (row fI ((ag h 1).versions))
 obtain ⟨x0_1,hx0_1⟩:=nm (row ab ((ag h 1).exts))
 have n1:o 1081 [aa e1 e2 (.mp 0) (.mp 1),I 1]=some ⟨[I z1],[.row () x0_0, .row () x0_1],none⟩:=by rw[ho,hz1,he1,he2,hx0_0,hx0_1];exact cr h _ v1m thm
 obtain ⟨z2,hz2⟩:=nm (z1+(bA path:Int))
 have a2:AtK z2 1 (0+aw h+bA path):=hz2▸a1.plus;have v2m:Lim z1 (bA path):=a1.lim lk (by omega)
 obtain ⟨x1_0,hx1_0⟩:=nm (row ar (dS path z1))
 have n2:o 1172 [R e3 (.mp 0),I z1]=some ⟨[I z2],[.row () x1_0],none⟩:=by rw[ho,hz2,he3,hx1_0];exact na _ _ v2m (Nat.le_trans tpathm.1 (by decide)) (fun y hy=>Nat.le_trans ((tpathm.2 y hy).1) (by decide)) (fun y hy=>Nat.le_trans ((tpathm.2 y hy).2) (by decide))
 obtain ⟨z3,hz3⟩:=nm (z2+(versions.length:Int))
 have a3:AtK z3 1 (0+aw h+bA path+versions.length):=hz3▸a2.plus;have v3m:Lim z2 (versions.length):=a2.lim lk (by omega)
 obtain ⟨x2_0,hx2_0⟩:=nm (row fI (mI versions z2))
 have n3:o 1080 [R e4 (.mp 0),I z2]=some ⟨[I z3],[.row () x2_0],none⟩:=by rw[ho,hz3,he4,hx2_0];exact bV _ _ v3m (by omega)
 obtain ⟨z4,hz4⟩:=nm (z3+(tags.length:Int))
 have a4:AtK z4 1 (0+aw h+bA path+versions.length+tags.length):=hz4▸a3.plus;have v4m:Lim z3 (tags.length):=a3.lim lk (by omega)
 obtain ⟨x3_0,hx3_0⟩:=nm (row fI (mI tags z3))
 have n4:o 1080 [R e5 (.mp 0),I z3]=some ⟨[I z4],[.row () x3_0],none⟩:=by rw[ho,hz4,he5,hx3_0];exact bV _ _ v4m (by omega)
 have l1:lt z4 0=false:=by rw[F.lt];have:=a4.same;simp;omega
 have hj:((fix Tb md 226 [aa (row fI h.versions) (row ab h.exts) (.sp 0 0) (.sp 0 1),R (row ar path) (.sp 1 0),R (row fI versions) (.sp 2 0),R (row fI tags) (.sp 3 0),I key,I lost]=some ⟨[af w.deal.ok w.deal.version (row fI w.deal.tags) w.tries (row fI w.up) (.ow false) (.ow false)],[],none⟩)∧(fix Tb md 203 [aa (row fI h.versions) (row ab h.exts) (.sp 0 0) (.sp 0 1),R (row ar path) (.sp 1 0),R (row fI versions) (.sp 2 0),R (row fI tags) (.sp 3 0),I key,I lost]=some ⟨[af w.deal.ok w.deal.version (row fI w.deal.tags) w.tries (row fI w.up) (.ow false) (.ow false)],[],none⟩))∨((w.deal.tags=[]∧fix Tb md 226 [aa (row fI h.versions) (row ab h.exts) (.sp 0 0) (.sp 0 1),R (row ar path) (.sp 1 0),R (row fI versions) (.sp 2 0),R (row fI tags) (.sp 3 0),I key,I lost]=some ⟨[af w.deal.ok w.deal.version [] w.tries (row fI w.up) .nl (.ow false)],[],none⟩)∧(w.deal.tags=[]∧fix Tb md 203 [aa (row fI h.versions) (row ab h.exts) (.sp 0 0) (.sp 0 1),R (row ar path) (.sp 1 0),R (row fI versions) (.sp 2 0),R (row fI tags) (.sp 3 0),I key,I lost]=some ⟨[af w.deal.ok w.deal.version [] w.tries (row fI w.up) .nl (.ow false)],[],none⟩))∨((w.deal.tags=[]∧w.up=[]∧fix Tb md 226 [aa (row fI h.versions) (row ab h.exts) (.sp 0 0) (.sp 0 1),R (row ar path) (.sp 1 0),R (row fI versions) (.sp 2 0),R (row fI tags) (.sp 3 0),I key,I lost]=some ⟨[af w.deal.ok w.deal.version [] w.tries [] .nl .nl],[],none⟩)∧(w.deal.tags=[]∧w.up=[]∧fix Tb md 203 [aa (row fI h.versions) (row ab h.exts) (.sp 0 0) (.sp 0 1),R (row ar path) (.sp 1 0),R (row fI versions) (.sp 2 0),R (row fI tags) (.sp 3 0),I key,I lost]=some ⟨[af w.deal.ok w.deal.version [] w.tries [] .nl .nl],[],none⟩)):=by rw[hw];exact Fs h path versions tags key lost thm rh.1 rh.2.1 tpathm.1 tpathm.2 (by omega) (by omega) rfl rfl rfl rfl rfl
 rcases hj with ⟨hs,hi⟩ | ⟨⟨ns0,hs⟩,⟨ni0,hi⟩⟩ | ⟨⟨ns0,ns1,hs⟩,⟨ni0,ni1,hi⟩⟩
 ·have m1:o 226 [aa e1 e2 (.sp 0 0) (.sp 0 1),R e3 (.sp 1 0),R e4 (.sp 2 0),R e5 (.sp 3 0),I key,I lost]=some ⟨[af w.deal.ok w.deal.version g0 w.tries g1 (.ow false) (.ow false)],[],none⟩:=by rw[ho,he1,he2,he3,he4,he5];simp only[hg0,hg1];exact hs
  have m2:o 203 [aa e1 e2 (.sp 0 0) (.sp 0 1),R e3 (.sp 1 0),R e4 (.sp 2 0),R e5 (.sp 3 0),I key,I lost]=some ⟨[af w.deal.ok w.deal.version g0 w.tries g1 (.ow false) (.ow false)],[],none⟩:=by rw[ho,he1,he2,he3,he4,he5];simp only[hg0,hg1];exact hi
  have r1:o 95 [af w.deal.ok w.deal.version g0 w.tries g1 (.sp 0 2) (.sp 0 4),af w.deal.ok w.deal.version g0 w.tries g1 (.sp 1 2) (.sp 1 4)]=some ⟨[B true],[],none⟩:=by
   have h:=yz w wm (f0:=(.sp 0 2)) (g0:=(.sp 1 2)) (f1:=(.sp 0 4)) (g1:=(.sp 1 4)) rfl rfl rfl rfl;rw[ho]
   try simp only[hg0,hg1]
   exact h
  have r2:o 1224 [af w.deal.ok w.deal.version g0 w.tries g1 (.mp 0) (.mp 1),I 1]=some ⟨[I zz],[.row () h0, .row () h1],none⟩:=by
   have h:=D1 w 1 lr wm;rw[ho,hzz]
   try simp only[hg0,hg1,hh0,hh1]
   exact h
  have r3:o 225 [af w.deal.ok w.deal.version h0 w.tries h1 (.sp 0 2) (.sp 0 4),I 1]=some ⟨[I zz],[],none⟩:=by
   have h:=vx w 1 lr wm (f0:=(.sp 0 2)) (f1:=(.sp 0 4)) rfl rfl;rw[ho,hzz]
   try simp only[hh0,hh1]
   exact h
  try (rw[kh];cbv)
  try (rw[kpath];cbv)
  try (rw[kversions];cbv)
  try (rw[ktags];cbv)
  try (rw[m1];cbv)
  try (rw[kh];cbv)
  try (rw[kpath];cbv)
  try (rw[kversions];cbv)
  try (rw[ktags];cbv)
  try (rw[m2];cbv)
  try (rw[r1];cbv)
  try (rw[show not true=false by rw[F.not];rfl];cbv)
  try (rw[kh];cbv)
  try (rw[qh];cbv)
  try (rw[show not true=false by rw[F.not];rfl];cbv)
  try (rw[kpath];cbv)
  try (rw[qpath];cbv)
  try (rw[show not true=false by rw[F.not];rfl];cbv)
  try (rw[kversions];cbv)
  try (rw[qversions];cbv)
  try (rw[show not true=false by rw[F.not];rfl];cbv)
  try (rw[ktags];cbv)
  try (rw[qtags];cbv)
  try (rw[show not true=false by rw[F.not];rfl];cbv)
  try (rw[n1];cbv)
  try (rw[n2];cbv)
  try (rw[n3];cbv)
  try (rw[n4];cbv)
  try (rw[l1];cbv)
  try (rw[r1];cbv)
  try (rw[show not true=false by rw[F.not];rfl];cbv)
  try (rw[r2];cbv)
  try (rw[r3];cbv)
  try (rw[l2];cbv)
  try (rw[l3];cbv)
  try (rw[kh];cbv)
  try (rw[kpath];cbv)
  try (rw[kversions];cbv)
  try (rw[ktags];cbv)
  try (rw[m2];cbv)
  try (rw[r1];cbv)
  try (rw[show not true=false by rw[F.not];rfl];cbv)
  try (rw[r3];cbv)
  try (rw[l2];cbv)
  try (rw[l3];cbv)
  repeat' (first | (rw[kh];cbv) | (rw[qh];cbv) | (rw[kpath];cbv) | (rw[qpath];cbv) | (rw[kversions];cbv) | (rw[qversions];cbv) | (rw[ktags];cbv) | (rw[qtags];cbv) | (rw[m1];cbv) | (rw[m2];cbv) | (rw[r1];cbv) | (rw[n1];cbv) | (rw[n2];cbv) | (rw[n3];cbv) | (rw[n4];cbv) | (rw[r2];cbv) | (rw[r3];cbv) | (rw[l1];cbv) | (rw[l2];cbv) | (rw[l3];cbv) | (rw[F.ne_f rfl];cbv) | (rw[show not true=false by rw[F.not];rfl];cbv) | (rw[hQ];cbv;exact congrArg some hr))
 ·have m1:o 226 [aa e1 e2 (.sp 0 0) (.sp 0 1),R e3 (.sp 1 0),R e4 (.sp 2 0),R e5 (.sp 3 0),I key,I lost]=some ⟨[af w.deal.ok w.deal.version [] w.tries g1 .nl (.ow false)],[],none⟩:=by rw[ho,he1,he2,he3,he4,he5];simp only[hg1];exact hs
  have m2:o 203 [aa e1 e2 (.sp 0 0) (.sp 0 1),R e3 (.sp 1 0),R e4 (.sp 2 0),R e5 (.sp 3 0),I key,I lost]=some ⟨[af w.deal.ok w.deal.version [] w.tries g1 .nl (.ow false)],[],none⟩:=by rw[ho,he1,he2,he3,he4,he5];simp only[hg1];exact hi
  have r1:o 95 [af w.deal.ok w.deal.version [] w.tries g1 .nl (.sp 0 4),af w.deal.ok w.deal.version [] w.tries g1 .nl (.sp 1 4)]=some ⟨[B true],[],none⟩:=by
   have h:=yz w wm (f0:= .nl) (g0:= .nl) (f1:=(.sp 0 4)) (g1:=(.sp 1 4)) rfl rfl rfl rfl
   try simp only[ni0] at h
   rw[ho]
   try simp only[hg0,hg1,ni0]
   exact h
  have r2:o 1224 [af w.deal.ok w.deal.version [] w.tries g1 .nl (.mp 0),I 1]=some ⟨[I zz],[.row () h1],none⟩:=by
   have h:=vt w 1 lr wm ni0
   try simp only[aZ,b9,mI,ak,ni0] at h
   rw[ho,hzz]
   try simp only[hg1,hh1,aZ,b9,mI,ak,ni0]
   exact h
  have r3:o 225 [af w.deal.ok w.deal.version [] w.tries h1 .nl (.sp 0 4),I 1]=some ⟨[I zz],[],none⟩:=by
   have h:=vx w 1 lr wm (f0:= .nl) (f1:=(.sp 0 4)) rfl rfl
   try simp only[aZ,b9,mI,ak,ni0] at h
   rw[ho,hzz]
   try simp only[hh1,aZ,b9,mI,ak,ni0]
   exact h
  try (rw[kh];cbv)
  try (rw[kpath];cbv)
  try (rw[kversions];cbv)
  try (rw[ktags];cbv)
  try (rw[m1];cbv)
  try (rw[kh];cbv)
  try (rw[kpath];cbv)
  try (rw[kversions];cbv)
  try (rw[ktags];cbv)
  try (rw[m2];cbv)
  try (rw[r1];cbv)
  try (rw[show not true=false by rw[F.not];rfl];cbv)
  try (rw[kh];cbv)
  try (rw[qh];cbv)
  try (rw[show not true=false by rw[F.not];rfl];cbv)
  try (rw[kpath];cbv)
  try (rw[qpath];cbv)
  try (rw[show not true=false by rw[F.not];rfl];cbv)
  try (rw[kversions];cbv)
  try (rw[qversions];cbv)
  try (rw[show not true=false by rw[F.not];rfl];cbv)
  try (rw[ktags];cbv)
  try (rw[qtags];cbv)
  try (rw[show not true=false by rw[F.not];rfl];cbv)
  try (rw[n1];cbv)
  try (rw[n2];cbv)
  try (rw[n3];cbv)
  try (rw[n4];cbv)
  try (rw[l1];cbv)
  try (rw[r1];cbv)
  try (rw[show not true=false by rw[F.not];rfl];cbv)
  try (rw[r2];cbv)
  try (rw[r3];cbv)
  try (rw[l2];cbv)
  try (rw[l3];cbv)
  try (rw[kh];cbv)
  try (rw[kpath];cbv)
  try (rw[kversions];cbv)
  try (rw[ktags];cbv)
  try (rw[m2];cbv)
  try (rw[r1];cbv)
  try (rw[show not true=false by rw[F.not];rfl];cbv)
  try (rw[r3];cbv)
  try (rw[l2];cbv)
  try (rw[l3];cbv)
  repeat' (first | (rw[kh];cbv) | (rw[qh];cbv) | (rw[kpath];cbv) | (rw[qpath];cbv) | (rw[kversions];cbv) | (rw[qversions];cbv) | (rw[ktags];cbv) | (rw[qtags];cbv) | (rw[m1];cbv) | (rw[m2];cbv) | (rw[r1];cbv) | (rw[n1];cbv) | (rw[n2];cbv) | (rw[n3];cbv) | (rw[n4];cbv) | (rw[r2];cbv) | (rw[r3];cbv) | (rw[l1];cbv) | (rw[l2];cbv) | (rw[l3];cbv) | (rw[F.ne_f rfl];cbv) | (rw[show not true=false by rw[F.not];rfl];cbv) | (rw[hQ];cbv;exact congrArg some hr))
 ·have m1:o 226 [aa e1 e2 (.sp 0 0) (.sp 0 1),R e3 (.sp 1 0),R e4 (.sp 2 0),R e5 (.sp 3 0),I key,I lost]=some ⟨[af w.deal.ok w.deal.version [] w.tries [] .nl .nl],[],none⟩:=by rw[ho,he1,he2,he3,he4,he5];exact hs
  have m2:o 203 [aa e1 e2 (.sp 0 0) (.sp 0 1),R e3 (.sp 1 0),R e4 (.sp 2 0),R e5 (.sp 3 0),I key,I lost]=some ⟨[af w.deal.ok w.deal.version [] w.tries [] .nl .nl],[],none⟩:=by rw[ho,he1,he2,he3,he4,he5];exact hi
  have r1:o 95 [af w.deal.ok w.deal.version [] w.tries [] .nl .nl,af w.deal.ok w.deal.version [] w.tries [] .nl .nl]=some ⟨[B true],[],none⟩:=by
   have h:=yz w wm (f0:= .nl) (g0:= .nl) (f1:= .nl) (g1:= .nl) rfl rfl rfl rfl
   try simp only[ni0,ni1] at h
   rw[ho]
   try simp only[hg0,hg1,ni0,ni1]
   exact h
  have r2:o 1224 [af w.deal.ok w.deal.version [] w.tries [] .nl .nl,I 1]=some ⟨[I zz],[],none⟩:=by
   have h:=vr w 1 lr wm ni0 ni1
   try simp only[aZ,b9,mI,ak,ni0,ni1] at h
   rw[ho,hzz]
   try simp only[aZ,b9,mI,ak,ni0,ni1]
   exact h
  have r3:o 225 [af w.deal.ok w.deal.version [] w.tries [] .nl .nl,I 1]=some ⟨[I zz],[],none⟩:=by
   have h:=vx w 1 lr wm (f0:= .nl) (f1:= .nl) rfl rfl
   try simp only[aZ,b9,mI,ak,ni0,ni1] at h
   rw[ho,hzz]
   try simp only[aZ,b9,mI,ak,ni0,ni1]
   exact h
  try (rw[kh];cbv)
  try (rw[kpath];cbv)
  try (rw[kversions];cbv)
  try (rw[ktags];cbv)
  try (rw[m1];cbv)
  try (rw[kh];cbv)
  try (rw[kpath];cbv)
  try (rw[kversions];cbv)
  try (rw[ktags];cbv)
  try (rw[m2];cbv)
  try (rw[r1];cbv)
  try (rw[show not true=false by rw[F.not];rfl];cbv)
  try (rw[kh];cbv)
  try (rw[qh];cbv)
  try (rw[show not true=false by rw[F.not];rfl];cbv)
  try (rw[kpath];cbv)
  try (rw[qpath];cbv)
  try (rw[show not true=false by rw[F.not];rfl];cbv)
  try (rw[kversions];cbv)
  try (rw[qversions];cbv)
  try (rw[show not true=false by rw[F.not];rfl];cbv)
  try (rw[ktags];cbv)
  try (rw[qtags];cbv)
  try (rw[show not true=false by rw[F.not];rfl];cbv)
  try (rw[n1];cbv)
  try (rw[n2];cbv)
  try (rw[n3];cbv)
  try (rw[n4];cbv)
  try (rw[l1];cbv)
  try (rw[r1];cbv)
  try (rw[show not true=false by rw[F.not];rfl];cbv)
  try (rw[r2];cbv)
  try (rw[r3];cbv)
  try (rw[l2];cbv)
  try (rw[l3];cbv)
  try (rw[kh];cbv)
  try (rw[kpath];cbv)
  try (rw[kversions];cbv)
  try (rw[ktags];cbv)
  try (rw[m2];cbv)
  try (rw[r1];cbv)
  try (rw[show not true=false by rw[F.not];rfl];cbv)
  try (rw[r3];cbv)
  try (rw[l2];cbv)
  try (rw[l3];cbv)
  repeat' (first | (rw[kh];cbv) | (rw[qh];cbv) | (rw[kpath];cbv) | (rw[qpath];cbv) | (rw[kversions];cbv) | (rw[qversions];cbv) | (rw[ktags];cbv) | (rw[qtags];cbv) | (rw[m1];cbv) | (rw[m2];cbv) | (rw[r1];cbv) | (rw[n1];cbv) | (rw[n2];cbv) | (rw[n3];cbv) | (rw[n4];cbv) | (rw[r2];cbv) | (rw[r3];cbv) | (rw[l1];cbv) | (rw[l2];cbv) | (rw[l3];cbv) | (rw[F.ne_f rfl];cbv) | (rw[show not true=false by rw[F.not];rfl];cbv) | (rw[hQ];cbv;exact congrArg some hr))
theorem ans55:aO Tb md 55 [(true,[.row [.int .i64], .row [.int .i64, .row [.int .i64]]]),(false,[.row [.int .i64, .row [.int .i64], .row [.int .i64], .bool]]),(false,[.row [.int .i64]]),(false,[.row [.int .i64]]),(false,[.int .i64]),(false,[.int .i64])]:=az (by
 intro vs h_;obtain ⟨h,rfl,wh⟩:=bw h_
 intro vs h_;obtain ⟨_,_,rfl,h1_,h_⟩:=ay h_
 cases aQ h_
 obtain ⟨path,rfl,wpath⟩:=bC (fun _=>cZ) h1_
 intro vs h_;obtain ⟨versions,rfl,wversions⟩:=cR h_
 intro vs h_;obtain ⟨tags,rfl,wtags⟩:=cR h_
 intro vs h_;obtain ⟨key,rfl,wkey⟩:=fe h_
 intro vs h_;obtain ⟨lost,rfl,wlost⟩:=fe h_
 exact law55 h wh path wpath versions wversions tags wtags key wkey lost wlost)
end Go.Vm
