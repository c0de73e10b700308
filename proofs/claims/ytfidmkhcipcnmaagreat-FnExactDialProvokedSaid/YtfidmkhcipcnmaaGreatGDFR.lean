/- What the functions answer. -/
import Derived.Test.YtfidmkhcipcnmaaGreatGDTab
import Derived.Test.YtfidmkhcipcnmaaGreatGDFB
import Derived.Test.YtfidmkhcipcnmaaGreatGDFH
import Derived.Test.YtfidmkhcipcnmaaGreatGDFM
import Derived.Test.YtfidmkhcipcnmaaGreatGDFQ
set_option maxHeartbeats 4000000
set_option maxRecDepth 10000
set_option linter.unusedVariables false
set_option linter.unusedSimpArgs false
namespace Go.Vm
theorem I3 (h:Hello) (path:List Box) (vs tg:List Int) (k l:Int) (mh:h.Mid) (m1:h.versions.length≤1048576) (m2:h.exts.length≤1048576) (pl:path.length≤1073741824) (pm:∀ y∈path,y.Mid) (hv:vs.length≤1073741824) (ht:tg.length≤1073741824) {f0 f1 f2 f3 f4:Fl} (q0:ac f0=true) (q1:ac f1=true) (q2:ac f2=true) (q3:ac f3=true) (q4:ac f4=true):
  fix Tb md 226 [aa (row fI h.versions) (row ab h.exts) f0 f1,R (row ar path) f2,R (row fI vs) f3,R (row fI tg) f4,I k,I l]=some ⟨[af (dpV h path vs tg k l).deal.ok (dpV h path vs tg k l).deal.version (row fI (dpV h path vs tg k l).deal.tags) (dpV h path vs tg k l).tries (row fI (dpV h path vs tg k l).up) (tF (dpA h path vs tg k l)) (tF (dpB h path l))],[],none⟩:=by
 have k1:=GK h path vs tg k mh m1 m2 pl pm hv ht (f0:= .sp 0 0) (f1:= .sp 0 1) (f2:= .sp 1 0) (f3:= .sp 2 0) (f4:= .sp 3 0) rfl rfl rfl rfl rfl;have hn:=qm h path vs tg k;obtain ⟨x,hx⟩:=nm (diV h path vs tg k)
 rw[←hx] at k1 hn;obtain ⟨a,ha⟩:=nm (diA h path vs tg k)
 obtain ⟨b,hb⟩:=nm (dA h path)
 rw[←ha,←hb] at k1;obtain ⟨n,hN⟩:=nm (x.tries)
 rw[←hN] at k1 hn;obtain ⟨n',hN'⟩:=nm (mn3 n l)
 by_cases hl:3≤l
 ·rw[show dpV h path vs tg k l=⟨⟨false,0,[]⟩,3,[]⟩ by unfold dpV;rw[if_pos hl]]
  rw[show dpA h path vs tg k l=false by unfold dpA;rw[decide_eq_true hl];rfl,show dpB h path l=false by unfold dpB;rw[decide_eq_true hl];rfl]
  clear k1;generalize hr:(⟨_,[],none⟩:Ret)=r
  obtain ⟨dv,hdv⟩:=nm (row fI h.versions)
  obtain ⟨dx,hdx⟩:=nm (row ab h.exts)
  obtain ⟨ep,hep⟩:=nm (row ar path)
  obtain ⟨ev,hev⟩:=nm (row fI vs)
  obtain ⟨et,het⟩:=nm (row fI tg)
  rw[←hdv,←hdx,←hep,←hev,←het];refine cJ (fn:=ir226) tb_226 rfl rfl (by decide) rfl ?_;intro Q hQ;simp only[aj,aV,List.map_cons,List.map_nil,ir226,ai q0,ai q1,ai q2,ai q3,ai q4,List.head?_nil,reduceCtorEq,if_false,cb,aa,ae,bp,al,aG,af,aH]
  intro add sub mul arith eq ne lt le gt ge neg conv mn mx not beq len at' ln bd cut app allS isNil mks set o hP F ho;have g1:ge l 3=true:=by rw[F.ge];simpa using hl
  cbv;rw[g1];cbv;rw[hQ];cbv;exact congrArg some hr
 rw[show dpV h path vs tg k l=⟨x.deal,n',x.up⟩ by unfold dpV;rw[if_neg hl,hN',hN,hx]]
 rw[show dpA h path vs tg k l=a by unfold dpA;rw[decide_eq_false hl,ha];rfl,show dpB h path l=b by unfold dpB;rw[decide_eq_false hl,hb];rfl]
 generalize hr:(⟨_,[],none⟩:Ret)=r
 obtain ⟨dv,hdv⟩:=nm (row fI h.versions)
 obtain ⟨dx,hdx⟩:=nm (row ab h.exts)
 obtain ⟨ep,hep⟩:=nm (row ar path)
 obtain ⟨ev,hev⟩:=nm (row fI vs)
 obtain ⟨et,het⟩:=nm (row fI tg)
 obtain ⟨ex,hex⟩:=nm (row fI x.deal.tags)
 obtain ⟨eu,heu⟩:=nm (row fI x.up)
 obtain ⟨ok,hok⟩:=nm (x.deal.ok)
 obtain ⟨ve,hve⟩:=nm (x.deal.version)
 rw[←hdv,←hdx,←hep,←hev,←het,←hex,←heu,←hok,←hve] at k1;rw[←hex,←heu,←hok,←hve] at hr;rw[←hdv,←hdx,←hep,←hev,←het];clear ha hb;cases a<;>cases b
 all_goals
  simp only[tF] at k1 hr;refine cJ (fn:=ir226) tb_226 rfl rfl (by decide) rfl ?_;intro Q hQ;simp only[aj,aV,List.map_cons,List.map_nil,ir226,ai q0,ai q1,ai q2,ai q3,ai q4,List.head?_nil,reduceCtorEq,if_false,cb,aa,ae,bp,al,aG,af,aH]
  intro add sub mul arith eq ne lt le gt ge neg conv mn mx not beq len at' ln bd cut app allS isNil mks set o hP F ho;have g1:ge l 3=false:=by rw[F.ge];simpa using hl
  rw[←ho] at k1;obtain ⟨m,hm⟩:=nm (Ct 0 l)
  have hm2:0≤m∧m≤2∧(0 < l→m=l)∧(l≤0→m=0):=by rw[hm];unfold Ct;split<;>refine ⟨?_,?_,?_,?_⟩<;>omega
  have c1:o 339 [I 0,I l]=some ⟨[I m],[],none⟩:=by rw[ho,hm];exact JF ..
  have g2:add .i64 n m=n+m:=by rw[F.add,aW (by omega) (by omega)]
  have c2:o 338 [I 3,I (n+m)]=some ⟨[I n'],[],none⟩:=by
   rw[ho,hN',show mn3 n l=Cu 3 (n+m) by unfold mn3 Cu;split<;>split<;>(try split)<;>omega];exact JE ..
  cbv;rw[g1];cbv;rw[k1];cbv;rw[c1];cbv;rw[g2,c2];cbv;rw[hQ];cbv;exact congrArg some hr
theorem GI (h:Hello) (path:List Box) (vs tg:List Int) (k l:Int) (mh:h.Mid) (m1:h.versions.length≤1048576) (m2:h.exts.length≤1048576) (pl:path.length≤1073741824) (pm:∀ y∈path,y.Mid) (hv:vs.length≤1073741824) (ht:tg.length≤1073741824) {f0 f1 f2 f3 f4:Fl} (q0:ac f0=true) (q1:ac f1=true) (q2:ac f2=true) (q3:ac f3=true) (q4:ac f4=true):
  fix Tb md 203 [aa (row fI h.versions) (row ab h.exts) f0 f1,R (row ar path) f2,R (row fI vs) f3,R (row fI tg) f4,I k,I l]=some ⟨[af (dpV h path vs tg k l).deal.ok (dpV h path vs tg k l).deal.version (row fI (dpV h path vs tg k l).deal.tags) (dpV h path vs tg k l).tries (row fI (dpV h path vs tg k l).up) (tF (dpA h path vs tg k l)) (tF (dpB h path l))],[],none⟩:=by
 have k1:=Er h path vs tg k mh m1 m2 pl pm hv ht (f0:= .sp 0 0) (f1:= .sp 0 1) (f2:= .sp 1 0) (f3:= .sp 2 0) (f4:= .sp 3 0) rfl rfl rfl rfl rfl;have hn:=qm h path vs tg k;obtain ⟨x,hx⟩:=nm (diV h path vs tg k)
 rw[←hx] at k1 hn;obtain ⟨a,ha⟩:=nm (diA h path vs tg k)
 obtain ⟨b,hb⟩:=nm (dA h path)
 rw[←ha,←hb] at k1;obtain ⟨n,hN⟩:=nm (x.tries)
 rw[←hN] at k1 hn;obtain ⟨n',hN'⟩:=nm (mn3 n l)
 by_cases hl:3≤l
 ·rw[show dpV h path vs tg k l=⟨⟨false,0,[]⟩,3,[]⟩ by unfold dpV;rw[if_pos hl]]
  rw[show dpA h path vs tg k l=false by unfold dpA;rw[decide_eq_true hl];rfl,show dpB h path l=false by unfold dpB;rw[decide_eq_true hl];rfl]
  clear k1;generalize hr:(⟨_,[],none⟩:Ret)=r
  obtain ⟨dv,hdv⟩:=nm (row fI h.versions)
  obtain ⟨dx,hdx⟩:=nm (row ab h.exts)
  obtain ⟨ep,hep⟩:=nm (row ar path)
  obtain ⟨ev,hev⟩:=nm (row fI vs)
  obtain ⟨et,het⟩:=nm (row fI tg)
  rw[←hdv,←hdx,←hep,←hev,←het];refine cJ (fn:=ir203) tb_203 rfl rfl (by decide) rfl ?_;intro Q hQ;simp only[aj,aV,List.map_cons,List.map_nil,ir203,ai q0,ai q1,ai q2,ai q3,ai q4,List.head?_nil,reduceCtorEq,if_false,cb,aa,ae,bp,al,aG,af,aH]
  intro add sub mul arith eq ne lt le gt ge neg conv mn mx not beq len at' ln bd cut app allS isNil mks set o hP F ho;have g1:ge l 3=true:=by rw[F.ge];simpa using hl
  cbv;rw[g1];cbv;rw[hQ];cbv;exact congrArg some hr
 rw[show dpV h path vs tg k l=⟨x.deal,n',x.up⟩ by unfold dpV;rw[if_neg hl,hN',hN,hx]]
 rw[show dpA h path vs tg k l=a by unfold dpA;rw[decide_eq_false hl,ha];rfl,show dpB h path l=b by unfold dpB;rw[decide_eq_false hl,hb];rfl]
 generalize hr:(⟨_,[],none⟩:Ret)=r
 obtain ⟨dv,hdv⟩:=nm (row fI h.versions)
 obtain ⟨dx,hdx⟩:=nm (row ab h.exts)
 obtain ⟨ep,hep⟩:=nm (row ar path)
 obtain ⟨ev,hev⟩:=nm (row fI vs)
 obtain ⟨et,het⟩:=nm (row fI tg)
 obtain ⟨ex,hex⟩:=nm (row fI x.deal.tags)
 obtain ⟨eu,heu⟩:=nm (row fI x.up)
 obtain ⟨ok,hok⟩:=nm (x.deal.ok)
 obtain ⟨ve,hve⟩:=nm (x.deal.version)
 rw[←hdv,←hdx,←hep,←hev,←het,←hex,←heu,←hok,←hve] at k1;rw[←hex,←heu,←hok,←hve] at hr;rw[←hdv,←hdx,←hep,←hev,←het];clear ha hb;cases a<;>cases b
 all_goals
  simp only[tF] at k1 hr;refine cJ (fn:=ir203) tb_203 rfl rfl (by decide) rfl ?_;intro Q hQ;simp only[aj,aV,List.map_cons,List.map_nil,ir203,ai q0,ai q1,ai q2,ai q3,ai q4,List.head?_nil,reduceCtorEq,if_false,cb,aa,ae,bp,al,aG,af,aH]
  intro add sub mul arith eq ne lt le gt ge neg conv mn mx not beq len at' ln bd cut app allS isNil mks set o hP F ho;have g1:ge l 3=false:=by rw[F.ge];simpa using hl
  rw[←ho] at k1;cbv;rw[g1];cbv;rw[k1];cbv;refine both (fun d1=>?_) (fun d1=>?_)<;>rw[d1]<;>cbv
  ·rw[F.gt,decide_eq_true_eq] at d1;have g2:add .i64 n l=n+l:=by rw[F.add,aW (by omega) (by omega)]
   have g3:mn (n+l) 3=n':=by rw[F.mn,hN',mn3,if_pos d1]
   rw[g2,g3];rw[hQ];cbv;exact congrArg some hr
  ·rw[F.gt,decide_eq_false_iff_not] at d1;rw[hQ];cbv;rw[←hr,hN',mn3,if_neg d1]
theorem Fs (h:Hello) (path:List Box) (vs tg:List Int) (k l:Int) (mh:h.Mid) (m1:h.versions.length≤1048576) (m2:h.exts.length≤1048576) (pl:path.length≤1073741824) (pm:∀ y∈path,y.Mid) (hv:vs.length≤1073741824) (ht:tg.length≤1073741824) {f0 f1 f2 f3 f4:Fl} (q0:ac f0=true) (q1:ac f1=true) (q2:ac f2=true) (q3:ac f3=true) (q4:ac f4=true):
  ((fix Tb md 226 [aa (row fI h.versions) (row ab h.exts) f0 f1,R (row ar path) f2,R (row fI vs) f3,R (row fI tg) f4,I k,I l]=some ⟨[af (dpV h path vs tg k l).deal.ok (dpV h path vs tg k l).deal.version (row fI (dpV h path vs tg k l).deal.tags) (dpV h path vs tg k l).tries (row fI (dpV h path vs tg k l).up) (.ow false) (.ow false)],[],none⟩)∧(fix Tb md 203 [aa (row fI h.versions) (row ab h.exts) f0 f1,R (row ar path) f2,R (row fI vs) f3,R (row fI tg) f4,I k,I l]=some ⟨[af (dpV h path vs tg k l).deal.ok (dpV h path vs tg k l).deal.version (row fI (dpV h path vs tg k l).deal.tags) (dpV h path vs tg k l).tries (row fI (dpV h path vs tg k l).up) (.ow false) (.ow false)],[],none⟩))∨(((dpV h path vs tg k l).deal.tags=[]∧fix Tb md 226 [aa (row fI h.versions) (row ab h.exts) f0 f1,R (row ar path) f2,R (row fI vs) f3,R (row fI tg) f4,I k,I l]=some ⟨[af (dpV h path vs tg k l).deal.ok (dpV h path vs tg k l).deal.version [] (dpV h path vs tg k l).tries (row fI (dpV h path vs tg k l).up) .nl (.ow false)],[],none⟩)∧((dpV h path vs tg k l).deal.tags=[]∧fix Tb md 203 [aa (row fI h.versions) (row ab h.exts) f0 f1,R (row ar path) f2,R (row fI vs) f3,R (row fI tg) f4,I k,I l]=some ⟨[af (dpV h path vs tg k l).deal.ok (dpV h path vs tg k l).deal.version [] (dpV h path vs tg k l).tries (row fI (dpV h path vs tg k l).up) .nl (.ow false)],[],none⟩))∨(((dpV h path vs tg k l).deal.tags=[]∧(dpV h path vs tg k l).up=[]∧fix Tb md 226 [aa (row fI h.versions) (row ab h.exts) f0 f1,R (row ar path) f2,R (row fI vs) f3,R (row fI tg) f4,I k,I l]=some ⟨[af (dpV h path vs tg k l).deal.ok (dpV h path vs tg k l).deal.version [] (dpV h path vs tg k l).tries [] .nl .nl],[],none⟩)∧((dpV h path vs tg k l).deal.tags=[]∧(dpV h path vs tg k l).up=[]∧fix Tb md 203 [aa (row fI h.versions) (row ab h.exts) f0 f1,R (row ar path) f2,R (row fI vs) f3,R (row fI tg) f4,I k,I l]=some ⟨[af (dpV h path vs tg k l).deal.ok (dpV h path vs tg k l).deal.version [] (dpV h path vs tg k l).tries [] .nl .nl],[],none⟩)):=
 Gu (P:=fun a b f g=>fix Tb md 226 [aa (row fI h.versions) (row ab h.exts) f0 f1,R (row ar path) f2,R (row fI vs) f3,R (row fI tg) f4,I k,I l]=some ⟨[af (dpV h path vs tg k l).deal.ok (dpV h path vs tg k l).deal.version a (dpV h path vs tg k l).tries b f g],[],none⟩) (Q:=fun a b f g=>fix Tb md 203 [aa (row fI h.versions) (row ab h.exts) f0 f1,R (row ar path) f2,R (row fI vs) f3,R (row fI tg) f4,I k,I l]=some ⟨[af (dpV h path vs tg k l).deal.ok (dpV h path vs tg k l).deal.version a (dpV h path vs tg k l).tries b f g],[],none⟩) Hd He Kj (I3 h path vs tg k l mh m1 m2 pl pm hv ht q0 q1 q2 q3 q4) (GI h path vs tg k l mh m1 m2 pl pm hv ht q0 q1 q2 q3 q4)
end Go.Vm
