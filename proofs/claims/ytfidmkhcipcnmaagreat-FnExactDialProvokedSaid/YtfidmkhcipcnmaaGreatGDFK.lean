/- What the functions answer. -/
import Derived.Test.YtfidmkhcipcnmaaGreatGDTab
import Derived.Test.YtfidmkhcipcnmaaGreatGDFA
import Derived.Test.YtfidmkhcipcnmaaGreatGDFB
import Derived.Test.YtfidmkhcipcnmaaGreatGDFD
set_option maxHeartbeats 4000000
set_option maxRecDepth 10000
set_option linter.unusedVariables false
set_option linter.unusedSimpArgs false
namespace Go.Vm
theorem Fb (l:List Ext):sel (kW (sel eY Ext.tag l)) idE l=l:=by
 rw[cV,List.filter_eq_self];intro a ha;unfold kW bq sel;rw[List.any_eq_true];exact ⟨a.tag,List.mem_map.2 ⟨a,by simp[eY,ha],rfl⟩,by simp⟩
theorem EF (l:List Ext) (hl:l.length≤1073741824) (w:∀ y∈l,y.body.length≤1099511627776) {f0:Fl} (h0:ac f0=true):fix Tb md 295 [R (row ab l) f0]=some ⟨[R (row ab l) (.ow false)],[],none⟩:=by
 obtain ⟨ea,hea⟩:=nm (row ab l)
 rw[←hea];generalize hr:(⟨_,[],none⟩:Ret)=r
 obtain ⟨et,het⟩:=nm (row fI (sel eY Ext.tag l))
 have hlen:(sel eY Ext.tag l).length≤l.length:=aI;refine cJ (fn:=ir295) tb_295 rfl rfl (by decide) rfl ?_;intro Q hQ;simp only[aj,aV,List.map_cons,List.map_nil,ir295,ai h0,List.head?_nil,reduceCtorEq,if_false,cb,aa,ae,bp,al,aG,af,aH]
 intro add sub mul arith eq ne lt le gt ge neg conv mn mx not beq len at' ln bd cut app allS isNil mks set o hP F ho;have c1:o 280 [R ea (.sp 0 0)]=some ⟨[R et (.ow false)],[],none⟩:=by rw[ho,het,hea];exact ED _ hl rfl
 have c2:o 307 [R ea (.sp 0 0),R et (.sp 1 0)]=some ⟨[R ea (.ow false)],[],none⟩:=by
  rw[ho,het,hea];have h:=GZ l (sel eY Ext.tag l) hl (by omega) w (f0:= .sp 0 0) (f1:= .sp 1 0) rfl rfl
  rw[Fb] at h;exact h
 cbv;rw[c1];cbv;rw[c2];cbv;rw[hQ];cbv;exact congrArg some hr
theorem BJ (h:Hello) (mh:h.Mid) {f0 f1:Fl} (q0:ac f0=true) (q1:ac f1=true):fix Tb md 279 [aa (row fI h.versions) (row ab h.exts) f0 f1]=some ⟨[aa (row fI h.versions) (row ab h.exts) (.ow false) (.ow false)],[],none⟩:=by
 have mh':=mh;unfold Hello.Mid at mh';obtain ⟨ev,hev⟩:=nm (row fI h.versions)
 obtain ⟨ex,hex⟩:=nm (row ab h.exts)
 rw[←hev,←hex];generalize hr:(⟨_,[],none⟩:Ret)=r
 refine cJ (fn:=ir279) tb_279 rfl rfl (by decide) rfl ?_;intro Q hQ;simp only[aj,aV,List.map_cons,List.map_nil,ir279,ai q0,ai q1,List.head?_nil,reduceCtorEq,if_false,cb,aa,ae,bp,al,aG,af,aH]
 intro add sub mul arith eq ne lt le gt ge neg conv mn mx not beq len at' ln bd cut app allS isNil mks set o hP F ho;have c1:o 295 [R ex (.sp 0 0)]=some ⟨[R ex (.ow false)],[],none⟩:=by rw[ho,hex];exact EF _ mh'.2.1 (fun y hy=>Nat.le_trans (show y.body.length≤1073741824 from mh'.2.2 y hy) (by decide)) rfl
 cbv;rw[show allS ev=true from F.scal hev (fun _=>rfl)];cbv
 rw[F.app_nil hev (fun _=>rfl) (Nat.le_trans mh'.1 (by decide))];cbv
 rw[c1];cbv;rw[hQ];cbv;exact congrArg some hr
end Go.Vm
