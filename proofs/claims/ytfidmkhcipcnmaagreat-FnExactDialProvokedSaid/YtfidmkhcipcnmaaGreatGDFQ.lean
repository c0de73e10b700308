/- What the functions answer. -/
import Derived.Test.YtfidmkhcipcnmaaGreatGDTab
import Derived.Test.YtfidmkhcipcnmaaGreatGDFA
import Derived.Test.YtfidmkhcipcnmaaGreatGDFB
import Derived.Test.YtfidmkhcipcnmaaGreatGDFD
import Derived.Test.YtfidmkhcipcnmaaGreatGDFE
import Derived.Test.YtfidmkhcipcnmaaGreatGDFF
import Derived.Test.YtfidmkhcipcnmaaGreatGDFH
import Derived.Test.YtfidmkhcipcnmaaGreatGDFK
import Derived.Test.YtfidmkhcipcnmaaGreatGDFM
import Derived.Test.YtfidmkhcipcnmaaGreatGDFN
import Derived.Test.YtfidmkhcipcnmaaGreatGDFO
import Derived.Test.YtfidmkhcipcnmaaGreatGDFP
set_option maxHeartbeats 4000000
set_option maxRecDepth 10000
set_option linter.unusedVariables false
set_option linter.unusedSimpArgs false
namespace Go.Vm
theorem GJ (h:Hello) (path:List Box) (mh:h.Mid) (pl:path.length≤1073741824) (pm:∀ y∈path,y.Mid) {f0 f1 f2:Fl} (q0:ac f0=true) (q1:ac f1=true) (q2:ac f2=true):
  ∃ f g,HF (fbV h path).versions (fbV h path).exts f g∧fix Tb md 205 [aa (row fI h.versions) (row ab h.exts) f0 f1,R (row ar path) f2]=some ⟨[aa (row fI (fbV h path).versions) (row ab (fbV h path).exts) f g,B (fP h path)],[],none⟩:=by
 have mh':=mh;unfold Hello.Mid at mh';have hvl:=mh'.1;have hxl:=mh'.2.1;have wh:∀ y∈h.exts,y.body.length≤1099511627776:=fun y hy=>Nat.le_trans (show y.body.length≤1073741824 from mh'.2.2 y hy) (by decide)
 have wm:∀ y∈h.exts,y.body.length≤1073741824:=fun y hy=>mh'.2.2 y hy
 cases hi:aC h with
 | false=>
  rw[(Gs hi).1,(Gs hi).2];refine ⟨_,_, .nn,?_⟩
  generalize hr:(⟨_,[],none⟩:Ret)=r
  obtain ⟨dv,hdv⟩:=nm (row fI h.versions)
  obtain ⟨dx,hdx⟩:=nm (row ab h.exts)
  obtain ⟨ep,hep⟩:=nm (row ar path)
  rw[←hdv,←hdx,←hep];refine cJ (fn:=ir205) tb_205 rfl rfl (by decide) rfl ?_;intro Q hQ;simp only[aj,aV,List.map_cons,List.map_nil,ir205,ai q0,ai q1,ai q2,List.head?_nil,reduceCtorEq,if_false,cb,aa,ae,bp,al,aG,af,aH]
  intro add sub mul arith eq ne lt le gt ge neg conv mn mx not beq len at' ln bd cut app allS isNil mks set o hP F ho;have c1:o 142 [aa dv dx (.sp 0 0) (.sp 0 1)]=some ⟨[B false],[],none⟩:=by rw[ho,←hi,hdv,hdx];exact jW _ (by omega) (by omega) wh rfl rfl
  cbv;rw[c1];cbv;rw[show not false=true by rw[F.not];rfl];cbv
  rw[hQ];cbv;exact congrArg some hr
 | true=>
  have a1:(fbL h path).length≤1073741824:=Nat.le_trans nO hvl;have a2:(sel (br (fbL h path)) idI h.versions).length≤1073741824:=Nat.le_trans aI hvl;have a3:(fbT h path).length≤1073741824:=Nat.le_trans kR hxl;have hk:=HF.of3 (P:=fun V X f g=>fix Tb md 164 [aa (row fI h.versions) (row ab h.exts) (.sp 0 0) (.sp 0 1),R (row fI (fbL h path)) (.sp 1 0),R (row fI (fbT h path)) (.sp 2 0)]=some ⟨[aa V X f g,B (fP h path)],[],none⟩) (Ee h (fbL h path) (fbT h path) mh a1 a3 (f0:= .sp 0 0) (f1:= .sp 0 1) (f2:= .sp 1 0) (f3:= .sp 2 0) rfl rfl rfl rfl)
  obtain ⟨f,g,hf,hk⟩:=hk
  refine ⟨f,g,hf,?_⟩
  have k1:=GF path h.versions pl pm hvl (f0:= .sp 0 0) (f1:= .sp 1 0) rfl rfl;have k2:=GT h.versions (fbL h path) hvl a1 (f0:= .sp 0 0) (f1:= .sp 1 0) rfl rfl;have k3:=GH path (sel (br (fbL h path)) idI h.versions) h.exts pl pm a2 hxl wm (f0:= .sp 0 0) (f1:= .sp 1 0) (f2:= .sp 2 0) rfl rfl rfl;rw[show lvs path h.versions=fbL h path from rfl] at k1
  rw[show dR path (sel (br (fbL h path)) idI h.versions) h.exts=fbT h path from rfl] at k3
  obtain ⟨w,hw⟩:=nm (fP h path)
  rw[←hw] at hk ⊢;obtain ⟨eV,heV⟩:=nm (row fI (fbV h path).versions)
  obtain ⟨eX,heX⟩:=nm (row ab (fbV h path).exts)
  rw[show row fI (bT h (fbL h path) (fbT h path)).versions=eV from heV.symm,show row ab (bT h (fbL h path) (fbT h path)).exts=eX from heX.symm] at hk
  rw[←heV,←heX];obtain ⟨dv,hdv⟩:=nm (row fI h.versions)
  obtain ⟨dx,hdx⟩:=nm (row ab h.exts)
  obtain ⟨ep,hep⟩:=nm (row ar path)
  obtain ⟨el,hel⟩:=nm (row fI (fbL h path))
  obtain ⟨ew,hew⟩:=nm (row fI (sel (br (fbL h path)) idI h.versions))
  obtain ⟨et,het⟩:=nm (row fI (fbT h path))
  rw[←hdv,←hdx,←hel,←het] at hk;rw[←hdv,←hep,←hel] at k1;rw[←hdv,←hel,←hew] at k2;rw[←hep,←hew,←hdx,←het] at k3;rw[←hdv,←hdx,←hep]
  replace hf:=HF.fl hf
  rcases hf with ⟨rfl,rfl⟩ | ⟨rfl,rfl⟩ | ⟨rfl,rfl⟩
  all_goals
   generalize hr:(⟨_,[],none⟩:Ret)=r
   refine cJ (fn:=ir205) tb_205 rfl rfl (by decide) rfl ?_;intro Q hQ;simp only[aj,aV,List.map_cons,List.map_nil,ir205,ai q0,ai q1,ai q2,List.head?_nil,reduceCtorEq,if_false,cb,aa,ae,bp,al,aG,af,aH]
   intro add sub mul arith eq ne lt le gt ge neg conv mn mx not beq len at' ln bd cut app allS isNil mks set o hP F ho;have c1:o 142 [aa dv dx (.sp 0 0) (.sp 0 1)]=some ⟨[B true],[],none⟩:=by rw[ho,←hi,hdv,hdx];exact jW _ (by omega) (by omega) wh rfl rfl
   have c2:o 170 [R ep (.sp 0 0),R dv (.sp 1 0)]=some ⟨[R el (.ow false)],[],none⟩:=by rw[ho];exact k1
   have c3:o 292 [R dv (.sp 0 0),R el (.sp 1 0)]=some ⟨[R ew (.ow false)],[],none⟩:=by rw[ho];exact k2
   have c4:o 198 [R ep (.sp 0 0),R ew (.sp 1 0),R dx (.sp 2 0)]=some ⟨[R et (.ow false)],[],none⟩:=by rw[ho];exact k3
   have c5:=hk;rw[←ho] at c5;cbv;rw[c1];cbv;rw[show not true=false by rw[F.not];rfl];cbv
   rw[c2];cbv;rw[c3];cbv;rw[c4];cbv;rw[c5];cbv;rw[hQ];cbv;exact congrArg some hr
theorem HC (h:Hello) (path:List Box) (mh:h.Mid) (pl:path.length≤1073741824) (pm:∀ y∈path,y.Mid) {f0 f1 f2:Fl} (q0:ac f0=true) (q1:ac f1=true) (q2:ac f2=true):
  fix Tb md 205 [aa (row fI h.versions) (row ab h.exts) f0 f1,R (row ar path) f2]=some ⟨[aa (row fI (fbV h path).versions) (row ab (fbV h path).exts) (.ow false) (.ow false),B (fP h path)],[],none⟩∨
  ((fbV h path).exts=[]∧fix Tb md 205 [aa (row fI h.versions) (row ab h.exts) f0 f1,R (row ar path) f2]=some ⟨[aa (row fI (fbV h path).versions) [] (.ow false) .nl,B (fP h path)],[],none⟩)∨
  ((fbV h path).versions=[]∧(fbV h path).exts=[]∧fix Tb md 205 [aa (row fI h.versions) (row ab h.exts) f0 f1,R (row ar path) f2]=some ⟨[aa [] [] .nl .nl,B (fP h path)],[],none⟩):=
 HF.three (P:=fun V X f g=>fix Tb md 205 [aa (row fI h.versions) (row ab h.exts) f0 f1,R (row ar path) f2]=some ⟨[aa V X f g,B (fP h path)],[],none⟩) (GJ h path mh pl pm q0 q1 q2)
theorem Es (h:Hello) (path:List Box) (mh:h.Mid) (pl:path.length≤1073741824) (pm:∀ y∈path,y.Mid) {f0 f1 f2:Fl} (q0:ac f0=true) (q1:ac f1=true) (q2:ac f2=true):
  ∃ f g,HF (hfV h path).versions (hfV h path).exts f g∧fix Tb md 208 [aa (row fI h.versions) (row ab h.exts) f0 f1,R (row ar path) f2]=some ⟨[aa (row fI (hfV h path).versions) (row ab (hfV h path).exts) f g,I (hfN h path),B (dA h path)],[],none⟩:=by
 have mh':=mh;unfold Hello.Mid at mh';have hvl:=mh'.1;have hxl:=mh'.2.1;have wh:∀ y∈h.exts,y.body.length≤1099511627776:=fun y hy=>Nat.le_trans (show y.body.length≤1073741824 from mh'.2.2 y hy) (by decide)
 have k1:=jW h (by omega) (by omega) wh (f0:= .sp 0 0) (f1:= .sp 0 1) rfl rfl
 have k2:=Em h path mh pl pm (f0:= .sp 0 0) (f1:= .sp 0 1) (f2:= .sp 1 0) rfl rfl rfl;have k3:=BJ h mh (f0:= .sp 0 0) (f1:= .sp 0 1) rfl rfl;obtain ⟨f,g,hf,k4⟩:=GJ h path mh pl pm (f0:= .sp 0 0) (f1:= .sp 0 1) (f2:= .sp 1 0) rfl rfl rfl
 have k5:=fun (f0 f1:Fl) (q0:ac f0=true) (q1:ac f1=true)=>Em (fbV h path) path (sm mh) pl pm (f0:=f0) (f1:=f1) (f2:= .sp 1 0) q0 q1 rfl
 cases hi:aC h with
 | false=>
  rw[(Ae (path:=path) hi).1,(Ae (path:=path) hi).2.1,(Ae (path:=path) hi).2.2];refine ⟨_,_, .nn,?_⟩
  rw[hi] at k1;clear k2 k3 k4 k5;generalize hr:(⟨_,[],none⟩:Ret)=r
  obtain ⟨dv,hdv⟩:=nm (row fI h.versions)
  obtain ⟨dx,hdx⟩:=nm (row ab h.exts)
  obtain ⟨ep,hep⟩:=nm (row ar path)
  rw[←hdv,←hdx] at k1;rw[←hdv,←hdx,←hep];refine cJ (fn:=ir208) tb_208 rfl rfl (by decide) rfl ?_;intro Q hQ;simp only[aj,aV,List.map_cons,List.map_nil,ir208,ai q0,ai q1,ai q2,List.head?_nil,reduceCtorEq,if_false,cb,aa,ae,bp,al,aG,af,aH]
  intro add sub mul arith eq ne lt le gt ge neg conv mn mx not beq len at' ln bd cut app allS isNil mks set o hP F ho;rw[←ho] at k1;cbv;rw[k1];cbv;rw[show not false=true by rw[F.not];rfl];cbv
  rw[hQ];cbv;exact congrArg some hr
 | true=>
  rw[hi] at k1;cases hp:pw h path with
  | true=>
   rw[(sX hi hp).1,(sX hi hp).2.1,(sX hi hp).2.2];refine ⟨_,_, .oo _ _,?_⟩
   rw[hp] at k2;clear k4 k5;generalize hr:(⟨_,[],none⟩:Ret)=r
   obtain ⟨dv,hdv⟩:=nm (row fI h.versions)
   obtain ⟨dx,hdx⟩:=nm (row ab h.exts)
   obtain ⟨ep,hep⟩:=nm (row ar path)
   rw[←hdv,←hdx] at k1 k2 k3;rw[←hep] at k2;rw[←hdv,←hdx,←hep];rw[←hdv,←hdx] at hr;refine cJ (fn:=ir208) tb_208 rfl rfl (by decide) rfl ?_;intro Q hQ;simp only[aj,aV,List.map_cons,List.map_nil,ir208,ai q0,ai q1,ai q2,List.head?_nil,reduceCtorEq,if_false,cb,aa,ae,bp,al,aG,af,aH]
   intro add sub mul arith eq ne lt le gt ge neg conv mn mx not beq len at' ln bd cut app allS isNil mks set o hP F ho;rw[←ho] at k1 k2 k3;cbv;rw[k1];cbv;rw[show not true=false by rw[F.not];rfl];cbv
   rw[k2];cbv;rw[k3];cbv;rw[hQ];cbv;exact congrArg some hr
  | false=>
   rw[hp] at k2;obtain ⟨w,hw⟩:=nm (fP h path)
   obtain ⟨v,hv⟩:=nm (pw (fbV h path) path)
   rw[←hw] at k4;rw[←hv] at k5;have hcv:hfC h path=(w&&v):=by rw[hw,hv];rfl
   obtain ⟨eV,heV⟩:=nm (row fI (fbV h path).versions)
   obtain ⟨eX,heX⟩:=nm (row ab (fbV h path).exts)
   rw[←heV,←heX] at k4 k5;obtain ⟨dv,hdv⟩:=nm (row fI h.versions)
   obtain ⟨dx,hdx⟩:=nm (row ab h.exts)
   obtain ⟨ep,hep⟩:=nm (row ar path)
   rw[←hdv,←hdx] at k1 k2 k3 k4;rw[←hep] at k2 k4 k5;have k6:=k5 (inA f 0 0) (inA g 0 1) (hf.inl 0 0) (hf.inr 0 1);have hf':=HF.fl hf;cases hc:(w&&v) with
   | false=>
    rw[hc] at hcv;rw[(Cm hi hp hcv).1,(Cm hi hp hcv).2.1,(Cm hi hp hcv).2.2];refine ⟨_,_, .nn,?_⟩
    rw[←hdv,←hdx,←hep];rcases hf' with ⟨rfl,rfl⟩ | ⟨rfl,rfl⟩ | ⟨rfl,rfl⟩
    all_goals
     simp only[inA] at k6;generalize hr:(⟨_,[],none⟩:Ret)=r
     refine cJ (fn:=ir208) tb_208 rfl rfl (by decide) rfl ?_;intro Q hQ;simp only[aj,aV,List.map_cons,List.map_nil,ir208,ai q0,ai q1,ai q2,List.head?_nil,reduceCtorEq,if_false,cb,aa,ae,bp,al,aG,af,aH]
     intro add sub mul arith eq ne lt le gt ge neg conv mn mx not beq len at' ln bd cut app allS isNil mks set o hP F ho;rw[←ho] at k1 k2 k3 k4 k6;cbv;rw[k1];cbv;rw[show not true=false by rw[F.not];rfl];cbv
     rw[k2];cbv;rw[k4];cbv;refine both (fun d1=>?_) (fun d1=>?_)<;>rw[d1]<;>cbv
     ·rw[hQ];cbv;exact congrArg some hr
     rw[F.not_f d1,Bool.true_and] at hc;rw[hc] at k6;rw[k6];cbv;rw[show not false=true by rw[F.not];rfl];cbv
     rw[hQ];cbv;exact congrArg some hr
   | true=>
    rw[hc] at hcv;rw[Bool.and_eq_true] at hc;rw[(xV hi hp hcv).1,(xV hi hp hcv).2.1,(xV hi hp hcv).2.2];refine ⟨_,_,hf,?_⟩
    rw[←heV,←heX,←hdv,←hdx,←hep];rw[hc.1] at k4;rw[hc.2] at k6;rcases hf' with ⟨rfl,rfl⟩ | ⟨rfl,rfl⟩ | ⟨rfl,rfl⟩
    all_goals
     simp only[inA] at k6;generalize hr:(⟨_,[],none⟩:Ret)=r
     refine cJ (fn:=ir208) tb_208 rfl rfl (by decide) rfl ?_;intro Q hQ;simp only[aj,aV,List.map_cons,List.map_nil,ir208,ai q0,ai q1,ai q2,List.head?_nil,reduceCtorEq,if_false,cb,aa,ae,bp,al,aG,af,aH]
     intro add sub mul arith eq ne lt le gt ge neg conv mn mx not beq len at' ln bd cut app allS isNil mks set o hP F ho;rw[←ho] at k1 k2 k3 k4 k6;cbv;rw[k1];cbv;rw[show not true=false by rw[F.not];rfl];cbv
     rw[k2];cbv;rw[k4];cbv;rw[show not true=false by rw[F.not];rfl];cbv
     rw[k6];cbv;rw[show not true=false by rw[F.not];rfl];cbv
     rw[hQ];cbv;exact congrArg some hr
theorem HD (h:Hello) (path:List Box) (mh:h.Mid) (pl:path.length≤1073741824) (pm:∀ y∈path,y.Mid) {f0 f1 f2:Fl} (q0:ac f0=true) (q1:ac f1=true) (q2:ac f2=true):
  fix Tb md 208 [aa (row fI h.versions) (row ab h.exts) f0 f1,R (row ar path) f2]=some ⟨[aa (row fI (hfV h path).versions) (row ab (hfV h path).exts) (.ow false) (.ow false),I (hfN h path),B (dA h path)],[],none⟩∨
  ((hfV h path).exts=[]∧fix Tb md 208 [aa (row fI h.versions) (row ab h.exts) f0 f1,R (row ar path) f2]=some ⟨[aa (row fI (hfV h path).versions) [] (.ow false) .nl,I (hfN h path),B (dA h path)],[],none⟩)∨
  ((hfV h path).versions=[]∧(hfV h path).exts=[]∧fix Tb md 208 [aa (row fI h.versions) (row ab h.exts) f0 f1,R (row ar path) f2]=some ⟨[aa [] [] .nl .nl,I (hfN h path),B (dA h path)],[],none⟩):=
 HF.three (P:=fun V X f g=>fix Tb md 208 [aa (row fI h.versions) (row ab h.exts) f0 f1,R (row ar path) f2]=some ⟨[aa V X f g,I (hfN h path),B (dA h path)],[],none⟩) (Es h path mh pl pm q0 q1 q2)
def diV (h:Hello) (path:List Box) (vs tg:List Int) (k:Int):Dialed:=if dA h path then ⟨doV (hfV h path) path vs tg k,hfN h path,dI h (hfV h path)⟩ else ⟨⟨false,0,[]⟩,hfN h path,[]⟩
theorem Av (h:Hello) (lv tg:List Int):(bT h lv tg).versions.length≤h.versions.length∧(bT h lv tg).exts.length≤h.exts.length:=by
 unfold bT;split
 ·exact ⟨aI,aI⟩
 ·exact ⟨by simp,by simp⟩
theorem xR (h:Hello) (path:List Box):(hfV h path).versions.length≤h.versions.length∧(hfV h path).exts.length≤h.exts.length:=by
 unfold hfV;split
 ·split
  ·exact ⟨Nat.le_refl _,Nat.le_refl _⟩
  ·split
   ·exact Av _ _ _
   ·exact ⟨by simp,by simp⟩
 ·exact ⟨by simp,by simp⟩
theorem v7 {h:Hello} {path:List Box} {vs tg:List Int} {k:Int} (m:h.Mid) (m1:h.versions.length≤1048576) (m2:h.exts.length≤1048576):(diV h path vs tg k).Mid:=by
 unfold diV;split
 ·refine ⟨A7 (lE m),?_⟩
  show (dI h (hfV h path)).length≤1073741824;have:=sW h (hfV h path)
  omega
 ·exact ⟨by show ([]:List Int).length≤_;simp,by simp⟩
theorem Hc {h:Hello} {path:List Box} {vs tg:List Int} {k:Int} (q:lj h path vs tg k=false):doV h path vs tg k=⟨false,0,[]⟩:=by unfold doV;rw[q];rfl
def diA (h:Hello) (path:List Box) (vs tg:List Int) (k:Int):Bool:=dA h path&&lj (hfV h path) path vs tg k
theorem zX {h:Hello} {path:List Box} {vs tg:List Int} {k:Int} (q:diA h path vs tg k=false):(diV h path vs tg k).deal.tags=[]:=by
 unfold diA at q;unfold diV;cases w:dA h path with
 | false=>rfl
 | true=>rw[w,Bool.true_and] at q;simp only[if_true];rw[Hc q]
theorem zY {h:Hello} {path:List Box} {vs tg:List Int} {k:Int} (q:dA h path=false):(diV h path vs tg k).up=[]:=by unfold diV;rw[q];rfl
theorem Gu {d:Dialed} {a b:Bool} {P Q:List (List V)→List (List V)→Fl→Fl→Prop} (ha:a=false→d.deal.tags=[]) (hb:b=false→d.up=[]) (hab:a=true→b=true) (p:P (row fI d.deal.tags) (row fI d.up) (tF a) (tF b)) (q:Q (row fI d.deal.tags) (row fI d.up) (tF a) (tF b)):
  ((P (row fI d.deal.tags) (row fI d.up) (.ow false) (.ow false))∧(Q (row fI d.deal.tags) (row fI d.up) (.ow false) (.ow false)))∨((d.deal.tags=[]∧P [] (row fI d.up) .nl (.ow false))∧(d.deal.tags=[]∧Q [] (row fI d.up) .nl (.ow false)))∨((d.deal.tags=[]∧d.up=[]∧P [] [] .nl .nl)∧(d.deal.tags=[]∧d.up=[]∧Q [] [] .nl .nl)):=by
 cases b with
 | true=>cases a with
  | true=>exact .inl ⟨p,q⟩
  | false=>have e:=ha rfl;rw[e] at p q;exact .inr (.inl ⟨⟨e,p⟩,e,q⟩)
 | false=>cases a with
  | true=>cases hab rfl
  | false=>have e:=ha rfl;have e2:=hb rfl;rw[e,e2] at p q;exact .inr (.inr ⟨⟨e,e2,p⟩,e,e2,q⟩)
theorem GK (h:Hello) (path:List Box) (vs tg:List Int) (k:Int) (mh:h.Mid) (m1:h.versions.length≤1048576) (m2:h.exts.length≤1048576) (pl:path.length≤1073741824) (pm:∀ y∈path,y.Mid) (hv:vs.length≤1073741824) (ht:tg.length≤1073741824) {f0 f1 f2 f3 f4:Fl} (q0:ac f0=true) (q1:ac f1=true) (q2:ac f2=true) (q3:ac f3=true) (q4:ac f4=true):
  fix Tb md 222 [aa (row fI h.versions) (row ab h.exts) f0 f1,R (row ar path) f2,R (row fI vs) f3,R (row fI tg) f4,I k]=some ⟨[af (diV h path vs tg k).deal.ok (diV h path vs tg k).deal.version (row fI (diV h path vs tg k).deal.tags) (diV h path vs tg k).tries (row fI (diV h path vs tg k).up) (tF (diA h path vs tg k)) (tF (dA h path))],[],none⟩:=by
 obtain ⟨fv,gv,hf,k1⟩:=Es h path mh pl pm (f0:= .sp 0 0) (f1:= .sp 0 1) (f2:= .sp 1 0) rfl rfl rfl
 obtain ⟨x,hx⟩:=nm (hfV h path)
 have mx:x.Mid:=by rw[hx];exact lE mh
 have lx:=xR h path;rw[←hx] at k1 lx hf;obtain ⟨w,hw⟩:=nm (dA h path)
 obtain ⟨n,hn⟩:=nm (hfN h path)
 rw[←hw,←hn] at k1;have k2:=Eu x path vs tg k mx pl pm hv ht (f0:=inA fv 0 0) (f1:=inA gv 0 1) (f2:= .sp 1 0) (f3:= .sp 2 0) (f4:= .sp 3 0) (hf.inl 0 0) (hf.inr 0 1) rfl rfl rfl;have k3:=GE h x m1 (by omega) m2 (by omega) (f0:= .sp 0 0) (f1:= .sp 0 1) (f2:=inA fv 1 0) (f3:=inA gv 1 1) rfl rfl (hf.inl 1 0) (hf.inr 1 1)
 have hT:diV h path vs tg k=if w then ⟨doV x path vs tg k,n,dI h x⟩ else ⟨⟨false,0,[]⟩,n,[]⟩:=by rw[hw,hn,hx];rfl
 have hA:diA h path vs tg k=(w&&lj x path vs tg k):=by rw[hw,hx];rfl
 replace hf:=HF.fl hf
 rw[hT,hA,←hw];clear hT hA;cases w with
 | false=>
  rw[Bool.false_and];clear k2 k3;generalize hr:(⟨_,[],none⟩:Ret)=r
  obtain ⟨dv,hdv⟩:=nm (row fI h.versions)
  obtain ⟨dx,hdx⟩:=nm (row ab h.exts)
  obtain ⟨ep,hep⟩:=nm (row ar path)
  obtain ⟨ev,hev⟩:=nm (row fI vs)
  obtain ⟨et,het⟩:=nm (row fI tg)
  obtain ⟨xv,hxv⟩:=nm (row fI x.versions)
  obtain ⟨xx,hxx⟩:=nm (row ab x.exts)
  rw[←hdv,←hdx,←hep,←hxv,←hxx] at k1;rw[←hdv,←hdx,←hep,←hev,←het];rcases hf with ⟨rfl,rfl⟩ | ⟨rfl,rfl⟩ | ⟨rfl,rfl⟩
  all_goals
   refine cJ (fn:=ir222) tb_222 rfl rfl (by decide) rfl ?_;intro Q hQ;simp only[aj,aV,List.map_cons,List.map_nil,ir222,ai q0,ai q1,ai q2,ai q3,ai q4,List.head?_nil,reduceCtorEq,if_false,cb,aa,ae,bp,al,aG,af,aH]
   intro add sub mul arith eq ne lt le gt ge neg conv mn mx not beq len at' ln bd cut app allS isNil mks set o hP F ho;rw[←ho] at k1;cbv;rw[k1];cbv;rw[show not false=true by rw[F.not];rfl];cbv
   rw[hQ];cbv;exact congrArg some hr
 | true=>
  simp only[if_true,Bool.true_and];obtain ⟨bb,hbb⟩:=nm (lj x path vs tg k)
  rw[←hbb] at k2 ⊢;obtain ⟨d,hd⟩:=nm (doV x path vs tg k)
  obtain ⟨u,hu⟩:=nm (dI h x)
  rw[←hd] at k2;rw[←hu] at k3;rw[←hd,←hu];obtain ⟨dv,hdv⟩:=nm (row fI h.versions)
  obtain ⟨dx,hdx⟩:=nm (row ab h.exts)
  obtain ⟨ep,hep⟩:=nm (row ar path)
  obtain ⟨ev,hev⟩:=nm (row fI vs)
  obtain ⟨et,het⟩:=nm (row fI tg)
  obtain ⟨xv,hxv⟩:=nm (row fI x.versions)
  obtain ⟨xx,hxx⟩:=nm (row ab x.exts)
  obtain ⟨eu,heu⟩:=nm (row fI u)
  rw[←hdv,←hdx,←hep,←hxv,←hxx] at k1;rw[←hxv,←hxx,←hep,←hev,←het] at k2;rw[←hdv,←hdx,←hxv,←hxx,←heu] at k3;rw[←hdv,←hdx,←hep,←hev,←het,←heu];have k4:=k2;clear k2;obtain ⟨ez,hez⟩:=nm (row fI d.tags)
  rw[←hez] at k4 ⊢;clear hbb;rcases hf with ⟨rfl,rfl⟩ | ⟨rfl,rfl⟩ | ⟨rfl,rfl⟩
  all_goals
   simp only[inA] at k3 k4;cases bb
   all_goals
    simp only[tF] at k4 ⊢;generalize hr:(⟨_,[],none⟩:Ret)=r
    refine cJ (fn:=ir222) tb_222 rfl rfl (by decide) rfl ?_;intro Q hQ;simp only[aj,aV,List.map_cons,List.map_nil,ir222,ai q0,ai q1,ai q2,ai q3,ai q4,List.head?_nil,reduceCtorEq,if_false,cb,aa,ae,bp,al,aG,af,aH]
    intro add sub mul arith eq ne lt le gt ge neg conv mn mx not beq len at' ln bd cut app allS isNil mks set o hP F ho;rw[←ho] at k1 k3 k4;cbv;rw[k1];cbv;rw[show not true=false by rw[F.not];rfl];cbv
    rw[k4];cbv;rw[k3];cbv;rw[hQ];cbv;exact congrArg some hr
theorem Er (h:Hello) (path:List Box) (vs tg:List Int) (k:Int) (mh:h.Mid) (m1:h.versions.length≤1048576) (m2:h.exts.length≤1048576) (pl:path.length≤1073741824) (pm:∀ y∈path,y.Mid) (hv:vs.length≤1073741824) (ht:tg.length≤1073741824) {f0 f1 f2 f3 f4:Fl} (q0:ac f0=true) (q1:ac f1=true) (q2:ac f2=true) (q3:ac f3=true) (q4:ac f4=true):
  fix Tb md 204 [aa (row fI h.versions) (row ab h.exts) f0 f1,R (row ar path) f2,R (row fI vs) f3,R (row fI tg) f4,I k]=some ⟨[af (diV h path vs tg k).deal.ok (diV h path vs tg k).deal.version (row fI (diV h path vs tg k).deal.tags) (diV h path vs tg k).tries (row fI (diV h path vs tg k).up) (tF (diA h path vs tg k)) (tF (dA h path))],[],none⟩:=by
 obtain ⟨fv,gv,hf,k1⟩:=vw h path mh pl pm (f0:= .sp 0 0) (f1:= .sp 0 1) (f2:= .sp 1 0) rfl rfl rfl
 obtain ⟨x,hx⟩:=nm (hfV h path)
 have mx:x.Mid:=by rw[hx];exact lE mh
 have lx:=xR h path;rw[←hx] at k1 lx hf;obtain ⟨w,hw⟩:=nm (dA h path)
 obtain ⟨n,hn⟩:=nm (hfN h path)
 rw[←hw,←hn] at k1;have k2:=Ey x path vs tg k mx pl pm hv ht (f0:=inA fv 0 0) (f1:=inA gv 0 1) (f2:= .sp 1 0) (f3:= .sp 2 0) (f4:= .sp 3 0) (hf.inl 0 0) (hf.inr 0 1) rfl rfl rfl;have k3:=D6 h x m1 (by omega) m2 (by omega) (f0:= .sp 0 0) (f1:= .sp 0 1) (f2:=inA fv 1 0) (f3:=inA gv 1 1) rfl rfl (hf.inl 1 0) (hf.inr 1 1)
 have hT:diV h path vs tg k=if w then ⟨doV x path vs tg k,n,dI h x⟩ else ⟨⟨false,0,[]⟩,n,[]⟩:=by rw[hw,hn,hx];rfl
 have hA:diA h path vs tg k=(w&&lj x path vs tg k):=by rw[hw,hx];rfl
 replace hf:=HF.fl hf
 rw[hT,hA,←hw];clear hT hA;cases w with
 | false=>
  rw[Bool.false_and];clear k2 k3;generalize hr:(⟨_,[],none⟩:Ret)=r
  obtain ⟨dv,hdv⟩:=nm (row fI h.versions)
  obtain ⟨dx,hdx⟩:=nm (row ab h.exts)
  obtain ⟨ep,hep⟩:=nm (row ar path)
  obtain ⟨ev,hev⟩:=nm (row fI vs)
  obtain ⟨et,het⟩:=nm (row fI tg)
  obtain ⟨xv,hxv⟩:=nm (row fI x.versions)
  obtain ⟨xx,hxx⟩:=nm (row ab x.exts)
  rw[←hdv,←hdx,←hep,←hxv,←hxx] at k1;rw[←hdv,←hdx,←hep,←hev,←het];rcases hf with ⟨rfl,rfl⟩ | ⟨rfl,rfl⟩ | ⟨rfl,rfl⟩
  all_goals
   refine cJ (fn:=ir204) tb_204 rfl rfl (by decide) rfl ?_;intro Q hQ;simp only[aj,aV,List.map_cons,List.map_nil,ir204,ai q0,ai q1,ai q2,ai q3,ai q4,List.head?_nil,reduceCtorEq,if_false,cb,aa,ae,bp,al,aG,af,aH]
   intro add sub mul arith eq ne lt le gt ge neg conv mn mx not beq len at' ln bd cut app allS isNil mks set o hP F ho;rw[←ho] at k1;cbv;rw[k1];cbv;rw[show not false=true by rw[F.not];rfl];cbv
   rw[hQ];cbv;exact congrArg some hr
 | true=>
  simp only[if_true,Bool.true_and];obtain ⟨bb,hbb⟩:=nm (lj x path vs tg k)
  rw[←hbb] at k2 ⊢;obtain ⟨d,hd⟩:=nm (doV x path vs tg k)
  obtain ⟨u,hu⟩:=nm (dI h x)
  rw[←hd] at k2;rw[←hu] at k3;rw[←hd,←hu];obtain ⟨dv,hdv⟩:=nm (row fI h.versions)
  obtain ⟨dx,hdx⟩:=nm (row ab h.exts)
  obtain ⟨ep,hep⟩:=nm (row ar path)
  obtain ⟨ev,hev⟩:=nm (row fI vs)
  obtain ⟨et,het⟩:=nm (row fI tg)
  obtain ⟨xv,hxv⟩:=nm (row fI x.versions)
  obtain ⟨xx,hxx⟩:=nm (row ab x.exts)
  obtain ⟨eu,heu⟩:=nm (row fI u)
  rw[←hdv,←hdx,←hep,←hxv,←hxx] at k1;rw[←hxv,←hxx,←hep,←hev,←het] at k2;rw[←hdv,←hdx,←hxv,←hxx,←heu] at k3;rw[←hdv,←hdx,←hep,←hev,←het,←heu];have k4:=k2;clear k2;obtain ⟨ez,hez⟩:=nm (row fI d.tags)
  rw[←hez] at k4 ⊢;clear hbb;rcases hf with ⟨rfl,rfl⟩ | ⟨rfl,rfl⟩ | ⟨rfl,rfl⟩
  all_goals
   simp only[inA] at k3 k4;cases bb
   all_goals
    simp only[tF] at k4 ⊢;generalize hr:(⟨_,[],none⟩:Ret)=r
    refine cJ (fn:=ir204) tb_204 rfl rfl (by decide) rfl ?_;intro Q hQ;simp only[aj,aV,List.map_cons,List.map_nil,ir204,ai q0,ai q1,ai q2,ai q3,ai q4,List.head?_nil,reduceCtorEq,if_false,cb,aa,ae,bp,al,aG,af,aH]
    intro add sub mul arith eq ne lt le gt ge neg conv mn mx not beq len at' ln bd cut app allS isNil mks set o hP F ho;rw[←ho] at k1 k3 k4;cbv;rw[k1];cbv;rw[show not true=false by rw[F.not];rfl];cbv
    rw[k4];cbv;rw[k3];cbv;rw[hQ];cbv;exact congrArg some hr
theorem Fr (h:Hello) (path:List Box) (vs tg:List Int) (k:Int) (mh:h.Mid) (m1:h.versions.length≤1048576) (m2:h.exts.length≤1048576) (pl:path.length≤1073741824) (pm:∀ y∈path,y.Mid) (hv:vs.length≤1073741824) (ht:tg.length≤1073741824) {f0 f1 f2 f3 f4:Fl} (q0:ac f0=true) (q1:ac f1=true) (q2:ac f2=true) (q3:ac f3=true) (q4:ac f4=true):
  ((fix Tb md 222 [aa (row fI h.versions) (row ab h.exts) f0 f1,R (row ar path) f2,R (row fI vs) f3,R (row fI tg) f4,I k]=some ⟨[af (diV h path vs tg k).deal.ok (diV h path vs tg k).deal.version (row fI (diV h path vs tg k).deal.tags) (diV h path vs tg k).tries (row fI (diV h path vs tg k).up) (.ow false) (.ow false)],[],none⟩)∧(fix Tb md 204 [aa (row fI h.versions) (row ab h.exts) f0 f1,R (row ar path) f2,R (row fI vs) f3,R (row fI tg) f4,I k]=some ⟨[af (diV h path vs tg k).deal.ok (diV h path vs tg k).deal.version (row fI (diV h path vs tg k).deal.tags) (diV h path vs tg k).tries (row fI (diV h path vs tg k).up) (.ow false) (.ow false)],[],none⟩))∨(((diV h path vs tg k).deal.tags=[]∧fix Tb md 222 [aa (row fI h.versions) (row ab h.exts) f0 f1,R (row ar path) f2,R (row fI vs) f3,R (row fI tg) f4,I k]=some ⟨[af (diV h path vs tg k).deal.ok (diV h path vs tg k).deal.version [] (diV h path vs tg k).tries (row fI (diV h path vs tg k).up) .nl (.ow false)],[],none⟩)∧((diV h path vs tg k).deal.tags=[]∧fix Tb md 204 [aa (row fI h.versions) (row ab h.exts) f0 f1,R (row ar path) f2,R (row fI vs) f3,R (row fI tg) f4,I k]=some ⟨[af (diV h path vs tg k).deal.ok (diV h path vs tg k).deal.version [] (diV h path vs tg k).tries (row fI (diV h path vs tg k).up) .nl (.ow false)],[],none⟩))∨(((diV h path vs tg k).deal.tags=[]∧(diV h path vs tg k).up=[]∧fix Tb md 222 [aa (row fI h.versions) (row ab h.exts) f0 f1,R (row ar path) f2,R (row fI vs) f3,R (row fI tg) f4,I k]=some ⟨[af (diV h path vs tg k).deal.ok (diV h path vs tg k).deal.version [] (diV h path vs tg k).tries [] .nl .nl],[],none⟩)∧((diV h path vs tg k).deal.tags=[]∧(diV h path vs tg k).up=[]∧fix Tb md 204 [aa (row fI h.versions) (row ab h.exts) f0 f1,R (row ar path) f2,R (row fI vs) f3,R (row fI tg) f4,I k]=some ⟨[af (diV h path vs tg k).deal.ok (diV h path vs tg k).deal.version [] (diV h path vs tg k).tries [] .nl .nl],[],none⟩)):=
 Gu (P:=fun a b f g=>fix Tb md 222 [aa (row fI h.versions) (row ab h.exts) f0 f1,R (row ar path) f2,R (row fI vs) f3,R (row fI tg) f4,I k]=some ⟨[af (diV h path vs tg k).deal.ok (diV h path vs tg k).deal.version a (diV h path vs tg k).tries b f g],[],none⟩) (Q:=fun a b f g=>fix Tb md 204 [aa (row fI h.versions) (row ab h.exts) f0 f1,R (row ar path) f2,R (row fI vs) f3,R (row fI tg) f4,I k]=some ⟨[af (diV h path vs tg k).deal.ok (diV h path vs tg k).deal.version a (diV h path vs tg k).tries b f g],[],none⟩) zX zY (fun e=>by unfold diA at e;rw[Bool.and_eq_true] at e;exact e.1) (GK h path vs tg k mh m1 m2 pl pm hv ht q0 q1 q2 q3 q4) (Er h path vs tg k mh m1 m2 pl pm hv ht q0 q1 q2 q3 q4)
theorem jU (l:List Int) (k:Int) (hk:Lim k l.length) (hl:l.length≤1099511627776) {f0:Fl} (h0:ac f0=true):fix Tb md 125 [R (row fI (mI l k)) f0,I k]=some ⟨[I (k+(l.length:Int))],[],none⟩:=by
 obtain ⟨t,ht⟩:=nm (k+(l.length:Int))
 have hT:AtK t k l.length:=ht;rw[←ht];clear ht;refine bB (fn:=ir125) tb_125 rfl rfl (by decide) rfl ?_;simp only[aj,aV,List.map_cons,List.map_nil,ir125,ai h0,List.head?_nil,reduceCtorEq,if_false,cb,aa,ae,bp,al,aG,af,aH]
 generalize hr:(⟨_,[],none⟩:Ret)=r
 obtain ⟨ea,hea⟩:=nm (row fI (mI l k))
 rw[←hea];intro add sub mul arith eq ne lt le gt ge neg conv mn mx not beq len at' ln bd cut app allS isNil mks set o hP F ho;have la:=F.len_at hea;cbv;refine aJ hP (σ:=List Int×List Int×Int×Int) (fun s=>[(0,R ea .sh),(1,I s.2.2.1),(4,I 0),(5,I s.2.2.2)])
  (fun s=>At s.2.2.2 s.2.1.length∧AtK s.2.2.1 k s.2.1.length∧l=s.2.1++s.1) (fun s=>s.1.length) (l,[],k,0) rfl ⟨rfl,AtK.zero,rfl⟩ ?_
 rintro ⟨suf,pre,x,i⟩ ⟨hi,hx,hl'⟩ ih
 simp only at hi hx hl' ih;cbv;cases suf with
 | nil=>
  rw[F.lt_f hi la (by rw[kB,hl'];simp)];cbv
  rw[←hr,show x=t by rw[hx.same,hT.same,hl'];simp]
 | cons y suf=>
  have hl3:pre.length+1≤l.length:=by rw[hl'];simp
  have a1:add .i64 x 1=x+1:=by rw[F.add,hx.inc hk (by omega)]
  have hm:mI l k=mI pre k++x::mI suf (x+1):=by rw[hl',Am pre _ k x hx];rfl
  rw[F.lt_t hi la (by rw[kB,hl'];simp)];cbv
  obtain ⟨ix,hix⟩:=nm (pre.length * 1)
  rw[show at' 1 ea i=some (ix,[.int .i64 x]) by rw[hix];have h:=F.get (f:=fI) (k:=1) (show At i (mI pre k).length by rw[kB];exact hi) hea hm (fun _=>rfl) (by decide);rw[kB] at h;exact h];cbv
  rw[F.ne_f rfl];cbv;rw[a1];refine ih (suf,pre++[y],x+1,add .i64 i 1) ⟨ao (F.inc hi (by omega)) (by simp),hx.one.eq (by simp),by simp[hl']⟩ (by simp)
theorem As (x:Deal) (k:Int) (hk:Lim k (bR x)) (w:x.Mid) {f0:Fl} (q0:ac f0=true):fix Tb md 88 [al x.ok x.version (row fI (b9 x k).tags) f0,I k]=some ⟨[I (k+(bR x:Int))],[],none⟩:=by
 have hn:bR x=x.tags.length:=rfl;unfold Deal.Mid at w;have a0:AtK k k 0:=AtK.zero;obtain ⟨z1,hz1⟩:=nm (k+(x.tags.length:Int))
 have a1:AtK z1 k (0+x.tags.length):=hz1▸a0.plus;have m1:Lim k (x.tags.length):=a0.lim hk (by omega)
 have n1:0≤z1:=by have:=m1.nn;omega
 rw[show k+(bR x:Int)=z1 by rw[a1.same,hn];simp]
 have x0:(b9 x k).tags=mI x.tags k:=by simp only[b9,hz1]
 rw[x0];refine bB (fn:=ir88) tb_88 rfl rfl (by decide) rfl ?_;simp only[aj,aV,List.map_cons,List.map_nil,ir88,ai q0,List.head?_nil,reduceCtorEq,if_false,cb,aa,ae,bp,al,aG,af,aH]
 generalize hr:(⟨_,[],none⟩:Ret)=r
 obtain ⟨g0,hg0⟩:=nm (row fI (mI x.tags k))
 rw[←hg0];intro add sub mul arith eq ne lt le gt ge neg conv mn mx not beq len at' ln bd cut app allS isNil mks set o hP F ho;have c1:o 125 [R g0 (.sp 0 0),I k]=some ⟨[I z1],[],none⟩:=by rw[ho,hz1,hg0];exact jU _ _ m1 (Nat.le_trans (w) (by decide)) rfl
 cbv;rw[c1];cbv;rw[show lt z1 0=false by rw[F.lt];simp;omega];cbv
 exact congrArg some hr
theorem vx (x:Dialed) (k:Int) (hk:Lim k (ci x)) (w:x.Mid) {f0 f1:Fl} (q0:ac f0=true) (q1:ac f1=true):fix Tb md 225 [af x.deal.ok x.deal.version (row fI (aZ x k).deal.tags) x.tries (row fI (aZ x k).up) f0 f1,I k]=some ⟨[I (k+(ci x:Int))],[],none⟩:=by
 have hn:ci x=bR x.deal+x.up.length:=rfl;unfold Dialed.Mid at w;have a0:AtK k k 0:=AtK.zero;obtain ⟨z1,hz1⟩:=nm (k+(bR x.deal:Int))
 have a1:AtK z1 k (0+bR x.deal):=hz1▸a0.plus;have m1:Lim k (bR x.deal):=a0.lim hk (by omega)
 have n1:0≤z1:=by have:=m1.nn;omega
 obtain ⟨z2,hz2⟩:=nm (z1+(x.up.length:Int))
 have a2:AtK z2 k (0+bR x.deal+x.up.length):=hz2▸a1.plus;have m2:Lim z1 (x.up.length):=a1.lim hk (by omega)
 have n2:0≤z2:=by have:=m2.nn;omega
 rw[show k+(ci x:Int)=z2 by rw[a2.same,hn];simp]
 have x0:(aZ x k).deal.tags=(b9 x.deal k).tags:=by simp only[aZ,hz1,hz2]
 have x1:(aZ x k).up=mI x.up z1:=by simp only[aZ,hz1,hz2]
 rw[x0,x1];refine bB (fn:=ir225) tb_225 rfl rfl (by decide) rfl ?_;simp only[aj,aV,List.map_cons,List.map_nil,ir225,ai q0,ai q1,List.head?_nil,reduceCtorEq,if_false,cb,aa,ae,bp,al,aG,af,aH]
 generalize hr:(⟨_,[],none⟩:Ret)=r
 obtain ⟨g0,hg0⟩:=nm (row fI ((b9 x.deal k).tags))
 obtain ⟨g1,hg1⟩:=nm (row fI (mI x.up z1))
 rw[←hg0,←hg1];intro add sub mul arith eq ne lt le gt ge neg conv mn mx not beq len at' ln bd cut app allS isNil mks set o hP F ho;have c1:o 88 [al x.deal.ok x.deal.version g0 (.sp 0 2),I k]=some ⟨[I z1],[],none⟩:=by rw[ho,hz1,hg0];exact As x.deal k m1 w.1 rfl
 have c2:o 125 [R g1 (.sp 0 0),I z1]=some ⟨[I z2],[],none⟩:=by rw[ho,hz2,hg1];exact jU _ _ m2 (Nat.le_trans (w.2) (by decide)) rfl
 cbv;rw[c1];cbv;rw[show lt z1 0=false by rw[F.lt];simp;omega];cbv
 rw[c2];cbv;rw[show lt z2 0=false by rw[F.lt];simp;omega];cbv
 exact congrArg some hr
theorem JB (x:Ext) (w:x.Mid) {f0:Fl} (q0:ac f0=true) {g0:Fl} (p0:ac g0=true):
  fix Tb md 321 [cb x.tag (row fI x.body) f0,cb x.tag (row fI x.body) g0]=some ⟨[B true],[],none⟩:=by
 refine bB (fn:=ir321) tb_321 rfl rfl (by decide) rfl ?_;simp only[aj,aV,List.map_cons,List.map_nil,ir321,ai q0,ai p0,List.head?_nil,reduceCtorEq,if_false,cb,aa,ae,bp,al,aG,af,aH]
 generalize hr:(⟨_,[],none⟩:Ret)=r
 obtain ⟨e1,he1⟩:=nm (row fI x.body)
 rw[←he1];unfold Ext.Mid at w;intro add sub mul arith eq ne lt le gt ge neg conv mn mx not beq len at' ln bd cut app allS isNil mks set o hP F ho;have c1:o 79 [R e1 (.sp 0 0),R e1 (.sp 1 0)]=some ⟨[B true],[],none⟩:=by rw[ho,he1];exact cM _ (by have:=w;omega) rfl rfl
 cbv;rw[F.ne_f rfl];cbv;rw[c1];cbv;rw[show not true=false by rw[F.not];rfl];cbv
 exact congrArg some hr
theorem Ep (l:List (Ext)) (w:l.length≤1073741824∧∀ y∈l,y.Mid) {f0 f1:Fl} (q0:ac f0=true) (q1:ac f1=true):
  fix Tb md 200 [R (row ab l) f0,R (row ab l) f1]=some ⟨[B true],[],none⟩:=by
 have w1:=w.1;refine bB (fn:=ir200) tb_200 rfl rfl (by decide) rfl ?_;simp only[aj,aV,List.map_cons,List.map_nil,ir200,ai q0,ai q1,List.head?_nil,reduceCtorEq,if_false,cb,aa,ae,bp,al,aG,af,aH]
 generalize hr:(⟨_,[],none⟩:Ret)=r
 obtain ⟨ea,hea⟩:=nm (row ab l)
 rw[←hea];intro add sub mul arith eq ne lt le gt ge neg conv mn mx not beq len at' ln bd cut app allS isNil mks set o hP F ho;have la:=F.len_at hea;cbv;rw[F.ne_f rfl];cbv;refine aJ hP (σ:=List (Ext)×List (Ext)×Int) (fun s=>[(0,R ea .sh),(1,R ea .sh),(4,B false),(5,I s.2.2)])
  (fun s=>At s.2.2 s.2.1.length∧l=s.2.1++s.1) (fun s=>s.1.length) (l,[],0) rfl ⟨rfl,rfl⟩ ?_
 rintro ⟨suf,pre,i⟩ ⟨hi,hl'⟩ ih
 simp only at hi hl' ih;cbv;cases suf with
 | nil=>
  rw[F.lt_f hi la (by simp[hl'])];cbv
  exact congrArg some hr
 | cons x suf=>
  rw[F.lt_t hi la (by simp[hl'])];cbv
  obtain ⟨e1,he1⟩:=nm (row fI x.body)
  obtain ⟨ix,hix⟩:=nm (pre.length * 2)
  have a1:at' 2 ea i=some (ix,[.int .i64 x.tag, .row () e1]):=by rw[hix,he1];exact F.get hi hea hl' (fun _=>rfl) (by decide)
  rw[a1];cbv
  try (rw[a1];cbv)
  have c1:o 321 [cb x.tag e1 (.sp 0 1),cb x.tag e1 (.sp 1 1)]=some ⟨[B true],[],none⟩:=by rw[ho,he1];exact JB x (w.2 x (by rw[hl'];simp)) rfl rfl
  rw[c1];cbv;rw[show not true=false by rw[F.not];rfl];cbv
  refine ih (suf,pre++[x],add .i64 i 1) ⟨ao (F.inc hi (by simp[hl'] at w1;omega)) (by simp),by simp[hl']⟩ (by simp)
theorem cz (x:Hello) (w:x.Mid) {f0 f1:Fl} (q0:ac f0=true) (q1:ac f1=true) {g0 g1:Fl} (p0:ac g0=true) (p1:ac g1=true):
  fix Tb md 78 [aa (row fI x.versions) (row ab x.exts) f0 f1,aa (row fI x.versions) (row ab x.exts) g0 g1]=some ⟨[B true],[],none⟩:=by
 refine bB (fn:=ir78) tb_78 rfl rfl (by decide) rfl ?_;simp only[aj,aV,List.map_cons,List.map_nil,ir78,ai q0,ai q1,ai p0,ai p1,List.head?_nil,reduceCtorEq,if_false,cb,aa,ae,bp,al,aG,af,aH]
 generalize hr:(⟨_,[],none⟩:Ret)=r
 obtain ⟨e1,he1⟩:=nm (row fI x.versions)
 obtain ⟨e2,he2⟩:=nm (row ab x.exts)
 rw[←he1,←he2];unfold Hello.Mid at w;intro add sub mul arith eq ne lt le gt ge neg conv mn mx not beq len at' ln bd cut app allS isNil mks set o hP F ho;have c1:o 79 [R e1 (.sp 0 0),R e1 (.sp 1 0)]=some ⟨[B true],[],none⟩:=by rw[ho,he1];exact cM _ (by have:=w.1;omega) rfl rfl
 have c2:o 200 [R e2 (.sp 0 0),R e2 (.sp 1 0)]=some ⟨[B true],[],none⟩:=by rw[ho,he2];exact Ep _ w.2 rfl rfl
 cbv;rw[c1];cbv;rw[show not true=false by rw[F.not];rfl];cbv
 rw[c2];cbv;rw[show not true=false by rw[F.not];rfl];cbv
 exact congrArg some hr
theorem Jz (x:Ext) (left:Int) (w:x.Fits) (h1:0≤left) (h2:left≤1048576) {f0:Fl} (q0:ac f0=true):
  fix Tb md 319 [cb x.tag (row fI x.body) f0,I left]=some ⟨[I (iR x left)],[],none⟩:=by
 refine bB (fn:=ir319) tb_319 rfl rfl (by decide) rfl ?_;simp only[aj,aV,List.map_cons,List.map_nil,ir319,ai q0,List.head?_nil,reduceCtorEq,if_false,cb,aa,ae,bp,al,aG,af,aH]
 obtain ⟨v1,hv1⟩:=nm (sz1 x.body.length left)
 rw[show iR x left=v1 by rw[hv1];rfl]
 generalize hr:(⟨_,[],none⟩:Ret)=r
 obtain ⟨e1,he1⟩:=nm (row fI x.body)
 rw[←he1];have g1:v1≤1048576:=by rw[hv1];exact (Sz.of1 x.body.length).up h2
 have l1: -1≤v1:=by rw[hv1];exact (Sz.of1 x.body.length).lo _ h2
 unfold Ext.Fits at w;intro add sub mul arith eq ne lt le gt ge neg conv mn mx not beq len at' ln bd cut app allS isNil mks set o hP F ho;have c1:o 227 [R e1 (.sp 0 0),I left]=some ⟨[I v1],[],none⟩:=by rw[ho,hv1,he1];exact rM fI _ _ w.2.1 h1 h2 rfl
 cbv;rw[c1];cbv;refine both (fun d1=>?_) (fun d1=>?_)<;>rw[d1]<;>cbv
 ·clear hP c1 ho;simp only[F.lt,decide_eq_true_eq] at d1;clear F;rw[←hr,show v1= -1 by omega]
 exact congrArg some hr
theorem En (l:List Ext) (left:Int) (w:l.length≤9223372036854775807∧∀ y∈l,y.Fits) (h1:0≤left) (h2:left≤1048576) {f0:Fl} (q0:ac f0=true):
  fix Tb md 197 [R (row ab l) f0,I left]=some ⟨[I (szL iR l left)],[],none⟩:=by
 have w1:=w.1;by_cases hl:left - l.length < 0
 ·rw[show szL iR l left= -1 from iw eA l _ (by unfold sz1;rw[if_pos hl])]
  refine bB (fn:=ir197) tb_197 rfl rfl (by decide) rfl ?_;simp only[aj,aV,List.map_cons,List.map_nil,ir197,ai q0,List.head?_nil,reduceCtorEq,if_false,cb,aa,ae,bp,al,aG,af,aH]
  generalize hr:(⟨_,[],none⟩:Ret)=r
  obtain ⟨ea,hea⟩:=nm (row ab l)
  rw[←hea];intro add sub mul arith eq ne lt le gt ge neg conv mn mx not beq len at' ln bd cut app allS isNil mks set o hP F ho;have le:=F.len_at hea;unfold At at le;have hs:lt (sub .i64 left (len ea)) 0=true:=by rw[F.lt,F.sub,le,aW (by omega) (by omega)];simp;omega
  cbv;rw[hs];cbv;exact congrArg some hr
 ·have hT:szL iR l left=l.foldl (fun a x=>iR x a) (left - l.length):=by unfold szL sz1;rw[if_neg hl]
  rw[hT];refine bB (fn:=ir197) tb_197 rfl rfl (by decide) rfl ?_;simp only[aj,aV,List.map_cons,List.map_nil,ir197,ai q0,List.head?_nil,reduceCtorEq,if_false,cb,aa,ae,bp,al,aG,af,aH]
  obtain ⟨v,hv⟩:=nm (left - l.length)
  rw[←hv];have u3:0≤v:=by omega
  have u4:v≤1048576:=by omega
  have u5:l.length≤1048576:=by omega
  obtain ⟨T,hT⟩:=nm (l.foldl (fun a x=>iR x a) v)
  rw[←hT];generalize hr:(⟨_,[],none⟩:Ret)=r
  obtain ⟨ea,hea⟩:=nm (row ab l)
  rw[←hea];intro add sub mul arith eq ne lt le gt ge neg conv mn mx not beq len at' ln bd cut app allS isNil mks set o hP F ho;have le:=F.len_at hea;have e1:sub .i64 left (len ea)=v:=by unfold At at le;rw[F.sub,le,aW (by omega) (by omega),hv]
  have hs:lt v 0=false:=by rw[F.lt,hv];simp;omega
  cbv;rw[e1,hs];cbv;refine aJ hP (σ:=List (Ext)×List (Ext)×Int×Int) (fun s=>[(0,R ea .sh),(1,I s.2.2.1),(4,I 0),(5,I s.2.2.2)])
   (fun s=>At s.2.2.2 s.2.1.length∧l=s.2.1++s.1∧0≤s.2.2.1∧s.2.2.1≤1048576∧s.1.foldl (fun a x=>iR x a) s.2.2.1=T) (fun s=>s.1.length) (l,[],v,0) rfl ⟨rfl,rfl,u3,u4,hT.symm⟩ ?_
  rintro ⟨suf,pre,a,i⟩ ⟨hi,hl',ha0,ha1,hf⟩ ih
  simp only at hi hl' ha0 ha1 hf ih;cbv;cases suf with
  | nil=>
   rw[F.lt_f hi le (by simp[hl'])];cbv
   simp only[List.foldl_nil] at hf;rw[←hr,hf]
  | cons x suf=>
   rw[F.lt_t hi le (by simp[hl'])];cbv
   rw[List.foldl_cons] at hf;obtain ⟨e1,he1⟩:=nm (row fI x.body)
   obtain ⟨ix,hix⟩:=nm (pre.length * 2)
   rw[show at' 2 ea i=some (ix,[.int .i64 x.tag, .row () e1]) by rw[hix,he1];exact F.get hi hea hl' (fun _=>rfl) (by decide)];cbv
   obtain ⟨a',ha'⟩:=nm (iR x a)
   rw[←ha'] at hf;have u1:a'≤1048576:=by rw[ha'];exact (eA x).up ha1
   have u2: -1≤a':=by rw[ha'];exact (eA x).lo _ ha1
   have c1:o 319 [cb x.tag e1 (.sp 0 1),I a]=some ⟨[I a'],[],none⟩:=by rw[ho,ha',he1];exact Jz x a (w.2 x (by rw[hl'];simp)) ha0 ha1 rfl
   rw[c1];cbv;refine both (fun c=>?_) (fun c=>?_)<;>rw[c]<;>cbv
   ·simp only[F.lt,decide_eq_true_eq] at c;rw[←hr,←hf,iw eA suf a' (by omega)]
   ·simp only[F.lt,decide_eq_false_iff_not] at c;refine ih (suf,pre++[x],a',add .i64 i 1) ⟨ao (F.inc hi (by simp[hl'] at u5;omega)) (by simp),by simp[hl'],by simp only;omega,u1,hf⟩ (by simp)
theorem jE (x:Hello) (left:Int) (w:x.Fits) (h1:0≤left) (h2:left≤1048576) {f0 f1:Fl} (q0:ac f0=true) (q1:ac f1=true):
  fix Tb md 83 [aa (row fI x.versions) (row ab x.exts) f0 f1,I left]=some ⟨[I (cu x left)],[],none⟩:=by
 refine bB (fn:=ir83) tb_83 rfl rfl (by decide) rfl ?_;simp only[aj,aV,List.map_cons,List.map_nil,ir83,ai q0,ai q1,List.head?_nil,reduceCtorEq,if_false,cb,aa,ae,bp,al,aG,af,aH]
 obtain ⟨v1,hv1⟩:=nm (sz1 x.versions.length left)
 obtain ⟨v2,hv2⟩:=nm (szL iR x.exts v1)
 rw[show cu x left=v2 by rw[hv2,hv1];rfl]
 generalize hr:(⟨_,[],none⟩:Ret)=r
 obtain ⟨e1,he1⟩:=nm (row fI x.versions)
 obtain ⟨e2,he2⟩:=nm (row ab x.exts)
 rw[←he1,←he2];have g1:v1≤1048576:=by rw[hv1];exact (Sz.of1 x.versions.length).up h2
 have l1: -1≤v1:=by rw[hv1];exact (Sz.of1 x.versions.length).lo _ h2
 have g2:v2≤1048576:=by rw[hv2];exact (Sz.list eA x.exts).up g1
 have l2: -1≤v2:=by rw[hv2];exact (Sz.list eA x.exts).lo _ g1
 have n2:v1 < 0→v2= -1:=fun q=>by rw[hv2];exact (Sz.list eA x.exts).neg _ q
 unfold Hello.Fits at w;intro add sub mul arith eq ne lt le gt ge neg conv mn mx not beq len at' ln bd cut app allS isNil mks set o hP F ho;have c1:o 227 [R e1 (.sp 0 0),I left]=some ⟨[I v1],[],none⟩:=by rw[ho,hv1,he1];exact rM fI _ _ w.1.1 h1 h2 rfl
 have c2:0≤v1→o 197 [R e2 (.sp 0 0),I v1]=some ⟨[I v2],[],none⟩:=by intro q;rw[ho,hv2,he2];exact En _ _ w.2 q g1 rfl
 cbv;rw[c1];cbv;refine both (fun d1=>?_) (fun d1=>?_)<;>rw[d1]<;>cbv
 ·clear hP c1 c2 ho;simp only[F.lt,decide_eq_true_eq] at d1;clear F;rw[←hr,show v2= -1 by omega]
 rw[c2 (by simp only[F.lt,decide_eq_false_iff_not] at d1;omega)];cbv
 refine both (fun d2=>?_) (fun d2=>?_)<;>rw[d2]<;>cbv
 ·clear hP c1 c2 ho;simp only[F.lt,decide_eq_true_eq] at d2;clear F;rw[←hr,show v2= -1 by omega]
 exact congrArg some hr
theorem JA (x:Ext) (w:x.Mid) {f0:Fl} (q0:ac f0=true):
  fix Tb md 320 [cb x.tag (row fI x.body) f0]=some ⟨[cb x.tag (row fI x.body) (.ow false)],[],none⟩:=by
 refine bB (fn:=ir320) tb_320 rfl rfl (by decide) rfl ?_;simp only[aj,aV,List.map_cons,List.map_nil,ir320,ai q0,List.head?_nil,reduceCtorEq,if_false,cb,aa,ae,bp,al,aG,af,aH]
 generalize hr:(⟨_,[],none⟩:Ret)=r
 obtain ⟨e1,he1⟩:=nm (row fI x.body)
 rw[←he1] at hr ⊢;unfold Ext.Mid at w;intro add sub mul arith eq ne lt le gt ge neg conv mn mx not beq len at' ln bd cut app allS isNil mks set o hP F ho;have c1:o 76 [R e1 (.sp 0 0)]=some ⟨[R e1 (.ow false)],[],none⟩:=by rw[ho,he1];exact gJ _ (by have:=w;omega) rfl
 cbv;rw[c1];cbv;exact congrArg some hr
theorem Eo (l:List (Ext)) (w:l.length≤1073741824∧∀ y∈l,y.Mid) {f0:Fl} (q0:ac f0=true):
  fix Tb md 199 [R (row ab l) f0]=some ⟨[R (row ab l) (.ow false)],[],none⟩:=by
 have w1:=w.1;refine bB (fn:=ir199) tb_199 rfl rfl (by decide) rfl ?_;simp only[aj,aV,List.map_cons,List.map_nil,ir199,ai q0,List.head?_nil,reduceCtorEq,if_false,cb,aa,ae,bp,al,aG,af,aH]
 generalize hr:(⟨_,[],none⟩:Ret)=r
 obtain ⟨ea,hea⟩:=nm (row ab l)
 rw[←hea] at hr ⊢;intro add sub mul arith eq ne lt le gt ge neg conv mn mx not beq len at' ln bd cut app allS isNil mks set o hP F ho;have la:=F.len_at hea;cbv;obtain ⟨e0,he0⟩:=nm (row ab (List.replicate l.length (⟨0,[]⟩:Ext)))
 rw[show mks [.int .i64 0, .row () []] (len ea) (len ea)=some e0 by rw[F.mks,show len ea=_ from la,he0];exact qS (f:=ab) (a:=(⟨0,[]⟩:Ext)) rfl (by simp[ab]) (show l.length≤1099511627776 by omega)];cbv
 refine aJ hP (σ:=List (Ext)×List (Ext)×List (List V)×Int) (fun s=>[(0,R ea .sh),(2,R [] .nl),(3,R s.2.2.1 (.ow false)),(4,I s.2.2.2)])
  (fun s=>At s.2.2.2 s.2.1.length∧l=s.2.1++s.1∧s.2.2.1=row ab (s.2.1++List.replicate s.1.length (⟨0,[]⟩:Ext))) (fun s=>s.1.length) (l,[],e0,0) rfl ⟨rfl,rfl,by simpa using he0⟩ ?_
 rintro ⟨suf,pre,eo,i⟩ ⟨hi,hl',heo⟩ ih
 simp only at hi hl' heo ih;cbv;cases suf with
 | nil=>
  rw[F.lt_f hi la (by simp[hl'])];cbv
  rw[←hr,heo,hea,hl'];simp
 | cons x suf=>
  rw[F.lt_t hi la (by simp[hl'])];cbv
  obtain ⟨e1,he1⟩:=nm (row fI x.body)
  obtain ⟨ix,hix⟩:=nm (pre.length * 2)
  rw[show at' 2 ea i=some (ix,[.int .i64 x.tag, .row () e1]) by rw[hix,he1];exact F.get hi hea hl' (fun _=>rfl) (by decide)];cbv
  have c1:o 320 [cb x.tag e1 (.sp 0 1)]=some ⟨[cb x.tag e1 (.ow false)],[],none⟩:=by rw[ho,he1];exact JA x (w.2 x (by rw[hl'];simp)) rfl
  rw[c1];cbv;rw[show at' 2 eo i=some (ix,[.int .i64 0, .row () []]) by rw[hix];exact F.get hi heo rfl (fun _=>rfl) (by decide)];cbv
  obtain ⟨eo',heo'⟩:=nm (row ab (pre++x::List.replicate suf.length (⟨0,[]⟩:Ext)))
  rw[show set eo ix [.int .i64 x.tag, .row () e1]=some eo' by rw[F.set,heo,hix,heo',he1];exact lR (fun _=>rfl) rfl];cbv
  refine ih (suf,pre++[x],eo',add .i64 i 1) ⟨ao (F.inc hi (by simp[hl'] at w1;omega)) (by simp),by simp[hl'],by simp[heo']⟩ (by simp)
theorem jF (x:Hello) (w:x.Mid) {f0 f1:Fl} (q0:ac f0=true) (q1:ac f1=true):
  fix Tb md 85 [aa (row fI x.versions) (row ab x.exts) f0 f1]=some ⟨[aa (row fI x.versions) (row ab x.exts) (.ow false) (.ow false)],[],none⟩:=by
 refine bB (fn:=ir85) tb_85 rfl rfl (by decide) rfl ?_;simp only[aj,aV,List.map_cons,List.map_nil,ir85,ai q0,ai q1,List.head?_nil,reduceCtorEq,if_false,cb,aa,ae,bp,al,aG,af,aH]
 generalize hr:(⟨_,[],none⟩:Ret)=r
 obtain ⟨e1,he1⟩:=nm (row fI x.versions)
 obtain ⟨e2,he2⟩:=nm (row ab x.exts)
 rw[←he1,←he2] at hr ⊢;unfold Hello.Mid at w;intro add sub mul arith eq ne lt le gt ge neg conv mn mx not beq len at' ln bd cut app allS isNil mks set o hP F ho;have c1:o 76 [R e1 (.sp 0 0)]=some ⟨[R e1 (.ow false)],[],none⟩:=by rw[ho,he1];exact gJ _ (by have:=w.1;omega) rfl
 have c2:o 199 [R e2 (.sp 0 0)]=some ⟨[R e2 (.ow false)],[],none⟩:=by rw[ho,he2];exact Eo _ w.2 rfl
 cbv;rw[c1];cbv;rw[c2];cbv;exact congrArg some hr
theorem wN (x:Deal) (w:x.Mid) {f0:Fl} (q0:ac f0=true) {g0:Fl} (p0:ac g0=true):
  fix Tb md 65 [al x.ok x.version (row fI x.tags) f0,al x.ok x.version (row fI x.tags) g0]=some ⟨[B true],[],none⟩:=by
 refine bB (fn:=ir65) tb_65 rfl rfl (by decide) rfl ?_;simp only[aj,aV,List.map_cons,List.map_nil,ir65,ai q0,ai p0,List.head?_nil,reduceCtorEq,if_false,cb,aa,ae,bp,al,aG,af,aH]
 generalize hr:(⟨_,[],none⟩:Ret)=r
 obtain ⟨e1,he1⟩:=nm (row fI x.tags)
 rw[←he1];unfold Deal.Mid at w;intro add sub mul arith eq ne lt le gt ge neg conv mn mx not beq len at' ln bd cut app allS isNil mks set o hP F ho;have c1:o 79 [R e1 (.sp 0 0),R e1 (.sp 1 0)]=some ⟨[B true],[],none⟩:=by rw[ho,he1];exact cM _ (by have:=w;omega) rfl rfl
 cbv;rw[show not (beq x.ok x.ok)=false by rw[F.not,F.beq];simp];cbv
 rw[F.ne_f rfl];cbv;rw[c1];cbv;rw[show not true=false by rw[F.not];rfl];cbv
 exact congrArg some hr
theorem yz (x:Dialed) (w:x.Mid) {f0 f1:Fl} (q0:ac f0=true) (q1:ac f1=true) {g0 g1:Fl} (p0:ac g0=true) (p1:ac g1=true):
  fix Tb md 95 [af x.deal.ok x.deal.version (row fI x.deal.tags) x.tries (row fI x.up) f0 f1,af x.deal.ok x.deal.version (row fI x.deal.tags) x.tries (row fI x.up) g0 g1]=some ⟨[B true],[],none⟩:=by
 refine bB (fn:=ir95) tb_95 rfl rfl (by decide) rfl ?_;simp only[aj,aV,List.map_cons,List.map_nil,ir95,ai q0,ai q1,ai p0,ai p1,List.head?_nil,reduceCtorEq,if_false,cb,aa,ae,bp,al,aG,af,aH]
 generalize hr:(⟨_,[],none⟩:Ret)=r
 obtain ⟨e1,he1⟩:=nm (row fI x.deal.tags)
 obtain ⟨e2,he2⟩:=nm (row fI x.up)
 rw[←he1,←he2];unfold Dialed.Mid at w;intro add sub mul arith eq ne lt le gt ge neg conv mn mx not beq len at' ln bd cut app allS isNil mks set o hP F ho;have c1:o 65 [al x.deal.ok x.deal.version e1 (.sp 0 2),al x.deal.ok x.deal.version e1 (.sp 1 2)]=some ⟨[B true],[],none⟩:=by rw[ho,he1];exact wN x.deal w.1 rfl rfl
 have c2:o 79 [R e2 (.sp 0 0),R e2 (.sp 1 0)]=some ⟨[B true],[],none⟩:=by rw[ho,he2];exact cM _ (by have:=w.2;omega) rfl rfl
 cbv;rw[c1];cbv;rw[show not true=false by rw[F.not];rfl];cbv
 rw[F.ne_f rfl];cbv;rw[c2];cbv;rw[show not true=false by rw[F.not];rfl];cbv
 exact congrArg some hr
def Cu (a b:Int):Int:=if b < a then b else a
theorem JE (a b:Int):fix Tb md 338 [I a,I b]=some ⟨[I (Cu a b)],[],none⟩:=by
 obtain ⟨T,hT⟩:=nm (Cu a b)
 rw[←hT];generalize hr:(⟨_,[],none⟩:Ret)=r
 refine cJ (fn:=ir338) tb_338 rfl rfl (by decide) rfl ?_;intro Q hQ;simp only[aj,aV,List.map_cons,List.map_nil,ir338,List.head?_nil,reduceCtorEq,if_false,cb,aa,ae,bp,al,aG,af,aH]
 intro add sub mul arith eq ne lt le gt ge neg conv mn mx not beq len at' ln bd cut app allS isNil mks set o hP F ho;cbv;refine both (fun d=>?_) (fun d=>?_)<;>rw[d]<;>cbv
 ·rw[hQ];cbv;rw[F.lt,decide_eq_true_eq] at d;rw[←hr,hT,Cu,if_pos d]
 ·rw[hQ];cbv;rw[F.lt,decide_eq_false_iff_not] at d;rw[←hr,hT,Cu,if_neg d]
def Ct (a b:Int):Int:=if a < b then b else a
theorem JF (a b:Int):fix Tb md 339 [I a,I b]=some ⟨[I (Ct a b)],[],none⟩:=by
 obtain ⟨T,hT⟩:=nm (Ct a b)
 rw[←hT];generalize hr:(⟨_,[],none⟩:Ret)=r
 refine cJ (fn:=ir339) tb_339 rfl rfl (by decide) rfl ?_;intro Q hQ;simp only[aj,aV,List.map_cons,List.map_nil,ir339,List.head?_nil,reduceCtorEq,if_false,cb,aa,ae,bp,al,aG,af,aH]
 intro add sub mul arith eq ne lt le gt ge neg conv mn mx not beq len at' ln bd cut app allS isNil mks set o hP F ho;cbv;refine both (fun d=>?_) (fun d=>?_)<;>rw[d]<;>cbv
 ·rw[hQ];cbv;rw[F.gt,decide_eq_true_eq] at d;rw[←hr,hT,Ct,if_pos d]
 ·rw[hQ];cbv;rw[F.gt,decide_eq_false_iff_not] at d;rw[←hr,hT,Ct,if_neg d]
def mn3 (n l:Int):Int:=if 0 < l then (if 3 < n+l then 3 else n+l) else n
def dpV (h:Hello) (path:List Box) (vs tg:List Int) (k l:Int):Dialed:=if 3≤l then ⟨⟨false,0,[]⟩,3,[]⟩ else ⟨(diV h path vs tg k).deal,mn3 (diV h path vs tg k).tries l,(diV h path vs tg k).up⟩
theorem qm (h:Hello) (path:List Box) (vs tg:List Int) (k:Int):0≤(diV h path vs tg k).tries∧(diV h path vs tg k).tries≤2:=by
 have:(diV h path vs tg k).tries=hfN h path:=by unfold diV;split<;>rfl
 rw[this];unfold hfN;split
 ·split<;>omega
 ·omega
theorem Fc {h:Hello} {path:List Box} {vs tg:List Int} {k l:Int} (m:h.Mid) (m1:h.versions.length≤1048576) (m2:h.exts.length≤1048576):(dpV h path vs tg k l).Mid:=by
 unfold dpV;split
 ·exact ⟨by show ([]:List Int).length≤_;simp,by simp⟩
 ·have:=v7 (path:=path) (vs:=vs) (tg:=tg) (k:=k) m m1 m2
  exact this
def dpA (h:Hello) (path:List Box) (vs tg:List Int) (k l:Int):Bool:= !decide (3≤l)&&diA h path vs tg k
def dpB (h:Hello) (path:List Box) (l:Int):Bool:= !decide (3≤l)&&dA h path
theorem Hd {h:Hello} {path:List Box} {vs tg:List Int} {k l:Int} (q:dpA h path vs tg k l=false):(dpV h path vs tg k l).deal.tags=[]:=by
 unfold dpA at q;unfold dpV;split
 ·rfl
 ·rename_i e;rw[decide_eq_false e] at q;exact zX q
theorem He {h:Hello} {path:List Box} {vs tg:List Int} {k l:Int} (q:dpB h path l=false):(dpV h path vs tg k l).up=[]:=by
 unfold dpB at q;unfold dpV;split
 ·rfl
 ·rename_i e;rw[decide_eq_false e] at q;exact zY q
theorem Kj {h:Hello} {path:List Box} {vs tg:List Int} {k l:Int} (e:dpA h path vs tg k l=true):dpB h path l=true:=by
 unfold dpA diA at e;unfold dpB;simp only[Bool.and_eq_true] at e ⊢;exact ⟨e.1,e.2.1⟩
end Go.Vm
