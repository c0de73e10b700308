/- What the functions answer. -/
import Derived.Test.YtfidmkhcipcnmaaGreatGDTab
import Derived.Test.YtfidmkhcipcnmaaGreatGDFA
import Derived.Test.YtfidmkhcipcnmaaGreatGDFB
import Derived.Test.YtfidmkhcipcnmaaGreatGDFC
import Derived.Test.YtfidmkhcipcnmaaGreatGDFD
import Derived.Test.YtfidmkhcipcnmaaGreatGDFE
import Derived.Test.YtfidmkhcipcnmaaGreatGDFF
import Derived.Test.YtfidmkhcipcnmaaGreatGDFG
set_option maxHeartbeats 4000000
set_option maxRecDepth 10000
set_option linter.unusedVariables false
set_option linter.unusedSimpArgs false
namespace Go.Vm
def fbL (h:Hello) (path:List Box):List Int:=lvs path h.versions
def fbT (h:Hello) (path:List Box):List Int:=dR path (sel (br (fbL h path)) idI h.versions) h.exts
def fbV (h:Hello) (path:List Box):Hello:=bT h (fbL h path) (fbT h path)
def fP (h:Hello) (path:List Box):Bool:=cK h (fbL h path)
theorem sm {h:Hello} {path:List Box} (m:h.Mid):(fbV h path).Mid:=qJ m
theorem Gs {h:Hello} {path:List Box} (hi:aC h=false):fP h path=false∧fbV h path=⟨[],[]⟩:=by
 have h1:fP h path=false:=by unfold fP cK;rw[hi];rfl
 refine ⟨h1,?_⟩
 unfold fbV bT;rw[show cK h (fbL h path)=false from h1];rfl
inductive HF:List Int→List Ext→Fl→Fl→Prop
 | oo (V:List Int) (X:List Ext):HF V X (.ow false) (.ow false)
 | on (V:List Int):HF V [] (.ow false) .nl
 | nn:HF [] [] .nl .nl
theorem HF.three {vs:List Int} {xs:List Ext} {P:List (List V)→List (List V)→Fl→Fl→Prop} (h:∃ f g,HF vs xs f g∧P (row fI vs) (row ab xs) f g):P (row fI vs) (row ab xs) (.ow false) (.ow false)∨(xs=[]∧P (row fI vs) [] (.ow false) .nl)∨(vs=[]∧xs=[]∧P [] [] .nl .nl):=by
 obtain ⟨f,g,h1,h2⟩:=h
 cases h1 with
 | oo=>exact .inl h2
 | on=>exact .inr (.inl ⟨rfl,h2⟩)
 | nn=>exact .inr (.inr ⟨rfl,rfl,h2⟩)
theorem HF.of3 {vs:List Int} {xs:List Ext} {P:List (List V)→List (List V)→Fl→Fl→Prop} (h:P (row fI vs) (row ab xs) (.ow false) (.ow false)∨(xs=[]∧P (row fI vs) [] (.ow false) .nl)∨(vs=[]∧xs=[]∧P [] [] .nl .nl)):∃ f g,HF vs xs f g∧P (row fI vs) (row ab xs) f g:=by
 rcases h with h | ⟨rfl,h⟩ | ⟨rfl,rfl,h⟩
 ·exact ⟨_,_, .oo _ _,h⟩
 ·exact ⟨_,_, .on _,h⟩
 ·exact ⟨_,_, .nn,h⟩
theorem HF.of2 {vs:List Int} {xs:List Ext} {P:List (List V)→List (List V)→Fl→Fl→Prop} (h:P (row fI vs) (row ab xs) (.ow false) (.ow false)∨(vs=[]∧xs=[]∧P [] [] .nl .nl)):∃ f g,HF vs xs f g∧P (row fI vs) (row ab xs) f g:=by
 rcases h with h | ⟨rfl,rfl,h⟩
 ·exact ⟨_,_, .oo _ _,h⟩
 ·exact ⟨_,_, .nn,h⟩
theorem HF.fl {vs:List Int} {xs:List Ext} {f g:Fl} (h:HF vs xs f g):(f= .ow false∧g= .ow false)∨(f= .ow false∧g= .nl)∨(f= .nl∧g= .nl):=by cases h<;>simp
def inA (f:Fl) (i c:Nat):Fl:=match f with | .ow _=> .sp i c | f=>f
theorem HF.inl {vs:List Int} {xs:List Ext} {f g:Fl} (h:HF vs xs f g) (i c:Nat):ac (inA f i c)=true:=by cases h<;>rfl
theorem HF.inr {vs:List Int} {xs:List Ext} {f g:Fl} (h:HF vs xs f g) (i c:Nat):ac (inA g i c)=true:=by cases h<;>rfl
theorem El (h:Hello) (path:List Box) (mh:h.Mid) (pl:path.length≤1073741824) (pm:∀ y∈path,y.Mid) {f0 f1 f2:Fl} (q0:ac f0=true) (q1:ac f1=true) (q2:ac f2=true):
  ∃ f g,HF (fbV h path).versions (fbV h path).exts f g∧fix Tb md 189 [aa (row fI h.versions) (row ab h.exts) f0 f1,R (row ar path) f2]=some ⟨[aa (row fI (fbV h path).versions) (row ab (fbV h path).exts) f g,B (fP h path)],[],none⟩:=by
 have mh':=mh;unfold Hello.Mid at mh';have hvl:=mh'.1;have hxl:=mh'.2.1;have wh:∀ y∈h.exts,y.body.length≤1099511627776:=fun y hy=>Nat.le_trans (show y.body.length≤1073741824 from mh'.2.2 y hy) (by decide)
 have wm:∀ y∈h.exts,y.body.length≤1073741824:=fun y hy=>mh'.2.2 y hy
 have a1:(fbL h path).length≤1073741824:=Nat.le_trans nO hvl;have a2:(sel (br (fbL h path)) idI h.versions).length≤1073741824:=Nat.le_trans aI hvl;have a3:(fbT h path).length≤1073741824:=Nat.le_trans kR hxl;have hk:=HF.of2 (P:=fun V X f g=>fix Tb md 165 [aa (row fI h.versions) (row ab h.exts) (.sp 0 0) (.sp 0 1),R (row fI (fbL h path)) (.sp 1 0),R (row fI (fbT h path)) (.sp 2 0)]=some ⟨[aa V X f g,B (fP h path)],[],none⟩) (Ef h (fbL h path) (fbT h path) mh a1 a3 (f0:= .sp 0 0) (f1:= .sp 0 1) (f2:= .sp 1 0) (f3:= .sp 2 0) rfl rfl rfl rfl)
 obtain ⟨f,g,hf,hk⟩:=hk
 refine ⟨f,g,hf,?_⟩
 have k1:=yt path h.versions pl pm hvl (f0:= .sp 0 0) (f1:= .sp 1 0) rfl rfl;have k2:=tW h.versions (fbL h path) hvl a1 (f0:= .sp 0 0) (f1:= .sp 1 0) rfl rfl;have k3:=BD path (sel (br (fbL h path)) idI h.versions) h.exts pl pm a2 hxl wm (f0:= .sp 0 0) (f1:= .sp 1 0) (f2:= .sp 2 0) rfl rfl rfl;rw[show lvs path h.versions=fbL h path from rfl] at k1
 rw[show dR path (sel (br (fbL h path)) idI h.versions) h.exts=fbT h path from rfl] at k3
 obtain ⟨w,hw⟩:=nm (fP h path)
 rw[←hw] at hk ⊢;obtain ⟨eV,heV⟩:=nm (row fI (fbV h path).versions)
 obtain ⟨eX,heX⟩:=nm (row ab (fbV h path).exts)
 rw[show row fI (bT h (fbL h path) (fbT h path)).versions=eV from heV.symm,show row ab (bT h (fbL h path) (fbT h path)).exts=eX from heX.symm] at hk
 rw[←heV,←heX];obtain ⟨dv,hdv⟩:=nm (row fI h.versions)
 obtain ⟨dx,hdx⟩:=nm (row ab h.exts)
 obtain ⟨ep,hep⟩:=nm (row ar path)
 obtain ⟨el,hel⟩:=nm (row fI (fbL h path))
 obtain ⟨ew,hew⟩:=nm (row fI (sel (br (fbL h path)) idI h.versions))
 obtain ⟨et,het⟩:=nm (row fI (fbT h path))
 rw[←hdv,←hdx,←hel,←het] at hk;rw[←hdv,←hep,←hel] at k1;rw[←hdv,←hel,←hew] at k2;rw[←hep,←hew,←hdx,←het] at k3;rw[←hdv,←hdx,←hep]
 replace hf:=HF.fl hf
 rcases hf with ⟨rfl,rfl⟩ | ⟨rfl,rfl⟩ | ⟨rfl,rfl⟩
 all_goals
  generalize hr:(⟨_,[],none⟩:Ret)=r
  refine cJ (fn:=ir189) tb_189 rfl rfl (by decide) rfl ?_;intro Q hQ;simp only[aj,aV,List.map_cons,List.map_nil,ir189,ai q0,ai q1,ai q2,List.head?_nil,reduceCtorEq,if_false,cb,aa,ae,bp,al,aG,af,aH]
  intro add sub mul arith eq ne lt le gt ge neg conv mn mx not beq len at' ln bd cut app allS isNil mks set o hP F ho;have c2:o 171 [R ep (.sp 0 0),R dv (.sp 1 0)]=some ⟨[R el (.ow false)],[],none⟩:=by rw[ho];exact k1
  have c3:o 287 [R dv (.sp 0 0),R el (.sp 1 0)]=some ⟨[R ew (.ow false)],[],none⟩:=by rw[ho];exact k2
  have c4:o 186 [R ep (.sp 0 0),R ew (.sp 1 0),R dx (.sp 2 0)]=some ⟨[R et (.ow false)],[],none⟩:=by rw[ho];exact k3
  have c5:=hk;rw[←ho] at c5;cbv;rw[c2];cbv;rw[c3];cbv;rw[c4];cbv;rw[c5];cbv;rw[hQ];cbv;exact congrArg some hr
theorem HA (h:Hello) (path:List Box) (mh:h.Mid) (pl:path.length≤1073741824) (pm:∀ y∈path,y.Mid) {f0 f1 f2:Fl} (q0:ac f0=true) (q1:ac f1=true) (q2:ac f2=true):
  fix Tb md 189 [aa (row fI h.versions) (row ab h.exts) f0 f1,R (row ar path) f2]=some ⟨[aa (row fI (fbV h path).versions) (row ab (fbV h path).exts) (.ow false) (.ow false),B (fP h path)],[],none⟩∨
  ((fbV h path).exts=[]∧fix Tb md 189 [aa (row fI h.versions) (row ab h.exts) f0 f1,R (row ar path) f2]=some ⟨[aa (row fI (fbV h path).versions) [] (.ow false) .nl,B (fP h path)],[],none⟩)∨
  ((fbV h path).versions=[]∧(fbV h path).exts=[]∧fix Tb md 189 [aa (row fI h.versions) (row ab h.exts) f0 f1,R (row ar path) f2]=some ⟨[aa [] [] .nl .nl,B (fP h path)],[],none⟩):=
 HF.three (P:=fun V X f g=>fix Tb md 189 [aa (row fI h.versions) (row ab h.exts) f0 f1,R (row ar path) f2]=some ⟨[aa V X f g,B (fP h path)],[],none⟩) (El h path mh pl pm q0 q1 q2)
def hfC (h:Hello) (path:List Box):Bool:=fP h path&&pw (fbV h path) path
def dA (h:Hello) (path:List Box):Bool:=aC h&&(pw h path||hfC h path)
def hfN (h:Hello) (path:List Box):Int:=if aC h then (if pw h path then 1 else 2) else 0
def hfV (h:Hello) (path:List Box):Hello:=if aC h then (if pw h path then h else if hfC h path then fbV h path else ⟨[],[]⟩) else ⟨[],[]⟩
theorem lE {h:Hello} {path:List Box} (m:h.Mid):(hfV h path).Mid:=by
 unfold hfV;split
 ·split
  ·exact m
  ·split
   ·exact sm m
   ·exact ⟨by simp,by simp,by simp⟩
 ·exact ⟨by simp,by simp,by simp⟩
theorem Ae {h:Hello} {path:List Box} (hi:aC h=false):dA h path=false∧hfN h path=0∧hfV h path=⟨[],[]⟩:=by
 unfold dA hfN hfV;rw[hi];exact ⟨rfl,rfl,rfl⟩
theorem sX {h:Hello} {path:List Box} (hi:aC h=true) (hp:pw h path=true):dA h path=true∧hfN h path=1∧hfV h path=h:=by
 unfold dA hfN hfV;rw[hi,hp];exact ⟨rfl,rfl,rfl⟩
theorem Cm {h:Hello} {path:List Box} (hi:aC h=true) (hp:pw h path=false) (hc:hfC h path=false):dA h path=false∧hfN h path=2∧hfV h path=⟨[],[]⟩:=by
 unfold dA hfN hfV;rw[hi,hp,hc];exact ⟨rfl,rfl,rfl⟩
theorem xV {h:Hello} {path:List Box} (hi:aC h=true) (hp:pw h path=false) (hc:hfC h path=true):dA h path=true∧hfN h path=2∧hfV h path=fbV h path:=by
 unfold dA hfN hfV;rw[hi,hp,hc];exact ⟨rfl,rfl,rfl⟩
theorem vw (h:Hello) (path:List Box) (mh:h.Mid) (pl:path.length≤1073741824) (pm:∀ y∈path,y.Mid) {f0 f1 f2:Fl} (q0:ac f0=true) (q1:ac f1=true) (q2:ac f2=true):
  ∃ f g,HF (hfV h path).versions (hfV h path).exts f g∧fix Tb md 184 [aa (row fI h.versions) (row ab h.exts) f0 f1,R (row ar path) f2]=some ⟨[aa (row fI (hfV h path).versions) (row ab (hfV h path).exts) f g,I (hfN h path),B (dA h path)],[],none⟩:=by
 have mh':=mh;unfold Hello.Mid at mh';have hvl:=mh'.1;have hxl:=mh'.2.1;have wh:∀ y∈h.exts,y.body.length≤1099511627776:=fun y hy=>Nat.le_trans (show y.body.length≤1073741824 from mh'.2.2 y hy) (by decide)
 have k1:=gu h (by omega) (by omega) wh (f0:= .sp 0 0) (f1:= .sp 0 1) rfl rfl
 have k2:=yu h path mh pl pm (f0:= .sp 0 0) (f1:= .sp 0 1) (f2:= .sp 1 0) rfl rfl rfl;have k3:=EB h mh (f0:= .sp 0 0) (f1:= .sp 0 1) rfl rfl;obtain ⟨f,g,hf,k4⟩:=El h path mh pl pm (f0:= .sp 0 0) (f1:= .sp 0 1) (f2:= .sp 1 0) rfl rfl rfl
 have k5:=fun (f0 f1:Fl) (q0:ac f0=true) (q1:ac f1=true)=>yu (fbV h path) path (sm mh) pl pm (f0:=f0) (f1:=f1) (f2:= .sp 1 0) q0 q1 rfl
 cases hi:aC h with
 | false=>
  rw[(Ae (path:=path) hi).1,(Ae (path:=path) hi).2.1,(Ae (path:=path) hi).2.2];refine ⟨_,_, .nn,?_⟩
  rw[hi] at k1;clear k2 k3 k4 k5;generalize hr:(⟨_,[],none⟩:Ret)=r
  obtain ⟨dv,hdv⟩:=nm (row fI h.versions)
  obtain ⟨dx,hdx⟩:=nm (row ab h.exts)
  obtain ⟨ep,hep⟩:=nm (row ar path)
  rw[←hdv,←hdx] at k1;rw[←hdv,←hdx,←hep];refine cJ (fn:=ir184) tb_184 rfl rfl (by decide) rfl ?_;intro Q hQ;simp only[aj,aV,List.map_cons,List.map_nil,ir184,ai q0,ai q1,ai q2,List.head?_nil,reduceCtorEq,if_false,cb,aa,ae,bp,al,aG,af,aH]
  intro add sub mul arith eq ne lt le gt ge neg conv mn mx not beq len at' ln bd cut app allS isNil mks set o hP F ho;rw[←ho] at k1;cbv;rw[k1];cbv;rw[show not false=true by rw[F.not];rfl];cbv
  rw[hQ];cbv;exact congrArg some hr
 | true=>
  rw[hi] at k1;cases hp:pw h path with
  | true=>
   rw[(sX hi hp).1,(sX hi hp).2.1,(sX hi hp).2.2];refine ⟨_,_, .oo _ _,?_⟩
   rw[hp] at k2;clear k4 k5;generalize hr:(⟨_,[],none⟩:Ret)=r
   obtain ⟨dv,hdv⟩:=nm (row fI h.versions)
   obtain ⟨dx,hdx⟩:=nm (row ab h.exts)
   obtain ⟨ep,hep⟩:=nm (row ar path)
   rw[←hdv,←hdx] at k1 k2 k3;rw[←hep] at k2;rw[←hdv,←hdx,←hep];rw[←hdv,←hdx] at hr;refine cJ (fn:=ir184) tb_184 rfl rfl (by decide) rfl ?_;intro Q hQ;simp only[aj,aV,List.map_cons,List.map_nil,ir184,ai q0,ai q1,ai q2,List.head?_nil,reduceCtorEq,if_false,cb,aa,ae,bp,al,aG,af,aH]
   intro add sub mul arith eq ne lt le gt ge neg conv mn mx not beq len at' ln bd cut app allS isNil mks set o hP F ho;rw[←ho] at k1 k2 k3;cbv;rw[k1];cbv;rw[show not true=false by rw[F.not];rfl];cbv
   rw[k2];cbv;rw[k3];cbv;rw[hQ];cbv;exact congrArg some hr
  | false=>
   rw[hp] at k2;obtain ⟨w,hw⟩:=nm (fP h path)
   obtain ⟨v,hv⟩:=nm (pw (fbV h path) path)
   rw[←hw] at k4;rw[←hv] at k5;have hcv:hfC h path=(w&&v):=by rw[hw,hv];rfl
   obtain ⟨eV,heV⟩:=nm (row fI (fbV h path).versions)
   obtain ⟨eX,heX⟩:=nm (row ab (fbV h path).exts)
   rw[←heV,←heX] at k4 k5;obtain ⟨dv,hdv⟩:=nm (row fI h.versions)
   obtain ⟨dx,hdx⟩:=nm (row ab h.exts)
   obtain ⟨ep,hep⟩:=nm (row ar path)
   rw[←hdv,←hdx] at k1 k2 k3 k4;rw[←hep] at k2 k4 k5;have k6:=k5 (inA f 0 0) (inA g 0 1) (hf.inl 0 0) (hf.inr 0 1);have hf':=HF.fl hf;cases hc:(w&&v) with
   | false=>
    rw[hc] at hcv;rw[(Cm hi hp hcv).1,(Cm hi hp hcv).2.1,(Cm hi hp hcv).2.2];refine ⟨_,_, .nn,?_⟩
    rw[←hdv,←hdx,←hep];rcases hf' with ⟨rfl,rfl⟩ | ⟨rfl,rfl⟩ | ⟨rfl,rfl⟩
    all_goals
     simp only[inA] at k6;generalize hr:(⟨_,[],none⟩:Ret)=r
     refine cJ (fn:=ir184) tb_184 rfl rfl (by decide) rfl ?_;intro Q hQ;simp only[aj,aV,List.map_cons,List.map_nil,ir184,ai q0,ai q1,ai q2,List.head?_nil,reduceCtorEq,if_false,cb,aa,ae,bp,al,aG,af,aH]
     intro add sub mul arith eq ne lt le gt ge neg conv mn mx not beq len at' ln bd cut app allS isNil mks set o hP F ho;rw[←ho] at k1 k2 k3 k4 k6;cbv;rw[k1];cbv;rw[show not true=false by rw[F.not];rfl];cbv
     rw[k2];cbv;rw[k4];cbv;refine both (fun d1=>?_) (fun d1=>?_)<;>rw[d1]<;>cbv
     ·rw[hQ];cbv;exact congrArg some hr
     rw[F.not_f d1,Bool.true_and] at hc;rw[hc] at k6;rw[k6];cbv;rw[show not false=true by rw[F.not];rfl];cbv
     rw[hQ];cbv;exact congrArg some hr
   | true=>
    rw[hc] at hcv;rw[Bool.and_eq_true] at hc;rw[(xV hi hp hcv).1,(xV hi hp hcv).2.1,(xV hi hp hcv).2.2];refine ⟨_,_,hf,?_⟩
    rw[←heV,←heX,←hdv,←hdx,←hep];rw[hc.1] at k4;rw[hc.2] at k6;rcases hf' with ⟨rfl,rfl⟩ | ⟨rfl,rfl⟩ | ⟨rfl,rfl⟩
    all_goals
     simp only[inA] at k6;generalize hr:(⟨_,[],none⟩:Ret)=r
     refine cJ (fn:=ir184) tb_184 rfl rfl (by decide) rfl ?_;intro Q hQ;simp only[aj,aV,List.map_cons,List.map_nil,ir184,ai q0,ai q1,ai q2,List.head?_nil,reduceCtorEq,if_false,cb,aa,ae,bp,al,aG,af,aH]
     intro add sub mul arith eq ne lt le gt ge neg conv mn mx not beq len at' ln bd cut app allS isNil mks set o hP F ho;rw[←ho] at k1 k2 k3 k4 k6;cbv;rw[k1];cbv;rw[show not true=false by rw[F.not];rfl];cbv
     rw[k2];cbv;rw[k4];cbv;rw[show not true=false by rw[F.not];rfl];cbv
     rw[k6];cbv;rw[show not true=false by rw[F.not];rfl];cbv
     rw[hQ];cbv;exact congrArg some hr
theorem Hz (h:Hello) (path:List Box) (mh:h.Mid) (pl:path.length≤1073741824) (pm:∀ y∈path,y.Mid) {f0 f1 f2:Fl} (q0:ac f0=true) (q1:ac f1=true) (q2:ac f2=true):
  fix Tb md 184 [aa (row fI h.versions) (row ab h.exts) f0 f1,R (row ar path) f2]=some ⟨[aa (row fI (hfV h path).versions) (row ab (hfV h path).exts) (.ow false) (.ow false),I (hfN h path),B (dA h path)],[],none⟩∨
  ((hfV h path).exts=[]∧fix Tb md 184 [aa (row fI h.versions) (row ab h.exts) f0 f1,R (row ar path) f2]=some ⟨[aa (row fI (hfV h path).versions) [] (.ow false) .nl,I (hfN h path),B (dA h path)],[],none⟩)∨
  ((hfV h path).versions=[]∧(hfV h path).exts=[]∧fix Tb md 184 [aa (row fI h.versions) (row ab h.exts) f0 f1,R (row ar path) f2]=some ⟨[aa [] [] .nl .nl,I (hfN h path),B (dA h path)],[],none⟩):=
 HF.three (P:=fun V X f g=>fix Tb md 184 [aa (row fI h.versions) (row ab h.exts) f0 f1,R (row ar path) f2]=some ⟨[aa V X f g,I (hfN h path),B (dA h path)],[],none⟩) (vw h path mh pl pm q0 q1 q2)
def tM (n m:Int):Int:=if inR m 1 1000000000000=true then Int.tmod (IntKind.wrap .i64 (Int.tmod n m+m)) m else 0
theorem qO {n m:Int} (h:m≠0):std.arith .rem .i64 n m=some (.int .i64 (Int.tmod n m)):=by
 show (if m=0 then none else some (VA.int .i64 (Int.tmod n m)))=_
 rw[if_neg h]
theorem JI (n m:Int):fix Tb md 348 [I n,I m]=some ⟨[I (tM n m)],[],none⟩:=by
 obtain ⟨T,hT⟩:=nm (tM n m)
 rw[←hT];generalize hr:(⟨_,[],none⟩:Ret)=r
 obtain ⟨v,hv⟩:=nm (inR m 1 1000000000000)
 refine cJ (fn:=ir348) tb_348 rfl rfl (by decide) rfl ?_;intro Q hQ;simp only[aj,aV,List.map_cons,List.map_nil,ir348,List.head?_nil,reduceCtorEq,if_false,cb,aa,ae,bp,al,aG,af,aH]
 intro add sub mul arith eq ne lt le gt ge neg conv mn mx not beq len at' ln bd cut app allS isNil mks set o hP F ho;have c1:o 230 [I m,I 1,I 1000000000000]=some ⟨[B v],[],none⟩:=by rw[ho,hv];exact fE ..
 cbv;rw[c1];cbv;refine both (fun d1=>?_) (fun d1=>?_)<;>rw[d1]<;>cbv
 ·rw[hQ];cbv;have hv0:=F.not_t d1;rw[←hr,hT];unfold tM;rw[←hv,hv0];rfl
 have hv1:=F.not_f d1;have hm:m≠0:=by rw[hv] at hv1;simp[inR] at hv1;omega
 obtain ⟨n1,hn1⟩:=nm (Int.tmod n m)
 obtain ⟨n2,hn2⟩:=nm (add .i64 n1 m)
 obtain ⟨n3,hn3⟩:=nm (Int.tmod n2 m)
 rw[show arith .rem .i64 n m=some (.int .i64 n1) by rw[F.arith,hn1];exact qO hm];cbv
 rw[←hn2];rw[show arith .rem .i64 n2 m=some (.int .i64 n3) by rw[F.arith,hn3];exact qO hm];cbv
 rw[hQ];cbv;rw[←hr,hT];unfold tM;rw[←hv,hv1,if_pos rfl,hn3,hn2,hn1,F.add]
def sZ (d x:Int):Int:=Int.tmod (IntKind.wrap .i64 (IntKind.wrap .i64 (IntKind.wrap .i64 (d * 1000003)+tM x 2147483647)+13)) 2147483647
def rz (l:List Int):Int:=l.foldl sZ 11
theorem GM (l:List Int) (hl:l.length≤1099511627776) {f0:Fl} (h0:ac f0=true):fix Tb md 268 [R (row fI l) f0]=some ⟨[I (rz l)],[],none⟩:=by
 obtain ⟨T,hT⟩:=nm (rz l)
 rw[←hT];generalize hr:(⟨_,[],none⟩:Ret)=r
 obtain ⟨ea,hea⟩:=nm (row fI l)
 rw[←hea];refine cJ (fn:=ir268) tb_268 rfl rfl (by decide) rfl ?_;intro Q hQ;simp only[aj,aV,List.map_cons,List.map_nil,ir268,ai h0,List.head?_nil,reduceCtorEq,if_false,cb,aa,ae,bp,al,aG,af,aH]
 intro add sub mul arith eq ne lt le gt ge neg conv mn mx not beq len at' ln bd cut app allS isNil mks set o hP F ho;have la:=F.len_at hea;cbv;refine ah hP (σ:=List Int×List Int×Int×Int) (fun s=>[(0,R ea .sh),(2,I 0),(3,I s.2.2.1),(4,I s.2.2.2)]) (fun s=>At s.2.2.2 s.2.1.length∧l=s.2.1++s.1∧s.1.foldl sZ s.2.2.1=T) (fun s=>s.1.length) (l,[],11,0) rfl ⟨rfl,rfl,hT.symm⟩ ?_
 intro c1 Q1 hc1 hQ1;rintro ⟨suf,pre,d,i⟩ ⟨hi,hl',hb⟩ ih
 simp only at hi hl' hb ih;cbv;cases suf with
 | nil=>
  rw[F.lt_f hi la (by simp[hl'])];cbv
  rw[hQ1];cbv;rw[hQ];cbv;rw[←hr,←hb];rfl
 | cons x suf=>
  rw[List.foldl_cons] at hb;rw[F.lt_t hi la (by simp[hl'])];cbv
  obtain ⟨ix,hix⟩:=nm (pre.length * 1)
  rw[show at' 1 ea i=some (ix,[.int .i64 x]) by rw[hix];exact F.get hi hea hl' (fun _=>rfl) (by decide)];cbv
  obtain ⟨v,hv⟩:=nm (tM x 2147483647)
  rw[show o 348 [I x,I 2147483647]=some ⟨[I v],[],none⟩ by rw[ho,hv];exact JI ..];cbv
  obtain ⟨d',hd'⟩:=nm (sZ d x)
  rw[show arith .rem .i64 (add .i64 (add .i64 (mul .i64 d 1000003) v) 13) 2147483647=some (.int .i64 d') by rw[F.arith,hd',F.add,F.add,F.mul];unfold sZ;rw[←hv];exact qO (by decide)];cbv
  rw[←hd'] at hb;refine ih (suf,pre++[x],d',add .i64 i 1) ⟨ao (F.inc hi (by simp[hl'] at hl;omega)) (by simp),by simp[hl'],hb⟩ (by simp)
def qz (l:List (List Int)):Bool:=l.all bytes&&decide (l.length≤12)
theorem HP (l:List (List Int)) (w:l.length≤1048576∧∀ y∈l,y.length≤1048576) {f0:Fl} (h0:ac f0=true):fix Tb md 71 [R (row fR l) f0]=some ⟨[B (qz l)],[],none⟩:=by
 have w1:=w.1;refine bB (fn:=ir71) tb_71 rfl rfl (by decide) rfl ?_;simp only[aj,aV,List.map_cons,List.map_nil,ir71,ai h0,List.head?_nil,reduceCtorEq,if_false,cb,aa,ae,bp,al,aG,af,aH]
 generalize hr:(⟨_,[],none⟩:Ret)=r
 obtain ⟨ea,hea⟩:=nm (row fR l)
 rw[←hea];intro add sub mul arith eq ne lt le gt ge neg conv mn mx not beq len at' ln bd cut app allS isNil mks set o hP F ho;have la:=F.len_at hea;cbv;refine aJ hP (σ:=List (List Int)×List (List Int)×Int) (fun s=>[(0,R ea .sh),(2,B false),(3,I s.2.2)]) (fun s=>At s.2.2 s.1.length∧l=s.1++s.2.1∧s.1.all bytes=true) (fun s=>s.2.1.length) ([],l,0) rfl ⟨rfl,rfl,rfl⟩ ?_
 rintro ⟨pre,suf,i⟩ ⟨hi,hl',hb⟩ ih
 simp only at hi hl' hb ih;cbv;cases suf with
 | nil=>
  rw[F.lt_f hi la (by simp[hl'])];cbv
  have h12:le (len ea) 12=decide (l.length≤12):=by unfold At at la;rw[F.le,la];simp;omega
  have hall:l.all bytes=true:=by rw[hl',List.append_nil];exact hb
  rw[h12,←hr,qz,hall,Bool.true_and]
 | cons x suf=>
  rw[F.lt_t hi la (by simp[hl'])];cbv
  obtain ⟨ix,hix⟩:=nm (pre.length * 1)
  obtain ⟨e1,he1⟩:=nm (row fI x)
  rw[show at' 1 ea i=some (ix,[.row () e1]) by rw[hix,he1];exact F.get hi hea hl' (fun _=>rfl) (by decide)];cbv
  obtain ⟨v,hv⟩:=nm (bytes x)
  rw[show o 231 [R e1 (.sp 0 0)]=some ⟨[B v],[],none⟩ by rw[ho,hv,he1];exact BF x (by have:=w.2 x (by rw[hl'];simp);omega) rfl];cbv
  refine both (fun c=>?_) (fun c=>?_)<;>rw[c]<;>cbv
  ·rw[←hr,hl'];rw[F.not] at c;simp[qz] at *
   simp_all
  ·rw[F.not] at c;simp at c;refine ih (pre++[x],suf,add .i64 i 1) ⟨ao (F.inc hi (by simp[hl'] at w1;omega)) (by simp),by simp[hl'],?_⟩ (by simp)
   rw[List.all_append,hb];simp[←hv,c]
def pq (h:Int) (b:List Int):Int:=rz (h::(b.length:Int)::b)
def mq (l:List (List Int)):Int:=if qz l=true then l.foldl pq 1 else 0
theorem GA (l:List (List Int)) (w:l.length≤1048576∧∀ y∈l,y.length≤1048576) {f0:Fl} (h0:ac f0=true):fix Tb md 120 [R (row fR l) f0]=some ⟨[I (mq l)],[],none⟩:=by
 have w1:=w.1;obtain ⟨T,hT⟩:=nm (mq l)
 rw[←hT];generalize hr:(⟨_,[],none⟩:Ret)=r
 obtain ⟨ea,hea⟩:=nm (row fR l)
 rw[←hea];obtain ⟨u,hu⟩:=nm (qz l)
 refine cJ (fn:=ir120) tb_120 rfl rfl (by decide) rfl ?_;intro Q hQ;simp only[aj,aV,List.map_cons,List.map_nil,ir120,ai h0,List.head?_nil,reduceCtorEq,if_false,cb,aa,ae,bp,al,aG,af,aH]
 intro add sub mul arith eq ne lt le gt ge neg conv mn mx not beq len at' ln bd cut app allS isNil mks set o hP F ho;have la:=F.len_at hea;have c1:o 71 [R ea (.sp 0 0)]=some ⟨[B u],[],none⟩:=by rw[ho,hu,hea];exact HP _ w rfl
 cbv;rw[c1];cbv;refine both (fun d1=>?_) (fun d1=>?_)<;>rw[d1]<;>cbv
 ·rw[hQ];cbv;rw[←hr,hT];unfold mq;rw[←hu,F.not_t d1];rfl
 have hT':T=l.foldl pq 1:=by rw[hT];unfold mq;rw[←hu,F.not_f d1];rfl
 refine ah hP (σ:=List (List Int)×List (List Int)×Int×Int) (fun s=>[(0,R ea .sh),(2,I 0),(3,I s.2.2.1),(4,I s.2.2.2)]) (fun s=>At s.2.2.2 s.2.1.length∧l=s.2.1++s.1∧s.1.foldl pq s.2.2.1=T) (fun s=>s.1.length) (l,[],1,0) rfl ⟨rfl,rfl,hT'.symm⟩ ?_
 intro c1 Q1 hc1 hQ1;rintro ⟨suf,pre,d,i⟩ ⟨hi,hl',hb⟩ ih
 simp only at hi hl' hb ih;cbv;cases suf with
 | nil=>
  rw[F.lt_f hi la (by simp[hl'])];cbv
  rw[hQ1];cbv;rw[hQ];cbv;rw[←hr,←hb];rfl
 | cons x suf=>
  have hx:=w.2 x (by rw[hl'];simp)
  rw[List.foldl_cons] at hb;obtain ⟨nx,hnx⟩:=nm ((x.length:Int))
  have hc:pq d x=rz (d::nx::x):=by rw[hnx];rfl
  rw[F.lt_t hi la (by simp[hl'])];cbv
  obtain ⟨ix,hix⟩:=nm (pre.length * 1)
  obtain ⟨e1,he1⟩:=nm (row fI x)
  have l1:len e1=nx:=by rw[hnx];exact F.len_at he1
  have p0:at' 1 ea i=some (ix,[.row () e1]):=by rw[hix,he1];exact F.get hi hea hl' (fun _=>rfl) (by decide)
  rw[p0];cbv;rw[l1];cbv
  try (rw[p0];cbv)
  try (rw[show allS e1=true from F.scal he1 (fun _=>rfl)];cbv)
  obtain ⟨e2,he2⟩:=nm (row fI (d::nx::x))
  rw[show app 1 [[.int .i64 d],[.int .i64 nx]] e1=some e2 by rw[F.app' (f:=fI) (e1:=[[.int .i64 d],[.int .i64 nx]]) (l1:=[d,nx]) rfl he1 (fun _=>rfl) (by simp;omega),he2];rfl];cbv
  obtain ⟨d',hd'⟩:=nm (pq d x)
  rw[show o 268 [R e2 (.sp 0 0)]=some ⟨[I d'],[],none⟩ by rw[ho,hd',hc,he2];exact GM _ (by simp;omega) rfl];cbv
  rw[←hd'] at hb;refine ih (suf,pre++[x],d',add .i64 i 1) ⟨ao (F.inc hi (by simp[hl'] at w1;omega)) (by simp),by simp[hl'],hb⟩ (by simp)
def AV (k:Int):Bool:=inR k 1 2147483646
theorem Jm (k:Int):fix Tb md 282 [I k]=some ⟨[B (AV k)],[],none⟩:=by
 obtain ⟨a,ha⟩:=nm (AV k)
 rw[←ha];generalize hr:(⟨_,[],none⟩:Ret)=r
 refine cJ (fn:=ir282) tb_282 rfl rfl (by decide) rfl ?_;intro Q hQ;simp only[aj,aV,List.map_cons,List.map_nil,ir282,List.head?_nil,reduceCtorEq,if_false,cb,aa,ae,bp,al,aG,af,aH]
 intro add sub mul arith eq ne lt le gt ge neg conv mn mx not beq len at' ln bd cut app allS isNil mks set o hP F ho;have c1:o 230 [I k,I 1,I 2147483646]=some ⟨[B a],[],none⟩:=by rw[ho,ha];exact fE ..
 cbv;rw[c1];cbv;rw[hQ];cbv;exact congrArg some hr
def ti (k:Int) (l:List Int):Int:=rz (k::l++[k])
theorem Jn (k:Int) (l:List Int) (hl:l.length≤1073741824) {f0:Fl} (q0:ac f0=true):fix Tb md 283 [I k,R (row fI l) f0]=some ⟨[I (ti k l)],[],none⟩:=by
 obtain ⟨T,hT⟩:=nm (ti k l)
 rw[←hT];generalize hr:(⟨_,[],none⟩:Ret)=r
 obtain ⟨ea,hea⟩:=nm (row fI l)
 rw[←hea];obtain ⟨e1,he1⟩:=nm (row fI (k::l))
 obtain ⟨e2,he2⟩:=nm (row fI (k::l++[k]))
 refine cJ (fn:=ir283) tb_283 rfl rfl (by decide) rfl ?_;intro Q hQ;simp only[aj,aV,List.map_cons,List.map_nil,ir283,ai q0,List.head?_nil,reduceCtorEq,if_false,cb,aa,ae,bp,al,aG,af,aH]
 intro add sub mul arith eq ne lt le gt ge neg conv mn mx not beq len at' ln bd cut app allS isNil mks set o hP F ho;have p1:app 1 [[.int .i64 k]] ea=some e1:=by rw[he1];exact F.app' (f:=fI) (k:=1) (e1:=[[.int .i64 k]]) (l1:=[k]) rfl hea (fun _=>rfl) (by simp;omega)
 have p2:app 1 e1 [[.int .i64 k]]=some e2:=by rw[he2];exact F.app' (f:=fI) (k:=1) (e2:=[[.int .i64 k]]) (l2:=[k]) he1 rfl (fun _=>rfl) (by simp;omega)
 have p3:allS ea=true:=F.scal hea (fun _=>rfl)
 have p4:allS [[.int .i64 k]]=true:=by rw[F.allS];rfl
 have c1:o 268 [R e2 (.sp 0 0)]=some ⟨[I T],[],none⟩:=by rw[ho,he2,hT];exact GM _ (by simp;omega) rfl
 cbv;rw[p3];cbv;rw[p1];cbv;rw[p4];cbv;rw[p2];cbv;rw[c1];cbv;rw[hQ];cbv;exact congrArg some hr
def kQ (k:Int) (l:List (List Int)) (s:Int):Int:=if AV k&&qz l&&inR s 0 1 then ti k [s,mq l] else 0
def mr (k:Int) (l:List (List Int)) (s f:Int):Bool:= !decide (f=0)&&decide (kQ k l s=f)
theorem tS (k:Int) (l:List (List Int)) (s:Int) (w:l.length≤1048576∧∀ y∈l,y.length≤1048576) {f0:Fl} (q0:ac f0=true):fix Tb md 143 [I k,R (row fR l) f0,I s]=some ⟨[I (kQ k l s)],[],none⟩:=by
 obtain ⟨a,ha⟩:=nm (AV k)
 obtain ⟨b,hb⟩:=nm (qz l)
 obtain ⟨c,hc⟩:=nm (inR s 0 1)
 obtain ⟨n,hn⟩:=nm (mq l)
 obtain ⟨m,hm⟩:=nm (ti k [s,n])
 rw[show kQ k l s=if a&&b&&c then m else 0 by rw[ha,hb,hc,hm,hn];rfl]
 generalize hr:(⟨_,[],none⟩:Ret)=r
 obtain ⟨el,hel⟩:=nm (row fR l)
 rw[←hel];refine cJ (fn:=ir143) tb_143 rfl rfl (by decide) rfl ?_;intro Q hQ;simp only[aj,aV,List.map_cons,List.map_nil,ir143,ai q0,List.head?_nil,reduceCtorEq,if_false,cb,aa,ae,bp,al,aG,af,aH]
 intro add sub mul arith eq ne lt le gt ge neg conv mn mx not beq len at' ln bd cut app allS isNil mks set o hP F ho;have c1:o 282 [I k]=some ⟨[B a],[],none⟩:=by rw[ho,ha];exact Jm ..
 have c2:o 71 [R el (.sp 0 0)]=some ⟨[B b],[],none⟩:=by rw[ho,hb,hel];exact HP _ w rfl
 have c3:o 230 [I s,I 0,I 1]=some ⟨[B c],[],none⟩:=by rw[ho,hc];exact fE ..
 have c4:o 120 [R el (.sp 0 0)]=some ⟨[I n],[],none⟩:=by rw[ho,hn,hel];exact GA _ w rfl
 have c5:o 283 [I k,R [[.int .i64 s],[.int .i64 n]] (.sp 1 0)]=some ⟨[I m],[],none⟩:=by rw[ho,hm];exact Jn k [s,n] (by simp) rfl
 cbv;rw[c1];cbv;refine both (fun d1=>?_) (fun d1=>?_)<;>rw[d1]<;>cbv
 ·rw[hQ];cbv;rw[←hr,F.not_t d1];rfl
 rw[c2];cbv;refine both (fun d2=>?_) (fun d2=>?_)<;>rw[d2]<;>cbv
 ·rw[hQ];cbv;rw[←hr,F.not_f d1,F.not_t d2];rfl
 rw[c3];cbv;refine both (fun d3=>?_) (fun d3=>?_)<;>rw[d3]<;>cbv
 ·rw[hQ];cbv;rw[←hr,F.not_f d1,F.not_f d2,F.not_t d3];rfl
 rw[c4];cbv;rw[c5];cbv;rw[hQ];cbv;rw[←hr,F.not_f d1,F.not_f d2,F.not_f d3];rfl
def fN (v:Int) (l:List Ext):Bool:=inR v 1 9&&bI l
theorem Bq (v:Int) (l:List Ext) (hl:l.length≤1099511627776) (w:∀ y∈l,y.body.length≤1099511627776) {f0:Fl} (h0:ac f0=true):fix Tb md 127 [ae v (row ab l) f0]=some ⟨[B (fN v l)],[],none⟩:=by
 obtain ⟨a,ha⟩:=nm (inR v 1 9)
 obtain ⟨b,hb⟩:=nm (bI l)
 rw[show fN v l=(a&&b) by rw[ha,hb];rfl]
 generalize hr:(⟨_,[],none⟩:Ret)=r
 obtain ⟨ea,hea⟩:=nm (row ab l)
 rw[←hea];refine cJ (fn:=ir127) tb_127 rfl rfl (by decide) rfl ?_;intro Q hQ;simp only[aj,aV,List.map_cons,List.map_nil,ir127,ai h0,List.head?_nil,reduceCtorEq,if_false,cb,aa,ae,bp,al,aG,af,aH]
 intro add sub mul arith eq ne lt le gt ge neg conv mn mx not beq len at' ln bd cut app allS isNil mks set o hP F ho;have c1:o 230 [I v,I 1,I 9]=some ⟨[B a],[],none⟩:=by rw[ho,ha];exact fE ..
 have c2:o 271 [R ea (.sp 0 0)]=some ⟨[B b],[],none⟩:=by rw[ho,hb,hea];exact vA _ hl w rfl
 cbv;rw[c1];cbv;refine both (fun d1=>?_) (fun d1=>?_)<;>rw[d1]<;>cbv
 ·rw[c2];cbv;rw[hQ];cbv;rw[←hr,d1];rfl
 ·rw[hQ];cbv;rw[←hr,d1];rfl
def exI (e:Ext):List Int:=e.tag::(e.body.length:Int)::e.body
def iG (l:List Ext):List Int:=(l.length:Int)::l.flatMap exI
theorem xJ:∀ {suf pre:List Ext},oG pre suf=true→∀ y∈suf,y.body.length≤4∧inR y.tag 0 255=true∧bytes y.body=true
 | [],_,_,y,hy=>by simp at hy
 | x::suf,pre,h,y,hy=>by
  simp only[oG,Bool.and_eq_true] at h;obtain ⟨⟨⟨⟨h1,h2⟩,h3⟩,h4⟩,h5⟩:=h
  rcases List.mem_cons.1 hy with rfl | hy
  ·refine ⟨?_,h1,h3⟩
   simp at h2;omega
  ·exact xJ h5 y hy
theorem pX {l:List Ext} (h:bI l=true):l.length≤6∧∀ y∈l,y.body.length≤4∧inR y.tag 0 255=true∧bytes y.body=true:=by
 simp only[bI,Bool.and_eq_true,decide_eq_true_eq] at h;exact ⟨h.2,xJ h.1⟩
theorem sk:∀ {l:List Ext},(∀ y∈l,y.body.length≤4)→(l.flatMap exI).length≤6 * l.length
 | [],_=>by simp
 | x::l,h=>by
  have h1:=h x (by simp)
  have h2:=sk (l:=l) (fun y hy=>h y (by simp[hy]))
  rw[List.flatMap_cons,List.length_append,List.length_cons];simp only[exI,List.length_cons];omega
theorem kP {l:List Ext} (h:bI l=true):(iG l).length≤37:=by
 obtain ⟨h1,h2⟩:=pX h
 have:=sk (fun y hy=>(h2 y hy).1)
 simp only[iG,List.length_cons];omega
theorem GU (l:List Ext) (hok:bI l=true) {f0:Fl} (h0:ac f0=true):fix Tb md 293 [R (row ab l) f0]=some ⟨[R (row fI (iG l)) (.ow false),B true],[],none⟩:=by
 obtain ⟨hl,hw⟩:=pX hok
 obtain ⟨et,het⟩:=nm (row fI (iG l))
 rw[←het];generalize hr:(⟨_,[],none⟩:Ret)=r
 obtain ⟨ea,hea⟩:=nm (row ab l)
 rw[←hea];obtain ⟨nl,hnl⟩:=nm ((l.length:Int))
 obtain ⟨e0,he0⟩:=nm (row fI [nl])
 have hen:iG l=nl::l.flatMap exI:=by rw[hnl];rfl
 refine cJ (fn:=ir293) tb_293 rfl rfl (by decide) rfl ?_;intro Q hQ;simp only[aj,aV,List.map_cons,List.map_nil,ir293,ai h0,List.head?_nil,reduceCtorEq,if_false,cb,aa,ae,bp,al,aG,af,aH]
 intro add sub mul arith eq ne lt le gt ge neg conv mn mx not beq len at' ln bd cut app allS isNil mks set o hP F ho;have la:=F.len_at hea;have lna:len ea=nl:=by rw[hnl];exact la
 have la':At nl l.length:=hnl;have c1:o 271 [R ea (.sp 0 0)]=some ⟨[B true],[],none⟩:=by rw[ho,hea,←hok];exact vA _ (by omega) (fun y hy=>by have:=(hw y hy).1;omega) rfl
 cbv;rw[c1];cbv;rw[show not true=false by rw[F.not];rfl];cbv
 rw[lna];refine ah hP (σ:=List Ext×List Ext×List (List V)×Int) (fun s=>[(0,R ea .sh),(2,R [] .nl),(3,B false),(4,R s.2.2.1 (.ow false)),(5,I s.2.2.2)]) (fun s=>At s.2.2.2 s.2.1.length∧l=s.2.1++s.1∧s.2.2.1=row fI (nl::s.2.1.flatMap exI)) (fun s=>s.1.length) (l,[],[[.int .i64 nl]],0) rfl ⟨rfl,rfl,rfl⟩ ?_
 intro c1 Q1 hc1 hQ1;rintro ⟨suf,pre,eo,i⟩ ⟨hi,hl',hb⟩ ih
 simp only at hi hl' hb ih;have hpre:pre.length≤6:=by rw[hl'] at hl;simp at hl;omega
 have hfl:(pre.flatMap exI).length≤36:=by have:=sk (l:=pre) (fun y hy=>(hw y (by rw[hl'];simp[hy])).1);omega
 cbv;cases suf with
 | nil=>
  rw[F.lt_f hi la (by simp[hl'])];cbv
  rw[hQ1];cbv;rw[hQ];cbv;rw[←hr,het,hb,hen,hl',List.append_nil]
 | cons x suf=>
  obtain ⟨ix,hix⟩:=nm (pre.length * 2)
  obtain ⟨e1,he1⟩:=nm (row fI x.body)
  obtain ⟨nb,hnb⟩:=nm ((x.body.length:Int))
  have hx:=(hw x (by rw[hl'];simp)).1
  have hxi:exI x=x.tag::nb::x.body:=by rw[hnb];rfl
  have p0:at' 2 ea i=some (ix,[.int .i64 x.tag, .row () e1]):=by rw[hix,he1];exact F.get hi hea hl' (fun _=>rfl) (by decide)
  have l1:len e1=nb:=by rw[hnb];exact F.len_at he1
  obtain ⟨eo1,heo1⟩:=nm (row fI (nl::pre.flatMap exI++[x.tag,nb]))
  obtain ⟨eo2,heo2⟩:=nm (row fI (nl::(pre++[x]).flatMap exI))
  have q1:app 1 eo [[.int .i64 x.tag],[.int .i64 nb]]=some eo1:=by
   have h:=F.app' (f:=fI) (k:=1) (e2:=[[.int .i64 x.tag],[.int .i64 nb]]) (l2:=[x.tag,nb]) hb rfl (fun _=>rfl) (by simp only[List.length_cons,List.length_append,List.length_nil];omega)
   rw[h,heo1]
  have q2:app 1 eo1 e1=some eo2:=by
   have h:=F.app' (f:=fI) (k:=1) heo1 he1 (fun _=>rfl) (by simp only[List.length_cons,List.length_append,List.length_nil];omega)
   rw[h,heo2,List.flatMap_append,List.flatMap_cons,hxi];simp
  have q3:allS [[.int .i64 x.tag],[.int .i64 nb]]=true:=by rw[F.allS];rfl
  have q4:allS e1=true:=F.scal he1 (fun _=>rfl)
  rw[F.lt_t hi la (by simp[hl'])];cbv
  rw[p0];cbv
  repeat' (first | (rw[p0];cbv) | (rw[l1];cbv) | (rw[q1];cbv) | (rw[q2];cbv) | (rw[q3];cbv) | (rw[q4];cbv))
  refine ih (suf,pre++[x],eo2,add .i64 i 1) ⟨ao (F.inc hi (by omega)) (by simp),by simp[hl'],heo2⟩ (by simp)
def cT (a:Answer):List Int:=if fN a.version a.exts=true then a.version::iG a.exts else []
theorem Bw (a:Answer) (hl:a.exts.length≤1099511627776) (w:∀ y∈a.exts,y.body.length≤1099511627776) {f0:Fl} (h0:ac f0=true):fix Tb md 151 [ae a.version (row ab a.exts) f0]=some ⟨[R (row fI (cT a)) (.ow false)],[],none⟩:=by
 obtain ⟨u,hu⟩:=nm (fN a.version a.exts)
 cases hu2:u with
 | true=>
  rw[hu2] at hu;have hok:bI a.exts=true:=by unfold fN at hu;cases h:bI a.exts with | true=>rfl | false=>rw[h,Bool.and_false] at hu;exact Bool.noConfusion hu
  obtain ⟨et,het⟩:=nm (row fI (cT a))
  rw[←het];generalize hr:(⟨_,[],none⟩:Ret)=r
  obtain ⟨ea,hea⟩:=nm (row ab a.exts)
  rw[←hea];obtain ⟨ex,hex⟩:=nm (row fI (iG a.exts))
  have hlen:=kP hok;refine cJ (fn:=ir151) tb_151 rfl rfl (by decide) rfl ?_;intro Q hQ;simp only[aj,aV,List.map_cons,List.map_nil,ir151,ai h0,List.head?_nil,reduceCtorEq,if_false,cb,aa,ae,bp,al,aG,af,aH]
  intro add sub mul arith eq ne lt le gt ge neg conv mn mx not beq len at' ln bd cut app allS isNil mks set o hP F ho;have c1:o 127 [ae a.version ea (.sp 0 1)]=some ⟨[B true],[],none⟩:=by rw[ho,hu,hea];exact Bq _ _ hl w rfl
  have c2:o 293 [R ea (.sp 0 0)]=some ⟨[R ex (.ow false),B true],[],none⟩:=by rw[ho,hea,hex];exact GU _ hok rfl
  have q1:app 1 [[.int .i64 a.version]] ex=some et:=by
   have h:=F.app' (f:=fI) (k:=1) (e1:=[[.int .i64 a.version]]) (l1:=[a.version]) rfl hex (fun _=>rfl) (by simp;omega)
   rw[h,het,cT,←hu,if_pos rfl];rfl
  have q2:allS ex=true:=F.scal hex (fun _=>rfl)
  cbv;rw[c1];cbv;rw[show not true=false by rw[F.not];rfl];cbv
  rw[c2];cbv;rw[q2];cbv;rw[q1];cbv;rw[hQ];cbv;exact congrArg some hr
 | false=>
  rw[hu2] at hu;rw[show cT a=[] by rw[cT,←hu];rfl]
  generalize hr:(⟨_,[],none⟩:Ret)=r
  obtain ⟨ea,hea⟩:=nm (row ab a.exts)
  rw[←hea];refine cJ (fn:=ir151) tb_151 rfl rfl (by decide) rfl ?_;intro Q hQ;simp only[aj,aV,List.map_cons,List.map_nil,ir151,ai h0,List.head?_nil,reduceCtorEq,if_false,cb,aa,ae,bp,al,aG,af,aH]
  intro add sub mul arith eq ne lt le gt ge neg conv mn mx not beq len at' ln bd cut app allS isNil mks set o hP F ho;have c1:o 127 [ae a.version ea (.sp 0 1)]=some ⟨[B false],[],none⟩:=by rw[ho,hu,hea];exact Bq _ _ hl w rfl
  cbv;rw[c1];cbv;rw[show not false=true by rw[F.not];rfl];cbv
  rw[hQ];cbv;exact congrArg some hr
theorem kI (a:Answer):(cT a).length≤38:=by
 unfold cT;split
 ·rename_i h;have hok:bI a.exts=true:=by unfold fN at h;simp at h;exact h.2
  have:=kP hok
  rw[List.length_cons];omega
 ·simp
def kD (t:Int):Bool:=inR t 0 255&&decide (Int.tmod t 16=10)
theorem GX (t:Int):fix Tb md 301 [I t]=some ⟨[B (kD t)],[],none⟩:=by
 obtain ⟨a,ha⟩:=nm (inR t 0 255)
 obtain ⟨n,hn⟩:=nm (Int.tmod t 16)
 obtain ⟨b,hb⟩:=nm (decide (n=10))
 rw[show kD t=(a&&b) by rw[ha,hb,hn];rfl]
 generalize hr:(⟨_,[],none⟩:Ret)=r
 refine cJ (fn:=ir301) tb_301 rfl rfl (by decide) rfl ?_;intro Q hQ;simp only[aj,aV,List.map_cons,List.map_nil,ir301,List.head?_nil,reduceCtorEq,if_false,cb,aa,ae,bp,al,aG,af,aH]
 intro add sub mul arith eq ne lt le gt ge neg conv mn mx not beq len at' ln bd cut app allS isNil mks set o hP F ho;have c1:o 230 [I t,I 0,I 255]=some ⟨[B a],[],none⟩:=by rw[ho,ha];exact fE ..
 have g1:arith .rem .i64 t 16=some (.int .i64 n):=by rw[F.arith,hn];rfl
 have g2:eq n 10=b:=by rw[F.eq,hb]
 cbv;rw[c1];cbv;refine both (fun d=>?_) (fun d=>?_)<;>rw[d]<;>cbv
 ·rw[g1];cbv;rw[hQ];cbv;rw[g2,←hr,d];rfl
 ·rw[hQ];cbv;rw[←hr,d];rfl
def okT (h:Hello) (e:Ext):Bool:= !(decide (dE h.exts e.tag < 0)||kD e.tag)
def ju (h:Hello) (a:Answer):Bool:=a.exts.all (okT h)&&aC h&&fN a.version a.exts&&bq h.versions a.version
theorem Eb (h:Hello) (a:Answer) (mh:h.Mid) (ma:a.Mid) {f0 f1 f2:Fl} (q0:ac f0=true) (q1:ac f1=true) (q2:ac f2=true):fix Tb md 160 [aa (row fI h.versions) (row ab h.exts) f0 f1,ae a.version (row ab a.exts) f2]=some ⟨[B (ju h a)],[],none⟩:=by
 have mh':=mh;have ma':=ma;unfold Hello.Mid at mh;unfold Answer.Mid at ma;obtain ⟨T1,hT1⟩:=nm (a.exts.all (okT h))
 obtain ⟨u1,hu1⟩:=nm (aC h)
 obtain ⟨u2,hu2⟩:=nm (fN a.version a.exts)
 obtain ⟨u3,hu3⟩:=nm (bq h.versions a.version)
 rw[show ju h a=(T1&&u1&&u2&&u3) by rw[hT1,hu1,hu2,hu3];rfl]
 generalize hr:(⟨_,[],none⟩:Ret)=r
 obtain ⟨dv,hdv⟩:=nm (row fI h.versions)
 obtain ⟨dx,hdx⟩:=nm (row ab h.exts)
 obtain ⟨ex,hex⟩:=nm (row ab a.exts)
 rw[←hdv,←hdx,←hex];have wh:∀ y∈h.exts,y.body.length≤1099511627776:=fun y hy=>Nat.le_trans (show y.body.length≤1073741824 from mh.2.2 y hy) (by decide)
 have wa:∀ y∈a.exts,y.body.length≤1099511627776:=fun y hy=>Nat.le_trans (show y.body.length≤1073741824 from ma.2 y hy) (by decide)
 have mal:=ma.1;refine cJ (fn:=ir160) tb_160 rfl rfl (by decide) rfl ?_;intro Q hQ;simp only[aj,aV,List.map_cons,List.map_nil,ir160,ai q0,ai q1,ai q2,List.head?_nil,reduceCtorEq,if_false,cb,aa,ae,bp,al,aG,af,aH]
 intro add sub mul arith eq ne lt le gt ge neg conv mn mx not beq len at' ln bd cut app allS isNil mks set o hP F ho;have lx:=F.len_at hex;have c1:o 142 [aa dv dx (.sp 0 0) (.sp 0 1)]=some ⟨[B u1],[],none⟩:=by rw[ho,hu1,hdv,hdx];exact jW _ (by omega) (by omega) wh rfl rfl
 have c2:o 127 [ae a.version ex (.sp 0 1)]=some ⟨[B u2],[],none⟩:=by rw[ho,hu2,hex];exact Bq _ _ (by omega) wa rfl
 have c3:o 285 [R dv (.sp 0 0),I a.version]=some ⟨[B u3],[],none⟩:=by rw[ho,hu3,hdv];exact jD _ _ (by omega) rfl
 cbv;refine ah hP (σ:=List Ext×List Ext×Int) (fun s=>[(0,aa dv dx .sh .sh),(1,ae a.version ex .sh),(2,⟨.ptr 47 0,[]⟩),(3,⟨.ptr 48 0,[]⟩),(4,B false),(5,I s.2.2),(47,⟨.box (),[⟨.row () dv, .sh⟩,⟨.row () dx, .sh⟩]⟩),(48,⟨.box (),[⟨.int .i64 a.version, .sc⟩,⟨.row () ex, .sh⟩]⟩)]) (fun s=>At s.2.2 s.2.1.length∧a.exts=s.2.1++s.1∧s.1.all (okT h)=T1) (fun s=>s.1.length) (a.exts,[],0) rfl ⟨rfl,rfl,hT1.symm⟩ ?_
 intro c9 Q1 hc1 hQ1;rintro ⟨suf,pre,i⟩ ⟨hi,hl',hb⟩ ih
 simp only at hi hl' hb ih;cbv;cases suf with
 | nil=>
  have hT1':T1=true:=by rw[←hb];rfl
  rw[F.lt_f hi lx (by simp[hl'])];cbv
  rw[hQ1];cbv;rw[c1];cbv;refine both (fun d1=>?_) (fun d1=>?_)<;>rw[d1]<;>cbv
  ·rw[c2];cbv;refine both (fun d2=>?_) (fun d2=>?_)<;>rw[d2]<;>cbv
   ·rw[c3];cbv;rw[hQ];cbv;rw[←hr,hT1',d1,d2];rfl
   ·rw[hQ];cbv;rw[←hr,hT1',d1,d2];rfl
  ·rw[hQ];cbv;rw[←hr,hT1',d1];rfl
 | cons y suf=>
  obtain ⟨ix,hix⟩:=nm (pre.length * 2)
  obtain ⟨e1,he1⟩:=nm (row fI y.body)
  have hi':At (add .i64 i 1) (pre++[y]).length:=ao (F.inc hi (by simp[hl'] at mal;omega)) (by simp)
  have hl2:a.exts=(pre++[y])++suf:=by rw[hl'];simp
  have p0:at' 2 ex i=some (ix,[.int .i64 y.tag, .row () e1]):=by rw[hix,he1];exact F.get hi hex hl' (fun _=>rfl) (by decide)
  obtain ⟨v,hvv⟩:=nm (dE h.exts y.tag)
  obtain ⟨b1,hb1⟩:=nm (decide (v < 0))
  obtain ⟨b2,hb2⟩:=nm (kD y.tag)
  have hT':T1=(!(b1||b2)&&suf.all (okT h)):=by rw[←hb,hb1,hb2,hvv];rfl
  have c4:o 286 [R dx (.sp 0 0),I y.tag]=some ⟨[I v],[],none⟩:=by rw[ho,hvv,hdx];exact vB _ _ (by omega) rfl
  have c5:o 301 [I y.tag]=some ⟨[B b2],[],none⟩:=by rw[ho,hb2];exact GX ..
  have g1:lt v 0=b1:=by rw[F.lt,hb1]
  rw[F.lt_t hi lx (by simp[hl'])];cbv
  rw[p0];cbv;rw[c4];cbv;rw[g1];cbv;refine both (fun d1=>?_) (fun d1=>?_)<;>rw[d1]<;>cbv
  ·rw[hQ1];cbv;rw[hQ];cbv;rw[←hr,hT',d1];rfl
  rw[p0];cbv;rw[c5];cbv;refine both (fun d2=>?_) (fun d2=>?_)<;>rw[d2]<;>cbv
  ·rw[hQ1];cbv;rw[hQ];cbv;rw[←hr,hT',d2,Bool.or_true];rfl
  refine ih (suf,pre++[y],add .i64 i 1) ⟨hi',hl2,?_⟩ (by simp)
  rw[hT',d1,d2];rfl
def qf (a b:List Int):List Int:=sel (bq b) idI a
def fM (a b:List Int):Int:=if aK a&&aK b then (qf a b).getLastD 0 else 0
theorem BW:∀ (suf pre:List Int),fp pre suf=true→(∀ y,pre.getLast?=some y→∀ x∈suf,y < x)∧suf.Pairwise (· < ·)∧∀ x∈suf,1≤x∧x≤9
 | [],_,_=>⟨by simp, .nil,by simp⟩
 | x::suf,pre,h=>by
  unfold fp at h;simp only[Bool.and_eq_true] at h;obtain ⟨⟨h1,h2⟩,h3⟩:=h
  obtain ⟨i1,i2,i3⟩:=BW suf _ h3
  have i1':=i1 x (by simp)
  have hx:1≤x∧x≤9:=by unfold inR at h1;simpa using h1
  refine ⟨?_,List.pairwise_cons.2 ⟨i1',i2⟩,?_⟩
  ·intro y hy z hz;rw[hy] at h2;simp only[Bool.not_eq_true',decide_eq_false_iff_not] at h2;rcases List.mem_cons.1 hz with rfl | hz
   ·omega
   ·have:=i1' z hz;omega
  ·intro z hz;rcases List.mem_cons.1 hz with rfl | hz
   ·exact hx
   ·exact i3 z hz
theorem gg {l:List Int} (h:aK l=true):l.Pairwise (· < ·)∧∀ x∈l,1≤x∧x≤9:=by
 unfold aK at h;simp only[Bool.and_eq_true] at h;exact (BW l [] h.1).2
def mxI (x y:Int):Int:=if y > x then y else x
theorem Bk:∀ (l:List Int) (d:Int),l.Pairwise (· < ·)→(∀ x∈l,d < x)→l.foldl mxI d=l.getLastD d
 | [],_,_,_=>rfl
 | x::l,d,h1,h2=>by
  rw[List.foldl_cons,show mxI d x=x by unfold mxI;rw[if_pos (h2 x (by simp))]]
  rw[Bk l x (List.pairwise_cons.1 h1).2 (List.pairwise_cons.1 h1).1];cases l<;>rfl
theorem xD {a b:List Int} (h:aK a=true):(qf a b).Pairwise (· < ·)∧∀ x∈qf a b,1≤x∧x≤9:=by
 obtain ⟨h1,h2⟩:=gg h
 unfold qf;rw[cj];exact ⟨h1.filter _,fun x hx=>h2 x (List.mem_filter.1 hx).1⟩
theorem De {a b:List Int} (h:aK a=true):(qf a b).foldl mxI 0=(qf a b).getLastD 0:=by
 obtain ⟨h1,h2⟩:=xD (b:=b) h
 exact Bk _ _ h1 fun x hx=>by have:=h2 x hx;omega
theorem Ah {l:List Int} (h:l≠[]):l=l.dropLast++[l.getLastD 0]:=by
 rw[List.getLastD_eq_getLast?,List.getLast?_eq_some_getLast h]
 exact (List.dropLast_concat_getLast h).symm
def cq (h:Hello):List Int:=if aC h then (h.versions.length:Int)::h.versions++iG h.exts else []
theorem s8 {h:Hello} (q:aC h=true):bI h.exts=true:=by unfold aC at q;simp only[Bool.and_eq_true] at q;exact q.2
theorem DJ (h:Hello):(cq h).length≤h.versions.length+39:=by
 unfold cq;split
 ·rename_i q;have:=kP (s8 q)
  simp;omega
 ·simp
theorem A2:∀ (l:List Int) (d:Int),d≤9→l.Pairwise (· < ·)→(∀ x∈l,d < x∧x≤9)→(l.length:Int)≤9 - d
 | [],d,h,_,_=>by simp;omega
 | x::l,d,h,h1,h2=>by
  have hx:=h2 x (by simp)
  have:=A2 l x hx.2 (List.pairwise_cons.1 h1).2 (fun y hy=>⟨(List.pairwise_cons.1 h1).1 y hy,(h2 y (by simp[hy])).2⟩)
  simp only[List.length_cons,Int.natCast_add,Int.natCast_one];omega
theorem DN {h:Hello} (q:aC h=true):h.versions.length≤9:=by
 unfold aC at q;simp only[Bool.and_eq_true] at q;obtain ⟨h1,h2⟩:=gg q.1
 have:=A2 h.versions 0 (by decide) h1 (fun x hx=>by have:=h2 x hx;omega)
 omega
theorem eI (h:Hello):(cq h).length≤48:=by
 cases q:aC h with
 | true=>have:=DN q;have:=DJ h;omega
 | false=>unfold cq;rw[q];simp
theorem vu (h:Hello) (mh:h.Mid) {f0 f1:Fl} (q0:ac f0=true) (q1:ac f1=true):fix Tb md 162 [aa (row fI h.versions) (row ab h.exts) f0 f1]=some ⟨[R (row fI (cq h)) (.ow false)],[],none⟩:=by
 have mh':=mh;unfold Hello.Mid at mh';have hvl:=mh'.1;have hxl:=mh'.2.1;have wh:∀ y∈h.exts,y.body.length≤1099511627776:=fun y hy=>Nat.le_trans (show y.body.length≤1073741824 from mh'.2.2 y hy) (by decide)
 have k1:=jW h (by omega) (by omega) wh (f0:= .sp 0 0) (f1:= .sp 0 1) rfl rfl
 cases hi:aC h with
 | false=>
  rw[hi] at k1;have hb:cq h=[]:=by unfold cq;rw[hi];rfl
  rw[hb];generalize hr:(⟨_,[],none⟩:Ret)=r
  obtain ⟨dv,hdv⟩:=nm (row fI h.versions)
  obtain ⟨dx,hdx⟩:=nm (row ab h.exts)
  rw[←hdv,←hdx] at k1 ⊢;refine cJ (fn:=ir162) tb_162 rfl rfl (by decide) rfl ?_;intro Q hQ;simp only[aj,aV,List.map_cons,List.map_nil,ir162,ai q0,ai q1,List.head?_nil,reduceCtorEq,if_false,cb,aa,ae,bp,al,aG,af,aH]
  intro add sub mul arith eq ne lt le gt ge neg conv mn mx not beq len at' ln bd cut app allS isNil mks set o hP F ho;rw[←ho] at k1;cbv;rw[k1];cbv;rw[show not false=true by rw[F.not];rfl];cbv
  rw[hQ];cbv;exact congrArg some hr
 | true=>
  rw[hi] at k1;have hok:=s8 hi;have hlen:=kP hok;have hb:cq h=(h.versions.length:Int)::h.versions++iG h.exts:=by unfold cq;rw[hi];rfl
  rw[hb];obtain ⟨n,hn⟩:=nm ((h.versions.length:Int))
  obtain ⟨et,het⟩:=nm (row fI (n::h.versions++iG h.exts))
  rw[←hn,←het];generalize hr:(⟨_,[],none⟩:Ret)=r
  obtain ⟨dv,hdv⟩:=nm (row fI h.versions)
  obtain ⟨dx,hdx⟩:=nm (row ab h.exts)
  rw[←hdv,←hdx] at k1 ⊢;obtain ⟨ex,hex⟩:=nm (row fI (iG h.exts))
  refine cJ (fn:=ir162) tb_162 rfl rfl (by decide) rfl ?_;intro Q hQ;simp only[aj,aV,List.map_cons,List.map_nil,ir162,ai q0,ai q1,List.head?_nil,reduceCtorEq,if_false,cb,aa,ae,bp,al,aG,af,aH]
  intro add sub mul arith eq ne lt le gt ge neg conv mn mx not beq len at' ln bd cut app allS isNil mks set o hP F ho;rw[←ho] at k1;have c2:o 293 [R dx (.sp 0 0)]=some ⟨[R ex (.ow false),B true],[],none⟩:=by rw[ho,hdx,hex];exact GU _ hok rfl
  have g1:len dv=n:=by rw[hn];exact F.len_at hdv
  cbv;rw[k1];cbv;rw[show not true=false by rw[F.not];rfl];cbv
  rw[c2];cbv;rw[g1];cbv;obtain ⟨e1,he1⟩:=nm (row fI (n::h.versions))
  have p1:app 1 [[.int .i64 n]] dv=some e1:=by rw[he1];exact F.app' (f:=fI) (k:=1) (e1:=[[.int .i64 n]]) (l1:=[n]) rfl hdv (fun _=>rfl) (by simp;omega)
  have p2:app 1 e1 ex=some et:=by rw[het];exact F.app' (f:=fI) (k:=1) he1 hex (fun _=>rfl) (by simp;omega)
  have p3:allS dv=true:=F.scal hdv (fun _=>rfl)
  have p4:allS ex=true:=F.scal hex (fun _=>rfl)
  rw[p3];cbv;rw[p1];cbv;rw[p4];cbv;rw[p2];cbv;rw[hQ];cbv;exact congrArg some hr
theorem Jc (l b:List Int) (hl:l.length≤1073741824) (hb':b.length≤1073741824) {f0 f1:Fl} (h0:ac f0=true) (h1:ac f1=true):fix Tb md 256 [R (row fI l) f0,R (row fI b) f1]=some ⟨[R (row fI (sel (bq b) idI l)) (.ow false)],[],none⟩:=by
 obtain ⟨et,het⟩:=nm (row fI (sel (bq b) idI l))
 rw[←het];generalize hr:(⟨_,[],none⟩:Ret)=r
 obtain ⟨ea,hea⟩:=nm (row fI l)
 obtain ⟨eb,heb⟩:=nm (row fI b)
 rw[←hea,←heb];refine cJ (fn:=ir256) tb_256 rfl rfl (by decide) rfl ?_;intro Q hQ;simp only[aj,aV,List.map_cons,List.map_nil,ir256,ai h0,ai h1,List.head?_nil,reduceCtorEq,if_false,cb,aa,ae,bp,al,aG,af,aH]
 intro add sub mul arith eq ne lt le gt ge neg conv mn mx not beq len at' ln bd cut app allS isNil mks set o hP F ho;have la:=F.len_at hea;cbv;refine ah hP (σ:=List Int×List Int×List (List V)×Int) (fun s=>[(0,R ea .sh),(1,R eb .sh),(4,R [] .nl),(5,R s.2.2.1 (.ow false)),(6,I s.2.2.2)]) (fun s=>At s.2.2.2 s.2.1.length∧l=s.2.1++s.1∧s.2.2.1=row fI (sel (bq b) idI s.2.1)) (fun s=>s.1.length) (l,[],[],0) rfl ⟨rfl,rfl,rfl⟩ ?_
 intro c1 Q1 hc1 hQ1;rintro ⟨suf,pre,eo,i⟩ ⟨hi,hl',hb⟩ ih
 simp only at hi hl' hb ih;cbv;cases suf with
 | nil=>
  rw[F.lt_f hi la (by simp[hl'])];cbv
  rw[hQ1];cbv;rw[hQ];cbv;rw[←hr,het,hb,hl',List.append_nil]
 | cons x suf=>
  obtain ⟨ix,hix⟩:=nm (pre.length * 1)
  have hpre:pre.length≤1073741824:=by rw[hl'] at hl;simp at hl;omega
  have hs:(sel (bq b) idI pre).length≤pre.length:=aI;have hi':At (add .i64 i 1) (pre++[x]).length:=ao (F.inc hi (by omega)) (by simp)
  have hl2:l=(pre++[x])++suf:=by rw[hl'];simp
  have hmem:x∈l:=by rw[hl'];simp
  have p0:at' 1 ea i=some (ix,[.int .i64 x]):=by rw[hix];exact F.get hi hea hl' (fun _=>rfl) (by decide)
  obtain ⟨v,hv⟩:=nm (bq b x)
  have c2:o 285 [R eb (.sp 0 0),I x]=some ⟨[B v],[],none⟩:=by rw[ho,hv,heb];exact jD _ _ (by omega) rfl
  rw[F.lt_t hi la (by simp[hl'])];cbv
  rw[p0];cbv;rw[c2];cbv;refine both (fun d=>?_) (fun d=>?_)<;>rw[d]<;>cbv
  ·rw[p0];cbv;rw[show allS [[.int .i64 x]]=true by rw[F.allS];rfl];cbv
   obtain ⟨eo',heo'⟩:=nm (row fI (sel (bq b) idI pre++[idI x]))
   rw[show app 1 eo [[.int .i64 x]]=some eo' by rw[heo'];exact F.push hb (fun _=>rfl) rfl (by omega)];cbv
   refine ih (suf,pre++[x],eo',add .i64 i 1) ⟨hi',hl2,by simp only;rw[heo',dz (by rw[←hv,d])]⟩ (by simp)
  ·refine ih (suf,pre++[x],eo,add .i64 i 1) ⟨hi',hl2,by simp only;rw[hb,d6 (by rw[←hv,d])]⟩ (by simp)
theorem Gx (a b:List Int) (ha:a.length≤1073741824) (hb:b.length≤1073741824) {f0 f1:Fl} (q0:ac f0=true) (q1:ac f1=true):fix Tb md 112 [R (row fI a) f0,R (row fI b) f1]=some ⟨[I (fM a b)],[],none⟩:=by
 obtain ⟨u,hu⟩:=nm (aK a)
 obtain ⟨v,hv⟩:=nm (aK b)
 obtain ⟨l,hl⟩:=nm (qf a b)
 obtain ⟨T,hT⟩:=nm (fM a b)
 rw[←hT];have hT':T=if u&&v then l.getLastD 0 else 0:=by rw[hT,hu,hv,hl];rfl
 clear hT;have hll:l.length≤1073741824:=by rw[hl];exact Nat.le_trans aI ha
 obtain ⟨pre,hpre⟩:=nm (l.dropLast)
 obtain ⟨x,hx⟩:=nm (l.getLastD 0)
 have hlx:l≠[]→l=pre++x::[]:=fun h=>by rw[hpre,hx];exact Ah h
 generalize hr:(⟨_,[],none⟩:Ret)=r
 obtain ⟨ea,hea⟩:=nm (row fI a)
 obtain ⟨eb,heb⟩:=nm (row fI b)
 rw[←hea,←heb];obtain ⟨el,hel⟩:=nm (row fI l)
 obtain ⟨ix,hix⟩:=nm (pre.length * 1)
 refine cJ (fn:=ir112) tb_112 rfl rfl (by decide) rfl ?_;intro Q hQ;simp only[aj,aV,List.map_cons,List.map_nil,ir112,ai q0,ai q1,List.head?_nil,reduceCtorEq,if_false,cb,aa,ae,bp,al,aG,af,aH]
 intro add sub mul arith eq ne lt le gt ge neg conv mn mx not beq len at' ln bd cut app allS isNil mks set o hP F ho;have ll:=F.len_at hel;have c1:o 256 [R ea (.sp 0 0),R eb (.sp 1 0)]=some ⟨[R el (.ow false)],[],none⟩:=by rw[ho,hel,hl,hea,heb];exact Jc _ _ ha hb rfl rfl
 have c2:o 257 [R ea (.sp 0 0)]=some ⟨[B u],[],none⟩:=by rw[ho,hu,hea];exact tV _ (by omega) rfl
 have c3:o 257 [R eb (.sp 0 0)]=some ⟨[B v],[],none⟩:=by rw[ho,hv,heb];exact tV _ (by omega) rfl
 have g1:eq (len el) 0=decide (l.length=0):=F.eq_n ll (k:=0) (m:=0) rfl;cbv;rw[c1];cbv;rw[c2];cbv;refine both (fun d1=>?_) (fun d1=>?_)<;>rw[d1]<;>cbv
 ·rw[hQ];cbv;rw[←hr,hT',F.not_t d1];rfl
 rw[c3];cbv;refine both (fun d2=>?_) (fun d2=>?_)<;>rw[d2]<;>cbv
 ·rw[hQ];cbv;rw[←hr,hT',F.not_f d1,F.not_t d2];rfl
 refine both (fun d3=>?_) (fun d3=>?_)<;>rw[d3]<;>cbv
 ·rw[hQ];cbv;rw[g1] at d3;have hn:l=[]:=List.length_eq_zero_iff.1 (by simpa using d3)
  rw[←hr,hT',F.not_f d1,F.not_f d2,hn];rfl
 rw[g1] at d3;have hn:l≠[]:=fun h=>by rw[h] at d3;simp at d3
 have hl2:=hlx hn;have hs:At (sub .i64 (len el) 1) pre.length:=by
  unfold At at ll ⊢;rw[F.sub,ll,aW (by omega) (by omega),hl2];simp
 rw[show at' 1 el (sub .i64 (len el) 1)=some (ix,[.int .i64 x]) by rw[hix];exact F.get hs hel hl2 (fun _=>rfl) (by decide)];cbv
 rw[hQ];cbv;rw[←hr,hT',F.not_f d1,F.not_f d2,←hx];rfl
end Go.Vm
