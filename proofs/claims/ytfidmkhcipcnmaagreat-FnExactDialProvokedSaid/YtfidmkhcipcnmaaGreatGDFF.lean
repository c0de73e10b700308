/- What the functions answer. -/
import Derived.Test.YtfidmkhcipcnmaaGreatGDTab
import Derived.Test.YtfidmkhcipcnmaaGreatGDFA
import Derived.Test.YtfidmkhcipcnmaaGreatGDFB
import Derived.Test.YtfidmkhcipcnmaaGreatGDFC
import Derived.Test.YtfidmkhcipcnmaaGreatGDFD
import Derived.Test.YtfidmkhcipcnmaaGreatGDFE
set_option maxHeartbeats 4000000
set_option maxRecDepth 10000
set_option linter.unusedVariables false
set_option linter.unusedSimpArgs false
namespace Go.Vm
theorem Jt (n:Int) (b:List Int) (hb:b.length≤1099511627776):fix Tb md 305 [I n,⟨.val,[⟨.ptr () [.row () (row fI b)], .sh⟩]⟩]=some ⟨[B (!bq b n)],[],none⟩:=by
 obtain ⟨v,hv⟩:=nm (bq b n)
 rw[←hv];generalize hr:(⟨_,[],none⟩:Ret)=r
 obtain ⟨eb,heb⟩:=nm (row fI b)
 rw[←heb];refine cJ (fn:=ir305) tb_305 rfl rfl (by decide) rfl ?_;intro Q hQ;simp only[aj,aV,List.map_cons,List.map_nil,ir305,List.head?_nil,reduceCtorEq,if_false,cb,aa,ae,bp,al,aG,af,aH]
 intro add sub mul arith eq ne lt le gt ge neg conv mn mx not beq len at' ln bd cut app allS isNil mks set o hP F ho;have c1:o 302 [R eb (.sp 0 0),I n]=some ⟨[B v],[],none⟩:=by rw[ho,hv,heb];exact og _ _ hb rfl
 cbv;rw[c1];cbv;rw[hQ];cbv;rw[←hr,F.not]
theorem Ef (h:Hello) (lv tg:List Int) (mh:h.Mid) (a1:lv.length≤1073741824) (a2:tg.length≤1073741824) {f0 f1 f2 f3:Fl} (q0:ac f0=true) (q1:ac f1=true) (q2:ac f2=true) (q3:ac f3=true):
  fix Tb md 165 [aa (row fI h.versions) (row ab h.exts) f0 f1,R (row fI lv) f2,R (row fI tg) f3]=some ⟨[aa (row fI (bT h lv tg).versions) (row ab (bT h lv tg).exts) (.ow false) (.ow false),B (cK h lv)],[],none⟩∨
  ((bT h lv tg).versions=[]∧(bT h lv tg).exts=[]∧fix Tb md 165 [aa (row fI h.versions) (row ab h.exts) f0 f1,R (row fI lv) f2,R (row fI tg) f3]=some ⟨[aa [] [] .nl .nl,B (cK h lv)],[],none⟩):=by
 have mh':=mh;unfold Hello.Mid at mh';have hvl:=mh'.1;have hxl:=mh'.2.1;have wh:∀ y∈h.exts,y.body.length≤1099511627776:=fun y hy=>Nat.le_trans (show y.body.length≤1073741824 from mh'.2.2 y hy) (by decide)
 obtain ⟨W,hW⟩:=nm (sel (br lv) idI h.versions)
 obtain ⟨Z,hZ⟩:=nm (sel (co tg) idE h.exts)
 have hWl:W.length≤1073741824:=by rw[hW];exact Nat.le_trans aI hvl
 obtain ⟨u,hu⟩:=nm (aC h)
 obtain ⟨z,hz⟩:=nm (decide (W.length=0))
 suffices hmain:∀ r,(u=true→z=false→(⟨[aa (row fI W) (row ab Z) (.ow false) (.ow false),B true],[],none⟩:Ret)=r)→(u=false∨z=true→(⟨[aa [] [] .nl .nl,B false],[],none⟩:Ret)=r)→fix Tb md 165 [aa (row fI h.versions) (row ab h.exts) f0 f1,R (row fI lv) f2,R (row fI tg) f3]=some r by
  have ho:cK h lv=(u&& !z):=by rw[hu,hz,hW];rfl
  cases hk:(u&& !z) with
  | false=>
   rw[hk] at ho;have hp:bT h lv tg=⟨[],[]⟩:=by rw[bT,ho];rfl
   rw[hp,ho];refine .inr ⟨rfl,rfl,hmain _ (fun q1 q2=>?_) (fun _=>rfl)⟩
   rw[q1,q2] at hk;exact Bool.noConfusion hk
  | true=>
   rw[hk] at ho;have hp:bT h lv tg=⟨W,Z⟩:=by rw[bT,ho,if_pos rfl,hW,hZ]
   rw[hp,ho];refine .inl (hmain _ (fun _ _=>rfl) (fun q=>?_))
   rcases q with q | q
   ·rw[q] at hk;exact Bool.noConfusion hk
   ·rw[q] at hk;simp at hk
 intro r rA rC;obtain ⟨dv,hdv⟩:=nm (row fI h.versions)
 obtain ⟨dx,hdx⟩:=nm (row ab h.exts)
 obtain ⟨el,hel⟩:=nm (row fI lv)
 obtain ⟨et,het⟩:=nm (row fI tg)
 rw[←hdv,←hdx,←hel,←het];obtain ⟨ew,hew⟩:=nm (row fI W)
 obtain ⟨ez,hez⟩:=nm (row ab Z)
 rw[←hew,←hez] at rA;refine cJ (fn:=ir165) tb_165 rfl rfl (by decide) rfl ?_;intro Q hQ;simp only[aj,aV,List.map_cons,List.map_nil,ir165,ai q0,ai q1,ai q2,ai q3,List.head?_nil,reduceCtorEq,if_false,cb,aa,ae,bp,al,aG,af,aH]
 intro add sub mul arith eq ne lt le gt ge neg conv mn mx not beq len at' ln bd cut app allS isNil mks set o hP F ho;have lw:=F.len_at hew;have c1:o 287 [R dv (.sp 0 0),R el (.sp 1 0)]=some ⟨[R ew (.ow false)],[],none⟩:=by rw[ho,hew,hW,hdv,hel];exact tW _ _ hvl a1 rfl rfl
 have c2:o 113 [aa dv dx (.sp 0 0) (.sp 0 1)]=some ⟨[B u],[],none⟩:=by rw[ho,hu,hdv,hdx];exact gu _ (by omega) (by omega) wh rfl rfl
 have c3:o 264 [R dx (.sp 0 0),⟨.val,[⟨.fn 305 [.ptr () [.row () et]], .sh⟩]⟩]=some ⟨[R ez (.ow false)],[],none⟩:=by
  rw[ho,hez,hZ,hdx,het];exact pI 305 rfl _ (fun n=> !bq tg n) h.exts hxl wh (fun x _=>Jt x.tag tg (by omega)) rfl
 have g1:eq (len ew) 0=z:=by rw[F.eq_n lw (k:=0) (m:=0) rfl,hz]
 cbv;rw[c1];cbv;rw[c2];cbv;refine both (fun d1=>?_) (fun d1=>?_)<;>rw[d1]<;>cbv
 ·rw[hQ];cbv;exact congrArg some (rC (.inl (F.not_t d1)))
 rw[g1];cbv;refine both (fun d2=>?_) (fun d2=>?_)<;>rw[d2]<;>cbv
 ·rw[hQ];cbv;exact congrArg some (rC (.inr d2))
 rw[c3];cbv;rw[hQ];cbv;exact congrArg some (rA (F.not_f d1) d2)
theorem FX (l:List Int) (hl:l.length≤1099511627776) {f0:Fl} (h0:ac f0=true):fix Tb md 77 [R (row fI l) f0]=some ⟨[aa (row fI l) [] (.ow false) .nl],[],none⟩:=by
 refine bB (fn:=ir77) tb_77 rfl rfl (by decide) rfl ?_;simp only[aj,aV,List.map_cons,List.map_nil,ir77,ai h0,List.head?_nil,reduceCtorEq,if_false,cb,aa,ae,bp,al,aG,af,aH]
 generalize hr:(⟨_,[],none⟩:Ret)=r
 obtain ⟨ea,hea⟩:=nm (row fI l)
 rw[←hea] at hr ⊢;intro add sub mul arith eq ne lt le gt ge neg conv mn mx not beq len at' ln bd cut app allS isNil mks set o hP F ho;cbv;rw[show allS ea=true from F.scal hea (fun _=>rfl)];cbv
 rw[F.app_nil hea (fun _=>rfl) hl];cbv
 exact congrArg some hr
def iop (path:List Box) (versions:List Int):Bool:=aK versions&&dZ path ⟨versions.take 1,[]⟩
def fu (path:List Box) (v:Int):Bool:= !dZ path ⟨[v],[]⟩
def lvs (path:List Box) (versions:List Int):List Int:=if aK versions then sel (fu path) idI versions else []
theorem nO {path:List Box} {versions:List Int}:(lvs path versions).length≤versions.length:=by
 unfold lvs;split
 ·exact aI
 ·simp
theorem BX:∀ (suf pre:List Int),fp pre suf=true→∀ x∈suf,inR x 1 9=true
 | [],_,_=>by simp
 | y::suf,pre,h=>by
  unfold fp at h;simp only[Bool.and_eq_true] at h;intro x hx;rcases List.mem_cons.1 hx with rfl | hx
  ·exact h.1.1
  ·exact BX suf _ h.2 x hx
theorem Fn {path:List Box} {versions:List Int} (h:aK versions=true) {x:Int} (hx:x∈versions):iop path [x]=dZ path ⟨[x],[]⟩:=by
 unfold aK at h;simp only[Bool.and_eq_true] at h;have h1:=BX _ _ h.1 x hx;unfold iop aK fp fp;simp[h1]
theorem yt (path:List Box) (versions:List Int) (pl:path.length≤1073741824) (pm:∀ y∈path,y.Mid) (hv:versions.length≤1073741824) {f0 f1:Fl} (q0:ac f0=true) (q1:ac f1=true):fix Tb md 171 [R (row ar path) f0,R (row fI versions) f1]=some ⟨[R (row fI (lvs path versions)) (.ow false)],[],none⟩:=by
 obtain ⟨u,hu⟩:=nm (aK versions)
 obtain ⟨l,hl0⟩:=nm (versions)
 obtain ⟨et,het⟩:=nm (row fI (lvs path versions))
 rw[←het];have hT:et=row fI (if u=true then sel (fu path) idI l else []):=by rw[het,hu,hl0];rfl
 clear het;generalize hr:(⟨_,[],none⟩:Ret)=r
 obtain ⟨ep,hep⟩:=nm (row ar path)
 obtain ⟨ev,hev⟩:=nm (row fI versions)
 rw[←hep,←hev];rw[←hl0] at hv hev hu;refine cJ (fn:=ir171) tb_171 rfl rfl (by decide) rfl ?_;intro Q hQ;simp only[aj,aV,List.map_cons,List.map_nil,ir171,ai q0,ai q1,List.head?_nil,reduceCtorEq,if_false,cb,aa,ae,bp,al,aG,af,aH]
 intro add sub mul arith eq ne lt le gt ge neg conv mn mx not beq len at' ln bd cut app allS isNil mks set o hP F ho;have lv:=F.len_at hev;have c1:o 255 [R ev (.sp 0 0)]=some ⟨[B u],[],none⟩:=by rw[ho,hu,hev];exact tU _ (by omega) rfl
 cbv;rw[c1];cbv;refine both (fun d1=>?_) (fun d1=>?_)<;>rw[d1]<;>cbv
 ·rw[hQ];cbv;rw[←hr,hT,F.not_t d1];rfl
 have hT':et=row fI (sel (fu path) idI l):=by rw[hT,F.not_f d1,if_pos rfl]
 refine ah hP (σ:=List Int×List Int×List (List V)×Int×Option (Int×Bool×Option (List (List V)×List (List V)))) (fun s=>match s.2.2.2.2 with
  | none=>[(0,R ep .sh),(1,R ev .sh),(4,R [] .nl),(5,R s.2.2.1 (.ow false)),(15,R ev .sh),(16,I (len ev)),(17,I s.2.2.2.1)]
  | some (a,b,none)=>[(0,R ep .sh),(1,R ev .sh),(4,R [] .nl),(5,R s.2.2.1 (.ow false)),(7,I a),(9,B b),(15,R ev .sh),(16,I (len ev)),(17,I s.2.2.2.1),(45,⟨.box (),[⟨.row () [], .nl⟩,⟨.row () [], .nl⟩]⟩)]
  | some (a,b,some (V,X))=>[(0,R ep .sh),(1,R ev .sh),(4,R [] .nl),(5,R s.2.2.1 (.ow false)),(7,I a),(9,B b),(15,R ev .sh),(16,I (len ev)),(17,I s.2.2.2.1),(45,⟨.box (),[⟨.row () V, .ow false⟩,⟨.row () X, .ow false⟩]⟩)])
  (fun s=>At s.2.2.2.1 s.2.1.length∧l=s.2.1++s.1∧s.2.2.1=row fI (sel (fu path) idI s.2.1)) (fun s=>s.1.length) (l,[],[],0,none) rfl ⟨rfl,rfl,rfl⟩ ?_
 intro c9 Q1 hc9 hQ1;rintro ⟨suf,pre,eo,i,j⟩ ⟨hi,hl',hb⟩ ih
 simp only at hi hl' hb ih;rcases j with _ | ⟨ja,jb,_ | ⟨jV,jX⟩⟩
 all_goals
  cbv;cases suf with
  | nil=>
   have hpp:l=pre:=by rw[hl',List.append_nil]
   rw[F.lt_f hi lv (by simp[hl'])];cbv
   rw[hQ1];cbv;rw[hQ];cbv;rw[←hr,hT',hb,hpp]
  | cons x suf=>
   have hk:=tT path ⟨[x],[]⟩ pl pm ⟨by simp,by simp,by simp⟩ (f0:= .sp 0 0) (f1:= .sp 1 0) (f2:= .nl) rfl rfl rfl
   obtain ⟨w,hw⟩:=nm (dZ path ⟨[x],[]⟩)
   obtain ⟨V1,hV1⟩:=nm (row fI (ppV path ⟨[x],[]⟩).versions)
   obtain ⟨X1,hX1⟩:=nm (row ab (ppV path ⟨[x],[]⟩).exts)
   rw[←hep,←hw,←hV1,←hX1] at hk;have hk:=hk;obtain ⟨ix,hix⟩:=nm (pre.length * 1)
   have hpl:pre.length≤1073741824:=by rw[hl'] at hv;simp at hv;omega
   have p0:at' 1 ev i=some (ix,[.int .i64 x]):=by rw[hix];exact F.get hi hev hl' (fun _=>rfl) (by decide)
   have hi':At (add .i64 i 1) (pre++[x]).length:=ao (F.inc hi (by omega)) (by simp)
   have hl2:l=(pre++[x])++suf:=by rw[hl'];simp
   have hs:(sel (fu path) idI pre).length≤pre.length:=aI;have hPx:fu path x= !w:=by rw[hw];rfl
   have c2:o 77 [R [[.int .i64 x]] (.sp 0 0)]=some ⟨[aa [[.int .i64 x]] [] (.ow false) .nl],[],none⟩:=by rw[ho];exact FX [x] (by simp) rfl
   obtain ⟨eo',heo'⟩:=nm (row fI (sel (fu path) idI pre++[idI x]))
   have p1:app 1 eo [[.int .i64 x]]=some eo':=by rw[heo'];exact F.push (k:=1) (f:=fI) (l:=sel (fu path) idI pre) (x:=idI x) hb (fun _=>rfl) rfl (by omega)
   have p2:allS [[.int .i64 x]]=true:=by rw[F.allS];rfl
   rw[F.lt_t hi lv (by simp[hl'])];cbv
   rw[p0];cbv;rw[c2];cbv;rcases hk with hk | ⟨n1,n2,hk⟩
   ·have c3:o 182 [R ep (.sp 0 0),aa [[.int .i64 x]] [] (.sp 1 0) .nl]=some ⟨[aa V1 X1 (.ow false) (.ow false),B w],[],none⟩:=by rw[ho];exact hk
    rw[c3];cbv;refine both (fun d2=>?_) (fun d2=>?_)<;>rw[d2]<;>cbv
    ·rw[p2];cbv;rw[p1];cbv;refine ih (suf,pre++[x],eo',add .i64 i 1,some (x,w,some (V1,X1))) ⟨hi',hl2,?_⟩ (by simp)
     simp only;rw[dz (by rw[hPx,F.not_t d2];rfl)];exact heo'
    ·refine ih (suf,pre++[x],eo,add .i64 i 1,some (x,w,some (V1,X1))) ⟨hi',hl2,?_⟩ (by simp)
     simp only;rw[d6 (by rw[hPx,F.not_f d2];rfl)];exact hb
   ·have c3:o 182 [R ep (.sp 0 0),aa [[.int .i64 x]] [] (.sp 1 0) .nl]=some ⟨[aa [] [] .nl .nl,B w],[],none⟩:=by rw[ho];exact hk
    rw[c3];cbv;refine both (fun d2=>?_) (fun d2=>?_)<;>rw[d2]<;>cbv
    ·rw[p2];cbv;rw[p1];cbv;refine ih (suf,pre++[x],eo',add .i64 i 1,some (x,w,none)) ⟨hi',hl2,?_⟩ (by simp)
     simp only;rw[dz (by rw[hPx,F.not_t d2];rfl)];exact heo'
    ·refine ih (suf,pre++[x],eo,add .i64 i 1,some (x,w,none)) ⟨hi',hl2,?_⟩ (by simp)
     simp only;rw[d6 (by rw[hPx,F.not_f d2];rfl)];exact hb
theorem Eh (path:List Box) (versions:List Int) (pl:path.length≤1073741824) (pm:∀ y∈path,y.Mid) (hv:versions.length≤1073741824) {f0 f1:Fl} (q0:ac f0=true) (q1:ac f1=true):fix Tb md 167 [R (row ar path) f0,R (row fI versions) f1]=some ⟨[B (iop path versions)],[],none⟩:=by
 obtain ⟨u,hu⟩:=nm (aK versions)
 obtain ⟨w,hw⟩:=nm (dZ path ⟨versions.take 1,[]⟩)
 rw[show iop path versions=(u&&w) by rw[hu,hw];rfl]
 generalize hr:(⟨_,[],none⟩:Ret)=r
 have rA:u=true→(⟨[B w],[],none⟩:Ret)=r:=fun h=>by rw[←hr,h];rfl
 have rC:u=false→(⟨[B false],[],none⟩:Ret)=r:=fun h=>by rw[←hr,h];rfl
 clear hr;have hk:=tT path ⟨versions.take 1,[]⟩ pl pm ⟨by simp;omega,by simp,by simp⟩ (f0:= .sp 0 0) (f1:= .sp 1 0) (f2:= .nl) rfl rfl rfl
 rw[show row ab (⟨versions.take 1,[]⟩:Hello).exts=[] from rfl,show (⟨versions.take 1,[]⟩:Hello).versions=versions.take 1 from rfl,←hw] at hk
 obtain ⟨ep,hep⟩:=nm (row ar path)
 obtain ⟨ev,hev⟩:=nm (row fI versions)
 obtain ⟨e1,he1⟩:=nm (row fI (versions.take 1))
 rw[←hep,←he1] at hk;rw[←hep,←hev];obtain ⟨V1,hV1⟩:=nm (row fI (ppV path ⟨versions.take 1,[]⟩).versions)
 obtain ⟨X1,hX1⟩:=nm (row ab (ppV path ⟨versions.take 1,[]⟩).exts)
 rw[←hV1,←hX1] at hk;refine cJ (fn:=ir167) tb_167 rfl rfl (by decide) rfl ?_;intro Q hQ;simp only[aj,aV,List.map_cons,List.map_nil,ir167,ai q0,ai q1,List.head?_nil,reduceCtorEq,if_false,cb,aa,ae,bp,al,aG,af,aH]
 intro add sub mul arith eq ne lt le gt ge neg conv mn mx not beq len at' ln bd cut app allS isNil mks set o hP F ho;have c1:o 255 [R ev (.sp 0 0)]=some ⟨[B u],[],none⟩:=by rw[ho,hu,hev];exact tU _ (by omega) rfl
 have c2:o 77 [R e1 (.sp 0 0)]=some ⟨[aa e1 [] (.ow false) .nl],[],none⟩:=by rw[ho,he1];exact FX _ (by simp;omega) rfl
 obtain ⟨one,hone⟩:=nm (1)
 have p1:u=true→bd (ln ev) 1=some one:=fun h=>by
  rw[hu] at h;unfold aK at h;simp only[Bool.and_eq_true,decide_eq_true_eq] at h;rw[F.ln' hev,hone];exact F.bd' (show At 1 1 from rfl) h.2
 have p2:cut 1 ev one 0=some e1:=by rw[F.cut' hev (fun _=>rfl),he1,hone];rfl
 cbv;rw[c1];cbv;refine both (fun d1=>?_) (fun d1=>?_)<;>rw[d1]<;>cbv
 ·rw[hQ];cbv;exact congrArg some (rC (F.not_t d1))
 have p1':=p1 (F.not_f d1);rw[p1'];cbv;rw[p2];cbv;rw[c2];cbv;rcases hk with hk | ⟨n1,n2,hk⟩
 ·have c3:o 182 [R ep (.sp 0 0),aa e1 [] (.sp 1 0) .nl]=some ⟨[aa V1 X1 (.ow false) (.ow false),B w],[],none⟩:=by rw[ho];exact hk
  rw[c3];cbv;rw[hQ];cbv;exact congrArg some (rA (F.not_f d1))
 ·have c3:o 182 [R ep (.sp 0 0),aa e1 [] (.sp 1 0) .nl]=some ⟨[aa [] [] .nl .nl,B w],[],none⟩:=by rw[ho];exact hk
  rw[c3];cbv;rw[hQ];cbv;exact congrArg some (rA (F.not_f d1))
def ft (path:List Box) (versions:List Int) (e:Ext):Bool:= !pw ⟨versions.take 1,[e]⟩ path
def dR (path:List Box) (versions:List Int) (exts:List Ext):List Int:=if bI exts&&iop path versions then sel (ft path versions) Ext.tag exts else []
theorem kR {path:List Box} {versions:List Int} {exts:List Ext}:(dR path versions exts).length≤exts.length:=by
 unfold dR;split
 ·exact aI
 ·simp
theorem yE:∀ (path:List Box) (h:Hello),(dU path h).2=true→(dU path h).1.versions=h.versions
 | [],_,_=>rfl
 | b::bs,h,hq=>by
  unfold dU at hq ⊢;split at hq
  ·rename_i hb;rw[if_pos hb,yE bs _ hq];unfold pbV;rw[if_pos hb]
  ·cases hq
theorem HV {path:List Box} {h:Hello} (hq:dZ path h=true):(ppV path h).versions=h.versions:=by
 unfold dZ ppV pp at *;split at hq
 ·rename_i hb;rw[if_pos hb];exact yE path h hq
 ·cases hq
theorem FZ {path:List Box} {h:Hello}:pw h path=(dZ path h&&decide ((ppV path h).exts=h.exts)):=by
 unfold pw;cases hq:dZ path h with
 | false=>rfl
 | true=>
  rw[Bool.true_and,Bool.true_and];have:=HV hq
  congr 1
  refine propext ⟨fun e=>by rw[e],fun e=>?_⟩
  rcases hp:ppV path h with ⟨a,b⟩
  rw[hp] at this e;cases h
  simp only at this e;rw[this,e]
end Go.Vm
