/- What the functions answer. -/
import Derived.Test.YtfidmkhcipcnmaaGreatGDTab
import Derived.Test.YtfidmkhcipcnmaaGreatGDFA
import Derived.Test.YtfidmkhcipcnmaaGreatGDFB
import Derived.Test.YtfidmkhcipcnmaaGreatGDFC
import Derived.Test.YtfidmkhcipcnmaaGreatGDFD
import Derived.Test.YtfidmkhcipcnmaaGreatGDFJ
import Derived.Test.YtfidmkhcipcnmaaGreatGDFK
set_option maxHeartbeats 4000000
set_option maxRecDepth 10000
set_option linter.unusedVariables false
set_option linter.unusedSimpArgs false
namespace Go.Vm
theorem HB (path:List Box) (h:Hello) (pl:path.length≤1073741824) (pm:∀ y∈path,y.Mid) (mh:h.Mid) {f0 f1 f2:Fl} (q0:ac f0=true) (q1:ac f1=true) (q2:ac f2=true) (r:Ret) (rA:∀ z,(path=[]∨z.exts≠[])→pp path h=(z,true)→(⟨[aa (row fI z.versions) (row ab z.exts) (.ow false) (.ow false),B true],[],none⟩:Ret)=r) (rB:∀ z,z.exts=[]∧path≠[]→pp path h=(z,true)→(⟨[aa (row fI z.versions) [] (.ow false) .nl,B true],[],none⟩:Ret)=r) (rC:pp path h=(⟨[],[]⟩,false)→(⟨[aa [] [] .nl .nl,B false],[],none⟩:Ret)=r):
  fix Tb md 196 [R (row ar path) f0,aa (row fI h.versions) (row ab h.exts) f1 f2]=some r:=by
 have mh':=mh;unfold Hello.Mid at mh';have wh:∀ y∈h.exts,y.body.length≤1099511627776:=fun y hy=>Nat.le_trans (show y.body.length≤1073741824 from mh'.2.2 y hy) (by decide)
 obtain ⟨T,hT⟩:=nm (dU path h)
 obtain ⟨u,hu⟩:=nm (aC h)
 obtain ⟨k4,hk4⟩:=nm (decide (path.length≤4))
 have hp:pp path h=if (u&&k4)=true then T else (⟨[],[]⟩,false):=by rw[hu,hk4,hT];rfl
 rw[hp] at rA rB rC;clear hp;obtain ⟨ep,hep⟩:=nm (row ar path)
 obtain ⟨dv,hdv⟩:=nm (row fI h.versions)
 obtain ⟨dx,hdx⟩:=nm (row ab h.exts)
 rw[←hep,←hdv,←hdx];refine cJ (fn:=ir196) tb_196 rfl rfl (by decide) rfl ?_;intro Q hQ;simp only[aj,aV,List.map_cons,List.map_nil,ir196,ai q0,ai q1,ai q2,List.head?_nil,reduceCtorEq,if_false,cb,aa,ae,bp,al,aG,af,aH]
 intro add sub mul arith eq ne lt le gt ge neg conv mn mx not beq len at' ln bd cut app allS isNil mks set o hP F ho;have lp:=F.len_at hep;have c1:o 142 [aa dv dx (.sp 0 0) (.sp 0 1)]=some ⟨[B u],[],none⟩:=by rw[ho,hu,hdv,hdx];exact jW _ (by omega) (by omega) wh rfl rfl
 have g1:gt (len ep) 4=not k4:=by rw[F.gt_n lp (k:=4) (m:=4) rfl,F.not,hk4,Bool.eq_iff_iff];simp only[decide_eq_true_eq,Bool.not_eq_true',decide_eq_false_iff_not];omega
 have c2:o 279 [aa dv dx (.sp 0 0) (.sp 0 1)]=some ⟨[aa dv dx (.ow false) (.ow false)],[],none⟩:=by rw[ho,hdv,hdx];exact BJ h mh rfl rfl
 have nt:not false=true:=by rw[F.not];rfl
 have nf:not true=false:=by rw[F.not];rfl
 cbv;rw[g1];cbv;refine both (fun d2=>?_) (fun d2=>?_)<;>rw[d2]<;>cbv
 ·rw[hQ];cbv;exact congrArg some (rC (by rw[F.not_t d2,Bool.and_false];rfl))
 rw[c1];cbv;refine both (fun d1=>?_) (fun d1=>?_)<;>rw[d1]<;>cbv
 ·rw[hQ];cbv;exact congrArg some (rC (by rw[F.not_t d1];rfl))
 rw[F.not_f d1,F.not_f d2,Bool.true_and,if_pos rfl] at rA rB rC;rw[c2];cbv;refine ah hP (σ:=List Box×List Box×Int×Hello×List (List V)×Option (List (List V))×Option Unit) (fun s=>match s.2.2.2.2.2.1,s.2.2.2.2.2.2 with
   | none,none=>[(0,R ep .sh),(1,aa dv dx .sh .sh),(3,⟨.ptr 44 0,[]⟩),(4,⟨.ptr 45 0,[]⟩),(5,B false),(6,⟨.ptr 47 0,[]⟩),(7,I s.2.2.1),(44,⟨.box (),[⟨.row () dv, .sh⟩,⟨.row () dx, .sh⟩]⟩),(45,⟨.box (),[⟨.row () [], .nl⟩,⟨.row () [], .nl⟩]⟩),(47,⟨.box (),[⟨.row () s.2.2.2.2.1, .ow false⟩,⟨.row () [], .nl⟩]⟩)]
   | none,some _=>[(0,R ep .sh),(1,aa dv dx .sh .sh),(3,⟨.ptr 44 0,[]⟩),(4,⟨.ptr 45 0,[]⟩),(5,B false),(6,⟨.ptr 47 0,[]⟩),(7,I s.2.2.1),(8,⟨.ptr 49 0,[]⟩),(9,B true),(44,⟨.box (),[⟨.row () dv, .sh⟩,⟨.row () dx, .sh⟩]⟩),(45,⟨.box (),[⟨.row () [], .nl⟩,⟨.row () [], .nl⟩]⟩),(47,⟨.box (),[⟨.row () s.2.2.2.2.1, .ow false⟩,⟨.row () [], .nl⟩]⟩),(49,⟨.box (),[⟨.row () s.2.2.2.2.1, .fr⟩,⟨.row () [], .nl⟩]⟩)]
   | some ex,none=>[(0,R ep .sh),(1,aa dv dx .sh .sh),(3,⟨.ptr 44 0,[]⟩),(4,⟨.ptr 45 0,[]⟩),(5,B false),(6,⟨.ptr 47 0,[]⟩),(7,I s.2.2.1),(44,⟨.box (),[⟨.row () dv, .sh⟩,⟨.row () dx, .sh⟩]⟩),(45,⟨.box (),[⟨.row () [], .nl⟩,⟨.row () [], .nl⟩]⟩),(47,⟨.box (),[⟨.row () s.2.2.2.2.1, .ow false⟩,⟨.row () ex, .ow false⟩]⟩)]
   | some ex,some _=>[(0,R ep .sh),(1,aa dv dx .sh .sh),(3,⟨.ptr 44 0,[]⟩),(4,⟨.ptr 45 0,[]⟩),(5,B false),(6,⟨.ptr 47 0,[]⟩),(7,I s.2.2.1),(8,⟨.ptr 49 0,[]⟩),(9,B true),(44,⟨.box (),[⟨.row () dv, .sh⟩,⟨.row () dx, .sh⟩]⟩),(45,⟨.box (),[⟨.row () [], .nl⟩,⟨.row () [], .nl⟩]⟩),(47,⟨.box (),[⟨.row () s.2.2.2.2.1, .ow false⟩,⟨.row () ex, .ow false⟩]⟩),(49,⟨.box (),[⟨.row () s.2.2.2.2.1, .fr⟩,⟨.row () ex, .fr⟩]⟩)]) (fun s=>At s.2.2.1 s.2.1.length∧path=s.2.1++s.1∧dU s.1 s.2.2.2.1=T∧s.2.2.2.1.Mid∧s.2.2.2.2.1=row fI s.2.2.2.1.versions∧(match s.2.2.2.2.2.1 with | none=>s.2.2.2.1.exts=[]∧s.2.1≠[] | some ex=>ex=row ab s.2.2.2.1.exts∧(s.2.1=[]∨s.2.2.2.1.exts≠[]))) (fun s=>s.1.length) (path,[],0,h,dv,some dx,none) rfl ⟨rfl,rfl,hT.symm,mh,hdv,hdx, .inl rfl⟩ ?_
 intro c9 Q1 hc9 hQ1;rintro ⟨suf,pre,i,cur,ev,e,j⟩ ⟨hi,hl',z1,z2,z3,z4⟩ ih
 simp only at hi hl' z1 z2 z3 z4 ih;have z2':=z2;unfold Hello.Mid at z2';cases e with
 | none=>
  rcases j with _ | _
  all_goals
   cases suf with
   | nil=>
    cbv;rw[F.lt_f hi lp (by simp[hl'])];cbv
    rw[hQ1];cbv;rw[hQ];cbv;have hpp:path=pre:=by rw[hl',List.append_nil]
    rw[z3];exact congrArg some (rB cur (by rw[hpp];exact z4) (by rw[←z1];rfl))
   | cons x suf=>
    obtain ⟨ix,hix⟩:=nm (pre.length * 4)
    obtain ⟨e1,he1⟩:=nm (row fI x.drops)
    obtain ⟨e2,he2⟩:=nm (row fI x.strips)
    have hx:=pm x (by rw[hl'];simp)
    unfold Box.Mid at hx;have hi':At (add .i64 i 1) (pre++[x]).length:=ao (F.inc hi (by rw[hl'] at pl;simp at pl;omega)) (by simp)
    have hl2:path=(pre++[x])++suf:=by rw[hl'];simp
    have p0:at' 4 ep i=some (ix,[.int .i64 x.limit, .row () e1, .row () e2, .bool x.lists]):=by rw[hix,he1,he2];exact F.get hi hep hl' (fun _=>rfl) (by decide)
    have k3:=fun r a c d=>Ek x cur (by omega) (by omega) z2 (f0:= .sp 0 1) (f1:= .sp 0 2) (f2:= .sp 1 0) (f3:= .nl) rfl rfl rfl rfl _ rfl r a c d
    rw[←he1,←he2,←z3,show row ab cur.exts=[] by rw[z4.1];rfl] at k3
    cases hok:fS x cur with
    | true=>
     have hV:pbV x cur=⟨cur.versions,sel (bv x.strips) idE cur.exts⟩:=by rw[pbV,hok];rfl
     by_cases hn:sel (bv x.strips) idE cur.exts=[]
     ·have c3:o 173 [aG x.limit e1 e2 x.lists (.sp 0 1) (.sp 0 2),aa ev [] (.sp 1 0) .nl]=some ⟨[aa ev [] (.ow false) .nl,B true],[],none⟩:=by
       rw[ho];exact k3 _ (fun _ q=>absurd hn q) (fun _ _=>rfl) (fun q=>by rw[hok] at q;cases q)
      cbv;rw[F.lt_t hi lp (by simp[hl'])];cbv
      rw[p0];cbv;rw[c3];cbv;rw[nf];cbv;refine ih (suf,pre++[x],add .i64 i 1,pbV x cur,ev,none,some ()) ⟨hi',hl2,?_,lP z2,?_,?_⟩ (by simp)
      ·simp only;rw[←z1,dU,hok,if_pos rfl]
      ·simp only;rw[hV,z3]
      ·simp only;rw[hV];exact ⟨hn,by simp⟩
     ·obtain ⟨nx,hnx⟩:=nm (row ab (sel (bv x.strips) idE cur.exts))
      have c3:o 173 [aG x.limit e1 e2 x.lists (.sp 0 1) (.sp 0 2),aa ev [] (.sp 1 0) .nl]=some ⟨[aa ev nx (.ow false) (.ow false),B true],[],none⟩:=by
       rw[ho,hnx];exact k3 _ (fun _ _=>rfl) (fun _ q=>absurd q hn) (fun q=>by rw[hok] at q;cases q)
      cbv;rw[F.lt_t hi lp (by simp[hl'])];cbv
      rw[p0];cbv;rw[c3];cbv;rw[nf];cbv;refine ih (suf,pre++[x],add .i64 i 1,pbV x cur,ev,some nx,some ()) ⟨hi',hl2,?_,lP z2,?_,?_⟩ (by simp)
      ·simp only;rw[←z1,dU,hok,if_pos rfl]
      ·simp only;rw[hV,z3]
      ·simp only;rw[hV,hnx];exact ⟨rfl, .inr hn⟩
    | false=>
     have c3:o 173 [aG x.limit e1 e2 x.lists (.sp 0 1) (.sp 0 2),aa ev [] (.sp 1 0) .nl]=some ⟨[aa [] [] .nl .nl,B false],[],none⟩:=by
      rw[ho];exact k3 _ (fun q=>by rw[hok] at q;cases q) (fun q=>by rw[hok] at q;cases q) (fun _=>rfl)
     cbv;rw[F.lt_t hi lp (by simp[hl'])];cbv
     rw[p0];cbv;rw[c3];cbv;rw[nt];cbv;rw[hQ1];cbv;rw[hQ];cbv;exact congrArg some (rC (by rw[←z1,dU,hok];rfl))
 | some ex=>
  rcases j with _ | _
  all_goals
   cases suf with
   | nil=>
    cbv;rw[F.lt_f hi lp (by simp[hl'])];cbv
    rw[hQ1];cbv;rw[hQ];cbv;have hpp:path=pre:=by rw[hl',List.append_nil]
    rw[z3,z4.1];exact congrArg some (rA cur (by rw[hpp];exact z4.2) (by rw[←z1];rfl))
   | cons x suf=>
    obtain ⟨ix,hix⟩:=nm (pre.length * 4)
    obtain ⟨e1,he1⟩:=nm (row fI x.drops)
    obtain ⟨e2,he2⟩:=nm (row fI x.strips)
    have hx:=pm x (by rw[hl'];simp)
    unfold Box.Mid at hx;have hi':At (add .i64 i 1) (pre++[x]).length:=ao (F.inc hi (by rw[hl'] at pl;simp at pl;omega)) (by simp)
    have hl2:path=(pre++[x])++suf:=by rw[hl'];simp
    have p0:at' 4 ep i=some (ix,[.int .i64 x.limit, .row () e1, .row () e2, .bool x.lists]):=by rw[hix,he1,he2];exact F.get hi hep hl' (fun _=>rfl) (by decide)
    have k3:=fun r a c d=>Ek x cur (by omega) (by omega) z2 (f0:= .sp 0 1) (f1:= .sp 0 2) (f2:= .sp 1 0) (f3:= .sp 1 1) rfl rfl rfl rfl _ rfl r a c d
    rw[←he1,←he2,←z3,←z4.1] at k3;cases hok:fS x cur with
    | true=>
     have hV:pbV x cur=⟨cur.versions,sel (bv x.strips) idE cur.exts⟩:=by rw[pbV,hok];rfl
     by_cases hn:sel (bv x.strips) idE cur.exts=[]
     ·have c3:o 173 [aG x.limit e1 e2 x.lists (.sp 0 1) (.sp 0 2),aa ev ex (.sp 1 0) (.sp 1 1)]=some ⟨[aa ev [] (.ow false) .nl,B true],[],none⟩:=by
       rw[ho];exact k3 _ (fun _ q=>absurd hn q) (fun _ _=>rfl) (fun q=>by rw[hok] at q;cases q)
      cbv;rw[F.lt_t hi lp (by simp[hl'])];cbv
      rw[p0];cbv;rw[c3];cbv;rw[nf];cbv;refine ih (suf,pre++[x],add .i64 i 1,pbV x cur,ev,none,some ()) ⟨hi',hl2,?_,lP z2,?_,?_⟩ (by simp)
      ·simp only;rw[←z1,dU,hok,if_pos rfl]
      ·simp only;rw[hV,z3]
      ·simp only;rw[hV];exact ⟨hn,by simp⟩
     ·obtain ⟨nx,hnx⟩:=nm (row ab (sel (bv x.strips) idE cur.exts))
      have c3:o 173 [aG x.limit e1 e2 x.lists (.sp 0 1) (.sp 0 2),aa ev ex (.sp 1 0) (.sp 1 1)]=some ⟨[aa ev nx (.ow false) (.ow false),B true],[],none⟩:=by
       rw[ho,hnx];exact k3 _ (fun _ _=>rfl) (fun _ q=>absurd q hn) (fun q=>by rw[hok] at q;cases q)
      cbv;rw[F.lt_t hi lp (by simp[hl'])];cbv
      rw[p0];cbv;rw[c3];cbv;rw[nf];cbv;refine ih (suf,pre++[x],add .i64 i 1,pbV x cur,ev,some nx,some ()) ⟨hi',hl2,?_,lP z2,?_,?_⟩ (by simp)
      ·simp only;rw[←z1,dU,hok,if_pos rfl]
      ·simp only;rw[hV,z3]
      ·simp only;rw[hV,hnx];exact ⟨rfl, .inr hn⟩
    | false=>
     have c3:o 173 [aG x.limit e1 e2 x.lists (.sp 0 1) (.sp 0 2),aa ev ex (.sp 1 0) (.sp 1 1)]=some ⟨[aa [] [] .nl .nl,B false],[],none⟩:=by
      rw[ho];exact k3 _ (fun q=>by rw[hok] at q;cases q) (fun q=>by rw[hok] at q;cases q) (fun _=>rfl)
     cbv;rw[F.lt_t hi lp (by simp[hl'])];cbv
     rw[p0];cbv;rw[c3];cbv;rw[nt];cbv;rw[hQ1];cbv;rw[hQ];cbv;exact congrArg some (rC (by rw[←z1,dU,hok];rfl))
theorem yw (path:List Box) (h:Hello) (pl:path.length≤1073741824) (pm:∀ y∈path,y.Mid) (mh:h.Mid) {f0 f1 f2:Fl} (q0:ac f0=true) (q1:ac f1=true) (q2:ac f2=true):
  fix Tb md 196 [R (row ar path) f0,aa (row fI h.versions) (row ab h.exts) f1 f2]=some ⟨[aa (row fI (ppV path h).versions) (row ab (ppV path h).exts) (.ow false) (.ow false),B (dZ path h)],[],none⟩∨
  ((ppV path h).exts=[]∧fix Tb md 196 [R (row ar path) f0,aa (row fI h.versions) (row ab h.exts) f1 f2]=some ⟨[aa (row fI (ppV path h).versions) [] (.ow false) .nl,B (dZ path h)],[],none⟩)∨
  ((ppV path h).versions=[]∧(ppV path h).exts=[]∧fix Tb md 196 [R (row ar path) f0,aa (row fI h.versions) (row ab h.exts) f1 f2]=some ⟨[aa [] [] .nl .nl,B (dZ path h)],[],none⟩):=by
 have hmain:=fun r a b c=>HB path h pl pm mh q0 q1 q2 r a b c
 unfold ppV dZ;rcases hq:pp path h with ⟨z,k⟩
 rcases yF path h with h1 | h1
 ·rw[hq] at h1;simp only at h1;subst h1;by_cases hz:z.exts=[]∧path≠[]
  ·refine .inr (.inl ⟨hz.1,hmain _ (fun z' q1 q=>?_) (fun z' q1 q=>by rw[hq] at q;cases q;rfl) (fun q=>by rw[hq] at q;cases q)⟩)
   rw[hq] at q;cases q
   rcases q1 with q1 | q1
   ·exact absurd q1 hz.2
   ·exact absurd hz.1 q1
  ·refine .inl (hmain _ (fun z' _ q=>by rw[hq] at q;cases q;rfl) (fun z' q1 q=>?_) (fun q=>by rw[hq] at q;cases q))
   rw[hq] at q;cases q
   exact absurd q1 hz
 ·rw[hq] at h1;cases h1
  exact .inr (.inr ⟨rfl,rfl,hmain _ (fun z' _ q=>by rw[hq] at q;cases q) (fun z' _ q=>by rw[hq] at q;cases q) (fun _=>rfl)⟩)
end Go.Vm
