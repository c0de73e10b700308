/- What the functions answer. -/
import Derived.Test.YtfidmkhcipcnmaaGreatGDTab
import Derived.Test.YtfidmkhcipcnmaaGreatGDFA
import Derived.Test.YtfidmkhcipcnmaaGreatGDFB
import Derived.Test.YtfidmkhcipcnmaaGreatGDFC
import Derived.Test.YtfidmkhcipcnmaaGreatGDFD
import Derived.Test.YtfidmkhcipcnmaaGreatGDFF
import Derived.Test.YtfidmkhcipcnmaaGreatGDFL
import Derived.Test.YtfidmkhcipcnmaaGreatGDFN
set_option maxHeartbeats 4000000
set_option maxRecDepth 10000
set_option linter.unusedVariables false
set_option linter.unusedSimpArgs false
namespace Go.Vm
theorem GH (path:List Box) (versions:List Int) (exts:List Ext) (pl:path.length≤1073741824) (pm:∀ y∈path,y.Mid) (hv:versions.length≤1073741824) (hxl:exts.length≤1073741824) (xm:∀ y∈exts,y.body.length≤1073741824) {f0 f1 f2:Fl} (q0:ac f0=true) (q1:ac f1=true) (q2:ac f2=true):fix Tb md 198 [R (row ar path) f0,R (row fI versions) f1,R (row ab exts) f2]=some ⟨[R (row fI (dR path versions exts)) (.ow false)],[],none⟩:=by
 obtain ⟨u,hu⟩:=nm (bI exts)
 obtain ⟨w0,hw0⟩:=nm (iop path versions)
 obtain ⟨l,hl0⟩:=nm (exts)
 obtain ⟨et,het⟩:=nm (row fI (dR path versions exts))
 rw[←het];have hT:et=row fI (if (u&&w0)=true then sel (ft path versions) Ext.tag l else []):=by rw[het,hu,hw0,hl0];rfl
 clear het;generalize hr:(⟨_,[],none⟩:Ret)=r
 obtain ⟨ep,hep⟩:=nm (row ar path)
 obtain ⟨ev,hev⟩:=nm (row fI versions)
 obtain ⟨ex,hex⟩:=nm (row ab exts)
 rw[←hep,←hev,←hex];rw[←hl0] at hxl xm hex hu;have hne:w0=true→1≤versions.length:=fun h=>by
  rw[hw0] at h;unfold iop aK at h;simp only[Bool.and_eq_true,decide_eq_true_eq] at h;exact h.1.2
 obtain ⟨e1,he1⟩:=nm (row fI (versions.take 1))
 refine cJ (fn:=ir198) tb_198 rfl rfl (by decide) rfl ?_;intro Q hQ;simp only[aj,aV,List.map_cons,List.map_nil,ir198,ai q0,ai q1,ai q2,List.head?_nil,reduceCtorEq,if_false,cb,aa,ae,bp,al,aG,af,aH]
 intro add sub mul arith eq ne lt le gt ge neg conv mn mx not beq len at' ln bd cut app allS isNil mks set o hP F ho;have lx:=F.len_at hex;have c1:o 271 [R ex (.sp 0 0)]=some ⟨[B u],[],none⟩:=by rw[ho,hu,hex];exact vA _ (by omega) (fun y hy=>Nat.le_trans (xm y hy) (by decide)) rfl
 have c2:o 166 [R ep (.sp 0 0),R ev (.sp 1 0)]=some ⟨[B w0],[],none⟩:=by rw[ho,hw0,hep,hev];exact Eg path versions pl pm hv rfl rfl
 obtain ⟨one,hone⟩:=nm (1)
 have b1:w0=true→bd (ln ev) 1=some one:=fun h=>by rw[F.ln' hev,hone];exact F.bd' (show At 1 1 from rfl) (hne h)
 have b2:cut 1 ev one 0=some e1:=by rw[F.cut' hev (fun _=>rfl),he1,hone];rfl
 have c3:o 75 [R e1 (.sp 0 0)]=some ⟨[aa e1 [] (.ow false) .nl],[],none⟩:=by rw[ho,he1];exact HR _ (by simp;omega) rfl
 cbv;rw[c1];cbv;refine both (fun d1=>?_) (fun d1=>?_)<;>rw[d1]<;>cbv
 ·rw[hQ];cbv;rw[←hr,hT,F.not_t d1];rfl
 rw[c2];cbv;refine both (fun d2=>?_) (fun d2=>?_)<;>rw[d2]<;>cbv
 ·rw[hQ];cbv;rw[←hr,hT,F.not_t d2,Bool.and_false];rfl
 have hT':et=row fI (sel (ft path versions) Ext.tag l):=by rw[hT,F.not_f d1,F.not_f d2];rfl
 have b1':=b1 (F.not_f d2);refine ah hP (σ:=List Ext×List Ext×List (List V)×Int×Option (Bool×List (List V)×Option (List (List V)×Option (List (List V))))) (fun s=>match s.2.2.2.2 with
  | none=>[(0,R ep .sh),(1,R ev .sh),(2,R ex .sh),(6,R [] .nl),(7,R s.2.2.1 (.ow false)),(8,I s.2.2.2.1)]
  | some (b,e,none)=>[(0,R ep .sh),(1,R ev .sh),(2,R ex .sh),(6,R [] .nl),(7,R s.2.2.1 (.ow false)),(8,I s.2.2.2.1),(9,⟨.ptr 72 0,[]⟩),(10,⟨.ptr 73 0,[]⟩),(11,B b),(72,⟨.box (),[⟨.row () e1, .ow false⟩,⟨.row () e, .sh⟩]⟩),(73,⟨.box (),[⟨.row () [], .nl⟩,⟨.row () [], .nl⟩]⟩)]
  | some (b,e,some (V,none))=>[(0,R ep .sh),(1,R ev .sh),(2,R ex .sh),(6,R [] .nl),(7,R s.2.2.1 (.ow false)),(8,I s.2.2.2.1),(9,⟨.ptr 72 0,[]⟩),(10,⟨.ptr 73 0,[]⟩),(11,B b),(72,⟨.box (),[⟨.row () e1, .ow false⟩,⟨.row () e, .sh⟩]⟩),(73,⟨.box (),[⟨.row () V, .ow false⟩,⟨.row () [], .nl⟩]⟩)]
  | some (b,e,some (V,some X))=>[(0,R ep .sh),(1,R ev .sh),(2,R ex .sh),(6,R [] .nl),(7,R s.2.2.1 (.ow false)),(8,I s.2.2.2.1),(9,⟨.ptr 72 0,[]⟩),(10,⟨.ptr 73 0,[]⟩),(11,B b),(72,⟨.box (),[⟨.row () e1, .ow false⟩,⟨.row () e, .sh⟩]⟩),(73,⟨.box (),[⟨.row () V, .ow false⟩,⟨.row () X, .ow false⟩]⟩)])
  (fun s=>At s.2.2.2.1 s.2.1.length∧l=s.2.1++s.1∧s.2.2.1=row fI (sel (ft path versions) Ext.tag s.2.1)) (fun s=>s.1.length) (l,[],[],0,none) rfl ⟨rfl,rfl,rfl⟩ ?_
 intro c9 Q1 hc9 hQ1;rintro ⟨suf,pre,eo,i,j⟩ ⟨hi,hl',hb⟩ ih
 simp only at hi hl' hb ih;rcases j with _ | ⟨jb,je,_ | ⟨jV,_ | jX⟩⟩
 all_goals
  cbv;cases suf with
  | nil=>
   have hpp:l=pre:=by rw[hl',List.append_nil]
   rw[F.lt_f hi lx (by simp[hl'])];cbv
   rw[hQ1];cbv;rw[hQ];cbv;rw[←hr,hT',hb,hpp]
  | cons x suf=>
   have hm:(⟨versions.take 1,[x]⟩:Hello).Mid:=⟨by simp;omega,by simp,by intro y hy;simp at hy;subst hy;exact xm y (by rw[hl'];simp)⟩
   have hvm:(ppV path ⟨versions.take 1,[x]⟩).Mid:=iq hm;unfold Hello.Mid at hvm;have hk:=yw path ⟨versions.take 1,[x]⟩ pl pm hm (f0:= .sp 0 0) (f1:= .sp 1 0) (f2:= .sp 1 1) rfl rfl rfl;obtain ⟨w,hw⟩:=nm (dZ path ⟨versions.take 1,[x]⟩)
   obtain ⟨V1,hV1⟩:=nm (row fI (ppV path ⟨versions.take 1,[x]⟩).versions)
   obtain ⟨X1,hX1⟩:=nm (row ab (ppV path ⟨versions.take 1,[x]⟩).exts)
   obtain ⟨x1,hx1⟩:=nm (row ab [x])
   obtain ⟨v,hv_⟩:=nm (decide ((ppV path ⟨versions.take 1,[x]⟩).exts=[x]))
   have hPx:ft path versions x= !(w&&v):=by rw[hw,hv_];unfold ft;rw[FZ]
   rw[←hep,←hw,←hV1,←hX1,←he1,←hx1] at hk;have k5:∀ {ff:Fl},ac ff=true→o 272 [R X1 ff,R x1 (.sp 1 0)]=some ⟨[B v],[],none⟩:=fun {ff} hf=>by
    rw[ho,hv_,hX1,hx1];exact GQ _ _ (by omega) (fun y hy=>Nat.le_trans (show y.body.length≤1073741824 from hvm.2.2 y hy) (by decide)) hf rfl
   obtain ⟨n,hn⟩:=nm (pre.length)
   obtain ⟨n1,hn1⟩:=nm (pre.length+1)
   have hpl:pre.length≤1073741824:=by rw[hl'] at hxl;simp at hxl;omega
   have hi1:At (add .i64 i 1) n1:=by rw[hn1];exact F.inc hi (by omega)
   have b3:bd (ln ex) (add .i64 i 1)=some n1:=by rw[F.ln' hex];exact F.bd' hi1 (by rw[hl',hn1];simp)
   have b4:bd n1 i=some n:=by rw[hn];exact F.bd' hi (by omega)
   have b5:cut 2 ex n1 n=some x1:=by
    rw[F.cut' hex (fun _=>rfl),hx1,hl',hn,hn1]
    congr 2
    rw[List.drop_take,show pre.length+1 - pre.length=1 by omega,List.drop_left];rfl
   obtain ⟨ix,hix⟩:=nm (pre.length * 2)
   obtain ⟨eb,heb⟩:=nm (row fI x.body)
   have p0:at' 2 ex i=some (ix,[.int .i64 x.tag, .row () eb]):=by rw[hix,heb];exact F.get hi hex hl' (fun _=>rfl) (by decide)
   have hi':At (add .i64 i 1) (pre++[x]).length:=ao (F.inc hi (by omega)) (by simp)
   have hl2:l=(pre++[x])++suf:=by rw[hl'];simp
   have hs:(sel (ft path versions) Ext.tag pre).length≤pre.length:=aI;obtain ⟨eo',heo'⟩:=nm (row fI (sel (ft path versions) Ext.tag pre++[x.tag]))
   have p1:app 1 eo [[.int .i64 x.tag]]=some eo':=by rw[heo'];exact F.push (k:=1) (f:=fI) (l:=sel (ft path versions) Ext.tag pre) (x:=x.tag) hb (fun _=>rfl) rfl (by omega)
   have p2:allS [[.int .i64 x.tag]]=true:=by rw[F.allS];rfl
   rw[F.lt_t hi lx (by simp[hl'])];cbv
   rw[b1'];cbv;rw[b2];cbv;rw[c3];cbv;rw[b3];cbv;rw[b4];cbv;rw[b5];cbv;rcases hk with hk | ⟨m1,hk⟩ | ⟨m1,m2,hk⟩
   ·have c5:o 196 [R ep (.sp 0 0),aa e1 x1 (.sp 1 0) (.sp 1 1)]=some ⟨[aa V1 X1 (.ow false) (.ow false),B w],[],none⟩:=by rw[ho];exact hk
    have c6:=k5 (ff:= .sp 0 0) rfl;rw[c5];cbv;refine both (fun d3=>?_) (fun d3=>?_)<;>rw[d3]<;>cbv
    ·rw[p0];cbv;rw[p2];cbv;rw[p1];cbv;refine ih (suf,pre++[x],eo',add .i64 i 1,some (w,x1,some (V1,some X1))) ⟨hi',hl2,?_⟩ (by simp)
     simp only;rw[dz (by rw[hPx,F.not_t d3];rfl)];exact heo'
    ·rw[c6];cbv;refine both (fun d4=>?_) (fun d4=>?_)<;>rw[d4]<;>cbv
     ·rw[p0];cbv;rw[p2];cbv;rw[p1];cbv;refine ih (suf,pre++[x],eo',add .i64 i 1,some (w,x1,some (V1,some X1))) ⟨hi',hl2,?_⟩ (by simp)
      simp only;rw[dz (by rw[hPx,F.not_f d3,F.not_t d4];rfl)];exact heo'
     ·refine ih (suf,pre++[x],eo,add .i64 i 1,some (w,x1,some (V1,some X1))) ⟨hi',hl2,?_⟩ (by simp)
      simp only;rw[d6 (by rw[hPx,F.not_f d3,F.not_f d4];rfl)];exact hb
   ·have c5:o 196 [R ep (.sp 0 0),aa e1 x1 (.sp 1 0) (.sp 1 1)]=some ⟨[aa V1 [] (.ow false) .nl,B w],[],none⟩:=by rw[ho];exact hk
    have c6:=k5 (ff:= .nl) rfl;rw[show X1=[] by rw[hX1,m1];rfl] at c6
    rw[c5];cbv;refine both (fun d3=>?_) (fun d3=>?_)<;>rw[d3]<;>cbv
    ·rw[p0];cbv;rw[p2];cbv;rw[p1];cbv;refine ih (suf,pre++[x],eo',add .i64 i 1,some (w,x1,some (V1,none))) ⟨hi',hl2,?_⟩ (by simp)
     simp only;rw[dz (by rw[hPx,F.not_t d3];rfl)];exact heo'
    ·rw[c6];cbv;refine both (fun d4=>?_) (fun d4=>?_)<;>rw[d4]<;>cbv
     ·rw[p0];cbv;rw[p2];cbv;rw[p1];cbv;refine ih (suf,pre++[x],eo',add .i64 i 1,some (w,x1,some (V1,none))) ⟨hi',hl2,?_⟩ (by simp)
      simp only;rw[dz (by rw[hPx,F.not_f d3,F.not_t d4];rfl)];exact heo'
     ·refine ih (suf,pre++[x],eo,add .i64 i 1,some (w,x1,some (V1,none))) ⟨hi',hl2,?_⟩ (by simp)
      simp only;rw[d6 (by rw[hPx,F.not_f d3,F.not_f d4];rfl)];exact hb
   ·have c5:o 196 [R ep (.sp 0 0),aa e1 x1 (.sp 1 0) (.sp 1 1)]=some ⟨[aa [] [] .nl .nl,B w],[],none⟩:=by rw[ho];exact hk
    have c6:=k5 (ff:= .nl) rfl;rw[show X1=[] by rw[hX1,m2];rfl] at c6
    rw[c5];cbv;refine both (fun d3=>?_) (fun d3=>?_)<;>rw[d3]<;>cbv
    ·rw[p0];cbv;rw[p2];cbv;rw[p1];cbv;refine ih (suf,pre++[x],eo',add .i64 i 1,some (w,x1,none)) ⟨hi',hl2,?_⟩ (by simp)
     simp only;rw[dz (by rw[hPx,F.not_t d3];rfl)];exact heo'
    ·rw[c6];cbv;refine both (fun d4=>?_) (fun d4=>?_)<;>rw[d4]<;>cbv
     ·rw[p0];cbv;rw[p2];cbv;rw[p1];cbv;refine ih (suf,pre++[x],eo',add .i64 i 1,some (w,x1,none)) ⟨hi',hl2,?_⟩ (by simp)
      simp only;rw[dz (by rw[hPx,F.not_f d3,F.not_t d4];rfl)];exact heo'
     ·refine ih (suf,pre++[x],eo,add .i64 i 1,some (w,x1,none)) ⟨hi',hl2,?_⟩ (by simp)
      simp only;rw[d6 (by rw[hPx,F.not_f d3,F.not_f d4];rfl)];exact hb
end Go.Vm
