/- What the functions answer. -/
import Derived.Test.YtfidmkhcipcnmaaGreatGDTab
import Derived.Test.YtfidmkhcipcnmaaGreatGDFA
import Derived.Test.YtfidmkhcipcnmaaGreatGDFB
import Derived.Test.YtfidmkhcipcnmaaGreatGDFD
import Derived.Test.YtfidmkhcipcnmaaGreatGDFF
import Derived.Test.YtfidmkhcipcnmaaGreatGDFN
set_option maxHeartbeats 4000000
set_option maxRecDepth 10000
set_option linter.unusedVariables false
set_option linter.unusedSimpArgs false
namespace Go.Vm
theorem GF (path:List Box) (versions:List Int) (pl:path.length≤1073741824) (pm:∀ y∈path,y.Mid) (hv:versions.length≤1073741824) {f0 f1:Fl} (q0:ac f0=true) (q1:ac f1=true):fix Tb md 170 [R (row ar path) f0,R (row fI versions) f1]=some ⟨[R (row fI (lvs path versions)) (.ow false)],[],none⟩:=by
 obtain ⟨u,hu⟩:=nm (aK versions)
 obtain ⟨l,hl0⟩:=nm (versions)
 obtain ⟨et,het⟩:=nm (row fI (lvs path versions))
 rw[←het];have hT:et=row fI (if u=true then sel (fu path) idI l else []):=by rw[het,hu,hl0];rfl
 clear het;generalize hr:(⟨_,[],none⟩:Ret)=r
 obtain ⟨ep,hep⟩:=nm (row ar path)
 obtain ⟨ev,hev⟩:=nm (row fI versions)
 rw[←hep,←hev];rw[←hl0] at hv hev hu;have mem:∀ x∈l,u=true→iop path [x]=dZ path ⟨[x],[]⟩:=fun x hx h=>Fn (by rw[←hu];exact h) hx
 refine cJ (fn:=ir170) tb_170 rfl rfl (by decide) rfl ?_;intro Q hQ;simp only[aj,aV,List.map_cons,List.map_nil,ir170,ai q0,ai q1,List.head?_nil,reduceCtorEq,if_false,cb,aa,ae,bp,al,aG,af,aH]
 intro add sub mul arith eq ne lt le gt ge neg conv mn mx not beq len at' ln bd cut app allS isNil mks set o hP F ho;have lv:=F.len_at hev;have c1:o 257 [R ev (.sp 0 0)]=some ⟨[B u],[],none⟩:=by rw[ho,hu,hev];exact tV _ (by omega) rfl
 cbv;refine ah hP (σ:=List Int×List Int×List (List V)×Int) (fun s=>[(0,R ep .sh),(1,R ev .sh),(4,R [] .nl),(5,R s.2.2.1 (.ow false)),(6,I s.2.2.2)]) (fun s=>At s.2.2.2 s.2.1.length∧l=s.2.1++s.1∧s.2.2.1=row fI (sel (fu path) idI s.2.1)∧(s.2.1≠[]→u=true)) (fun s=>s.1.length) (l,[],[],0) rfl ⟨rfl,rfl,rfl,by simp⟩ ?_
 intro c9 Q1 hc9 hQ1;rintro ⟨suf,pre,eo,i⟩ ⟨hi,hl',hb,hu1⟩ ih
 simp only at hi hl' hb hu1 ih;cbv;cases suf with
 | nil=>
  have hpp:l=pre:=by rw[hl',List.append_nil]
  rw[F.lt_f hi lv (by simp[hl'])];cbv
  rw[hQ1];cbv;rw[hQ];cbv;rw[←hr,hT,hb,hpp];by_cases hn:pre=[]
  ·rw[hn];split<;>rfl
  ·rw[if_pos (hu1 hn)]
 | cons x suf=>
  rw[F.lt_t hi lv (by simp[hl'])];cbv
  rw[c1];cbv;refine both (fun d1=>?_) (fun d1=>?_)<;>rw[d1]<;>cbv
  ·have hx:x∈l:=by rw[hl'];simp
   obtain ⟨w,hw⟩:=nm (dZ path ⟨[x],[]⟩)
   obtain ⟨n,hn⟩:=nm (pre.length)
   obtain ⟨n1,hn1⟩:=nm (pre.length+1)
   obtain ⟨e1,he1⟩:=nm (row fI [x])
   have hpl:pre.length≤1073741824:=by rw[hl'] at hv;simp at hv;omega
   have hi1:At (add .i64 i 1) n1:=by rw[hn1];exact F.inc hi (by omega)
   have b1:bd (ln ev) (add .i64 i 1)=some n1:=by rw[F.ln' hev];exact F.bd' hi1 (by rw[hl',hn1];simp)
   have b2:bd n1 i=some n:=by rw[hn];exact F.bd' hi (by omega)
   have b3:cut 1 ev n1 n=some e1:=by
    rw[F.cut' hev (fun _=>rfl),he1,hl',hn,hn1]
    congr 2
    rw[List.drop_take,show pre.length+1 - pre.length=1 by omega,List.drop_left];rfl
   have c2:o 166 [R ep (.sp 0 0),R e1 (.sp 1 0)]=some ⟨[B w],[],none⟩:=by
    rw[ho,hw,←mem x hx d1,hep,he1];exact Eg path [x] pl pm (by simp) rfl rfl
   obtain ⟨ix,hix⟩:=nm (pre.length * 1)
   have p0:at' 1 ev i=some (ix,[.int .i64 x]):=by rw[hix];exact F.get hi hev hl' (fun _=>rfl) (by decide)
   have hi':At (add .i64 i 1) (pre++[x]).length:=ao (F.inc hi (by omega)) (by simp)
   have hl2:l=(pre++[x])++suf:=by rw[hl'];simp
   have hs:(sel (fu path) idI pre).length≤pre.length:=aI;have hPx:fu path x= !w:=by rw[hw];rfl
   rw[b1];cbv;rw[b2];cbv;rw[b3];cbv;rw[c2];cbv;refine both (fun d2=>?_) (fun d2=>?_)<;>rw[d2]<;>cbv
   ·rw[p0];cbv;rw[show allS [[.int .i64 x]]=true by rw[F.allS];rfl];cbv
    obtain ⟨eo',heo'⟩:=nm (row fI (sel (fu path) idI pre++[idI x]))
    rw[show app 1 eo [[.int .i64 x]]=some eo' by rw[heo'];exact F.push (k:=1) (f:=fI) (l:=sel (fu path) idI pre) (x:=idI x) hb (fun _=>rfl) rfl (by omega)];cbv
    refine ih (suf,pre++[x],eo',add .i64 i 1) ⟨hi',hl2,?_,fun _=>d1⟩ (by simp)
    simp only;rw[dz (by rw[hPx,F.not_t d2];rfl)];exact heo'
   ·refine ih (suf,pre++[x],eo,add .i64 i 1) ⟨hi',hl2,?_,fun _=>d1⟩ (by simp)
    simp only;rw[d6 (by rw[hPx,F.not_f d2];rfl)];exact hb
  ·rw[hQ1];cbv;rw[hQ];cbv;rw[←hr,hT,hb,d1];by_cases hn:pre=[]
   ·rw[hn];rfl
   ·rw[hu1 hn] at d1;cases d1
end Go.Vm
