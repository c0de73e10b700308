/- What the functions answer. -/
import Derived.Test.YtfidmkhcipcnmaaGreatGDTab
import Derived.Test.YtfidmkhcipcnmaaGreatGDFA
import Derived.Test.YtfidmkhcipcnmaaGreatGDFB
import Derived.Test.YtfidmkhcipcnmaaGreatGDFD
import Derived.Test.YtfidmkhcipcnmaaGreatGDFH
set_option maxHeartbeats 4000000
set_option maxRecDepth 10000
set_option linter.unusedVariables false
set_option linter.unusedSimpArgs false
namespace Go.Vm
def iI (e:Ext):Bool:= !kD e.tag
theorem Ju (l:List Ext) (hl:l.length≤1073741824) (w:∀ y∈l,y.body.length≤1099511627776) {f0:Fl} (h0:ac f0=true):fix Tb md 306 [R (row ab l) f0]=some ⟨[R (row ab (sel iI idE l)) (.ow false)],[],none⟩:=by
 obtain ⟨et,het⟩:=nm (row ab (sel iI idE l))
 rw[←het];generalize hr:(⟨_,[],none⟩:Ret)=r
 obtain ⟨ea,hea⟩:=nm (row ab l)
 rw[←hea];refine cJ (fn:=ir306) tb_306 rfl rfl (by decide) rfl ?_;intro Q hQ;simp only[aj,aV,List.map_cons,List.map_nil,ir306,ai h0,List.head?_nil,reduceCtorEq,if_false,cb,aa,ae,bp,al,aG,af,aH]
 intro add sub mul arith eq ne lt le gt ge neg conv mn mx not beq len at' ln bd cut app allS isNil mks set o hP F ho;have la:=F.len_at hea;cbv;refine ah hP (σ:=List Ext×List Ext×List (List V)×Int) (fun s=>[(0,R ea .sh),(2,R [] .nl),(3,R s.2.2.1 (.ow false)),(4,I s.2.2.2)]) (fun s=>At s.2.2.2 s.2.1.length∧l=s.2.1++s.1∧s.2.2.1=row ab (sel iI idE s.2.1)) (fun s=>s.1.length) (l,[],[],0) rfl ⟨rfl,rfl,rfl⟩ ?_
 intro c1 Q1 hc1 hQ1;rintro ⟨suf,pre,eo,i⟩ ⟨hi,hl',hb⟩ ih
 simp only at hi hl' hb ih;cbv;cases suf with
 | nil=>
  rw[F.lt_f hi la (by simp[hl'])];cbv
  rw[hQ1];cbv;rw[hQ];cbv;rw[←hr,het,hb,hl',List.append_nil]
 | cons x suf=>
  obtain ⟨ix,hix⟩:=nm (pre.length * 2)
  have hpre:pre.length≤1073741824:=by rw[hl'] at hl;simp at hl;omega
  have hs:(sel iI idE pre).length≤pre.length:=aI;have hi':At (add .i64 i 1) (pre++[x]).length:=ao (F.inc hi (by omega)) (by simp)
  have hl2:l=(pre++[x])++suf:=by rw[hl'];simp
  have hmem:x∈l:=by rw[hl'];simp
  obtain ⟨e1,he1⟩:=nm (row fI x.body)
  have hx:=w x hmem;have p0:at' 2 ea i=some (ix,[.int .i64 x.tag, .row () e1]):=by rw[hix,he1];exact F.get hi hea hl' (fun _=>rfl) (by decide)
  obtain ⟨v,hv⟩:=nm (kD x.tag)
  have hP:iI x= !v:=by rw[hv];rfl
  have c2:o 301 [I x.tag]=some ⟨[B v],[],none⟩:=by rw[ho,hv];exact GX ..
  rw[F.lt_t hi la (by simp[hl'])];cbv
  rw[p0];cbv;rw[c2];cbv;refine both (fun d=>?_) (fun d=>?_)<;>rw[d]<;>cbv
  ·rw[p0];cbv;rw[p0];cbv;rw[show allS e1=true from F.scal he1 (fun _=>rfl)];cbv
   rw[F.app_nil he1 (fun _=>rfl) hx];cbv
   rw[show allS [[.int .i64 x.tag, .row () e1]]=false by rw[F.allS];rfl];cbv
   obtain ⟨eo',heo'⟩:=nm (row ab (sel iI idE pre++[idE x]))
   rw[show app 2 eo [[.int .i64 x.tag, .row () e1]]=some eo' by rw[heo',he1];exact F.push hb (fun _=>rfl) rfl (by omega)];cbv
   refine ih (suf,pre++[x],eo',add .i64 i 1) ⟨hi',hl2,by simp only;rw[heo',dz (by rw[hP,F.not_t d];rfl)]⟩ (by simp)
  ·refine ih (suf,pre++[x],eo,add .i64 i 1) ⟨hi',hl2,by simp only;rw[hb,d6 (by rw[hP,F.not_f d];rfl)]⟩ (by simp)
def fO (vs:List Int) (h:Hello):Bool:=aC h&& !decide (fM vs h.versions=0)
def caX (tg:List Int) (l:List Ext):List Ext:=sel iI idE (sel (kW tg) idE l)
def caV (vs tg:List Int) (h:Hello):Answer:=if fO vs h then ⟨fM vs h.versions,caX tg h.exts⟩ else ⟨0,[]⟩
theorem lh {vs tg:List Int} {h:Hello} (m:h.Mid):(caV vs tg h).Mid:=by
 unfold caV;split
 ·unfold Hello.Mid at m;refine ⟨Nat.le_trans aI (Nat.le_trans aI m.2.1),fun y hy=>m.2.2 y ?_⟩
  simp only[caX,cV] at hy;exact (List.mem_filter.1 (List.mem_filter.1 hy).1).1
 ·exact ⟨by simp,by simp⟩
theorem Ei (vs tg:List Int) (h:Hello) (hv:vs.length≤1073741824) (ht:tg.length≤1073741824) (mh:h.Mid) {f0 f1 f2 f3:Fl} (q0:ac f0=true) (q1:ac f1=true) (q2:ac f2=true) (q3:ac f3=true) (r:Ret)
  (rA':fO vs h=true→(⟨[ae (caV vs tg h).version (row ab (caV vs tg h).exts) (.ow false),B true],[],none⟩:Ret)=r) (rC':fO vs h=false→(⟨[ae 0 [] .nl,B false],[],none⟩:Ret)=r):
  fix Tb md 168 [R (row fI vs) f0,R (row fI tg) f1,aa (row fI h.versions) (row ab h.exts) f2 f3]=some r:=by
 have mh':=mh;unfold Hello.Mid at mh';have hvl:=mh'.1;have hxl:=mh'.2.1;have wh:∀ y∈h.exts,y.body.length≤1099511627776:=fun y hy=>Nat.le_trans (show y.body.length≤1073741824 from mh'.2.2 y hy) (by decide)
 obtain ⟨u,hu⟩:=nm (aC h)
 obtain ⟨n,hn⟩:=nm (fM vs h.versions)
 obtain ⟨K,hK⟩:=nm (sel (kW tg) idE h.exts)
 obtain ⟨Z,hZ⟩:=nm (sel iI idE K)
 have hKl:K.length≤1073741824:=by rw[hK];exact Nat.le_trans aI hxl
 have wK:∀ y∈K,y.body.length≤1099511627776:=fun y hy=>wh y (by rw[hK,cV] at hy;exact (List.mem_filter.1 hy).1)
 have hok:fO vs h=(u&& !decide (n=0)):=by rw[hu,hn];rfl
 have rA:u=true→decide (n=0)=false→(⟨[ae n (row ab Z) (.ow false),B true],[],none⟩:Ret)=r:=fun q1 q2=>by
  have hk:fO vs h=true:=by rw[hok,q1,q2];rfl
  rw[←rA' hk,show caV vs tg h=⟨n,Z⟩ by rw[caV,hk,if_pos rfl,hn,hZ,hK];rfl]
 have rC:u=false∨decide (n=0)=true→(⟨[ae 0 [] .nl,B false],[],none⟩:Ret)=r:=fun q=>rC' (by rcases q with q | q<;>rw[hok,q]<;>simp)
 clear rA' rC' hok;obtain ⟨ev,hev⟩:=nm (row fI vs)
 obtain ⟨et,het⟩:=nm (row fI tg)
 obtain ⟨dv,hdv⟩:=nm (row fI h.versions)
 obtain ⟨dx,hdx⟩:=nm (row ab h.exts)
 rw[←hev,←het,←hdv,←hdx];obtain ⟨ek,hek⟩:=nm (row ab K)
 obtain ⟨ez,hez⟩:=nm (row ab Z)
 rw[←hez] at rA;refine cJ (fn:=ir168) tb_168 rfl rfl (by decide) rfl ?_;intro Q hQ;simp only[aj,aV,List.map_cons,List.map_nil,ir168,ai q0,ai q1,ai q2,ai q3,List.head?_nil,reduceCtorEq,if_false,cb,aa,ae,bp,al,aG,af,aH]
 intro add sub mul arith eq ne lt le gt ge neg conv mn mx not beq len at' ln bd cut app allS isNil mks set o hP F ho;have c1:o 112 [R ev (.sp 0 0),R dv (.sp 1 0)]=some ⟨[I n],[],none⟩:=by rw[ho,hn,hev,hdv];exact Gx _ _ hv hvl rfl rfl
 have c2:o 142 [aa dv dx (.sp 0 0) (.sp 0 1)]=some ⟨[B u],[],none⟩:=by rw[ho,hu,hdv,hdx];exact jW _ (by omega) (by omega) wh rfl rfl
 have c3:o 307 [R dx (.sp 0 0),R et (.sp 1 0)]=some ⟨[R ek (.ow false)],[],none⟩:=by rw[ho,hek,hK,hdx,het];exact GZ _ _ hxl ht wh rfl rfl
 have c4:o 306 [R ek (.sp 0 0)]=some ⟨[R ez (.ow false)],[],none⟩:=by rw[ho,hez,hZ,hek];exact Ju _ hKl wK rfl
 have g1:eq n 0=decide (n=0):=F.eq ..;cbv;rw[c1];cbv;rw[c2];cbv;refine both (fun d1=>?_) (fun d1=>?_)<;>rw[d1]<;>cbv
 ·rw[hQ];cbv;exact congrArg some (rC (.inl (F.not_t d1)))
 refine both (fun d2=>?_) (fun d2=>?_)<;>rw[d2]<;>cbv
 ·rw[hQ];cbv;exact congrArg some (rC (.inr (by rw[←g1,d2])))
 rw[c3];cbv;rw[c4];cbv;rw[hQ];cbv;exact congrArg some (rA (F.not_f d1) (by rw[←g1,d2]))
theorem Ao (vs tg:List Int) (h:Hello) (hv:vs.length≤1073741824) (ht:tg.length≤1073741824) (mh:h.Mid) {f0 f1 f2 f3:Fl} (q0:ac f0=true) (q1:ac f1=true) (q2:ac f2=true) (q3:ac f3=true) (q:fO vs h=true):
  fix Tb md 168 [R (row fI vs) f0,R (row fI tg) f1,aa (row fI h.versions) (row ab h.exts) f2 f3]=some ⟨[ae (caV vs tg h).version (row ab (caV vs tg h).exts) (.ow false),B true],[],none⟩:=
 Ei vs tg h hv ht mh q0 q1 q2 q3 _ (fun _=>rfl) (fun e=>by rw[q] at e;cases e)
theorem Ap (vs tg:List Int) (h:Hello) (hv:vs.length≤1073741824) (ht:tg.length≤1073741824) (mh:h.Mid) {f0 f1 f2 f3:Fl} (q0:ac f0=true) (q1:ac f1=true) (q2:ac f2=true) (q3:ac f3=true) (q:fO vs h=false):
  fix Tb md 168 [R (row fI vs) f0,R (row fI tg) f1,aa (row fI h.versions) (row ab h.exts) f2 f3]=some ⟨[ae 0 [] .nl,B false],[],none⟩:=
 Ei vs tg h hv ht mh q0 q1 q2 q3 _ (fun e=>by rw[q] at e;cases e) (fun _=>rfl)
theorem IW (vs tg:List Int) (h:Hello) (hv:vs.length≤1073741824) (ht:tg.length≤1073741824) (mh:h.Mid) {f0 f1 f2 f3:Fl} (q0:ac f0=true) (q1:ac f1=true) (q2:ac f2=true) (q3:ac f3=true):
  fix Tb md 168 [R (row fI vs) f0,R (row fI tg) f1,aa (row fI h.versions) (row ab h.exts) f2 f3]=some ⟨[ae (caV vs tg h).version (row ab (caV vs tg h).exts) (.ow false),B (fO vs h)],[],none⟩∨
  ((caV vs tg h).exts=[]∧fix Tb md 168 [R (row fI vs) f0,R (row fI tg) f1,aa (row fI h.versions) (row ab h.exts) f2 f3]=some ⟨[ae (caV vs tg h).version [] .nl,B (fO vs h)],[],none⟩):=by
 cases q:fO vs h with
 | true=>exact .inl (Ao vs tg h hv ht mh q0 q1 q2 q3 q)
 | false=>
  rw[show caV vs tg h=⟨0,[]⟩ by rw[caV,q];rfl]
  exact .inr ⟨rfl,Ap vs tg h hv ht mh q0 q1 q2 q3 q⟩
end Go.Vm
