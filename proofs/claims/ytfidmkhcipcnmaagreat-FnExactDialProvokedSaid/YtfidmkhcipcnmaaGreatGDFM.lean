/- What the functions answer. -/
import Derived.Test.YtfidmkhcipcnmaaGreatGDTab
import Derived.Test.YtfidmkhcipcnmaaGreatGDFA
import Derived.Test.YtfidmkhcipcnmaaGreatGDFB
import Derived.Test.YtfidmkhcipcnmaaGreatGDFC
import Derived.Test.YtfidmkhcipcnmaaGreatGDFD
import Derived.Test.YtfidmkhcipcnmaaGreatGDFH
import Derived.Test.YtfidmkhcipcnmaaGreatGDFI
import Derived.Test.YtfidmkhcipcnmaaGreatGDFK
import Derived.Test.YtfidmkhcipcnmaaGreatGDFL
set_option maxHeartbeats 4000000
set_option maxRecDepth 10000
set_option linter.unusedVariables false
set_option linter.unusedSimpArgs false
namespace Go.Vm
def dY (t:Int) (e:Ext):Bool:=decide (e.tag≠t)
def jy (n:Int):List Int→List Int→List Int
 | pre,[]=>pre++[n]
 | pre,x::suf=>if x < n then jy n (pre++[x]) suf else if x=n then pre++x::suf else pre++n::x::suf
def l4V (l:List Int) (n:Int):List Int:=jy n [] l
theorem x5 (n:Int):∀ (suf pre:List Int),(jy n pre suf).length≤pre.length+suf.length+1
 | [],pre=>by simp[jy]
 | x::suf,pre=>by
  unfold jy;split
  ·have:=x5 n suf (pre++[x]);simp at this ⊢;omega
  ·split<;>simp<;>omega
theorem Bj (l:List Int) (n:Int):(l4V l n).length≤l.length+1:=by have:=x5 n l [];simpa [l4V] using this
theorem vg (n:Int):∀ (suf pre:List Int),n∉suf→(jy n pre suf).Perm (n::(pre++suf))
 | [],pre,_=>by unfold jy;rw[List.append_nil];exact List.perm_append_singleton n pre
 | x::suf,pre,h=>by
  unfold jy;simp only[List.mem_cons,not_or] at h;split
  ·have:=vg n suf (pre++[x]) h.2
   simpa using this
  ·rw[if_neg (fun e=>h.1 e.symm)]
   exact List.perm_middle
theorem pv (n:Int):∀ (suf pre:List Int),(pre++suf).Pairwise (· < ·)→n∉suf→(∀ x∈pre,x < n)→(jy n pre suf).Pairwise (· < ·)
 | [],pre,h1,_,h3=>by
  unfold jy;rw[List.append_nil] at h1;rw[List.pairwise_append];exact ⟨h1,by simp,fun a ha b hb=>by simp at hb;subst hb;exact h3 a ha⟩
 | x::suf,pre,h1,h2,h3=>by
  unfold jy;simp only[List.mem_cons,not_or] at h2;split
  ·rename_i hx;refine pv n suf (pre++[x]) (by simpa using h1) h2.2 (fun y hy=>?_)
   rcases List.mem_append.1 hy with hy | hy
   ·exact h3 y hy
   ·simp at hy;subst hy;exact hx
  ·rename_i hx;rw[if_neg (fun e=>h2.1 e.symm)]
   rw[List.pairwise_append] at h1 ⊢;obtain ⟨p1,p2,p3⟩:=h1
   have hnx:n < x:=by have:=h2.1;omega
   refine ⟨p1,List.pairwise_cons.2 ⟨fun y hy=>?_,p2⟩,fun a ha b hb=>?_⟩
   ·rcases List.mem_cons.1 hy with rfl | hy
    ·exact hnx
    ·exact Int.lt_trans hnx ((List.pairwise_cons.1 p2).1 y hy)
   ·rcases List.mem_cons.1 hb with rfl | hb
    ·exact h3 a ha
    ·exact p3 a ha b hb
theorem CK {l:List Int} {n:Int} (h:aK l=true) (hn:bq l n=false):iP (l++[n])=l4V l n:=by
 have hm:n∉l:=fun q=>by
  unfold bq at hn;rw[List.any_eq_false] at hn;exact hn n q (by simp)
 obtain ⟨h1,_⟩:=gg h
 have p1:(l4V l n).Perm (n::l):=by have:=vg n l [] hm;simpa [l4V] using this
 have p2:(iP (l++[n])).Perm (l++[n]):=List.mergeSort_perm _ _;have s1:(l4V l n).Pairwise (· < ·):=pv n l [] (by simpa using h1) hm (by simp)
 have s2:(iP (l++[n])).Pairwise (fun a b=>decide (a≤b)=true):=List.pairwise_mergeSort (fun a b c=>by simp;omega) (fun a b=>by simp;omega) _
 refine List.Perm.eq_of_pairwise (le:=fun a b=>a≤b) (fun a b _ _ h1 h2=>Int.le_antisymm h1 h2) (s2.imp (fun h=>by simpa using h)) (s1.imp (fun h=>Int.le_of_lt h)) ?_
 exact p2.trans ((List.perm_append_singleton n l).trans p1.symm)
def zt (l:List Int) (v:Int):Bool:=aK l&&inR v 1 9&& !bq l v
def avV (l:List Int) (v:Int):List Int:=if zt l v then l4V l v else l
theorem E9 (l:List Int) (v:Int):(avV l v).length≤l.length+1:=by
 unfold avV;split
 ·exact Bj l v
 ·omega
def neI (t x:Int):Bool:=decide (x≠t)
def z7 (l:List Int) (v:Int):Bool:=aK l&&bq l v&& !decide (l.length=1)
def dvV (l:List Int) (v:Int):List Int:=if z7 l v then sel (neI v) idI l else l
theorem Fd {l:List Int} {v:Int}:(dvV l v).length≤l.length:=by
 unfold dvV;split
 ·exact aI
 ·exact Nat.le_refl _
theorem Cw {v:Int}:br [v]=neI v:=by
 funext x
 simp only[br,neI,bq,List.any_cons,List.any_nil,Bool.or_false];by_cases h:v=x<;>simp[h,eq_comm]
def ehX (h:Hello) (n:Int):List Ext:=h.exts++[⟨n,[]⟩]
def gD (h:Hello) (e:Edit):Hello:=
 if e.kind=1 then ⟨dvV h.versions e.n,h.exts⟩ else if e.kind=2 then ⟨avV h.versions e.n,h.exts⟩ else if e.kind=3 then ⟨h.versions,sel (dY e.n) idE h.exts⟩ else if e.kind=6 then (if bI (ehX h e.n)=true then ⟨h.versions,ehX h e.n⟩ else h) else h
def hB (h:Hello) (n m:Nat):Prop:=h.versions.length≤n∧h.exts.length≤m∧∀ y∈h.exts,y.body.length≤1073741824
theorem pg {h:Hello} {e:Edit} {n m:Nat} (q:hB h n m):hB (gD h e) (n+1) (m+1):=by
 obtain ⟨q1,q2,q3⟩:=q
 unfold gD;split
 ·exact ⟨Nat.le_trans (Nat.le_trans Fd q1) (by omega),by show h.exts.length≤_;omega,q3⟩
 split
 ·exact ⟨by have:=E9 h.versions e.n;show (avV h.versions e.n).length≤_;omega,by show h.exts.length≤_;omega,q3⟩
 split
 ·refine ⟨by show h.versions.length≤_;omega,Nat.le_trans aI (by omega),fun y hy=>q3 y ?_⟩
  simp only[cV] at hy;exact (List.mem_filter.1 hy).1
 split
 ·split
  ·refine ⟨by show h.versions.length≤_;omega,by show (ehX h e.n).length≤_;simp[ehX];omega,fun y hy=>?_⟩
   simp only[ehX] at hy;rcases List.mem_append.1 hy with hy | hy
   ·exact q3 y hy
   ·simp at hy;subst hy;simp
  ·exact ⟨by omega,by omega,q3⟩
 ·exact ⟨by omega,by omega,q3⟩
theorem wv {h:Hello} {n:Nat} (q:hB h n n) (hn:n≤1073741824):h.Mid:=⟨Nat.le_trans q.1 hn,Nat.le_trans q.2.1 hn,q.2.2⟩
def fV (a:Answer) (e:Edit):Answer:=if (decide (e.kind=4)&&inR e.n 1 9)=true then ⟨e.n,a.exts⟩ else if decide (e.kind=5)=true then ⟨a.version,sel (dY e.n) idE a.exts⟩ else a
theorem nJ {a:Answer} {e:Edit} (h:a.Mid):(fV a e).Mid:=by
 unfold fV;split
 ·exact h
 ·split
  ·unfold Answer.Mid at *;exact ⟨Nat.le_trans aI h.1,fun y hy=>h.2 y (by rw[cV] at hy;exact (List.mem_filter.1 hy).1)⟩
  ·exact h
def gEx (x:Ext):Bool:=inR x.tag 0 255&& !decide (4 < x.body.length)&&bytes x.body
theorem xK:∀ {suf pre:List Ext},oG pre suf=true↔(∀ x∈suf,gEx x=true∧∀ y∈pre,y.tag≠x.tag)∧suf.Pairwise (fun x y=>x.tag≠y.tag)
 | [],pre=>by simp[oG]
 | x::suf,pre=>by
  have hp:pre.any (ie x.tag)=false↔∀ y∈pre,y.tag≠x.tag:=by simp[List.any_eq_false,ie]
  unfold oG;simp only[Bool.and_eq_true,Bool.not_eq_true',xK (suf:=suf) (pre:=pre++[x]),List.pairwise_cons,hp];constructor
  ·rintro ⟨⟨⟨⟨a,b⟩,c⟩,d⟩,e,f⟩
   refine ⟨?_,fun y hy=>?_,f⟩
   ·intro z hz;rcases List.mem_cons.1 hz with rfl | hz
    ·exact ⟨by unfold gEx;rw[a,b,c];rfl,d⟩
    ·exact ⟨(e z hz).1,fun y hy=>(e z hz).2 y (by simp[hy])⟩
   ·exact (e y hy).2 x (by simp)
  ·rintro ⟨h1,h2,h3⟩
   have hx:=h1 x (by simp)
   unfold gEx at hx;simp only[Bool.and_eq_true,Bool.not_eq_true'] at hx;refine ⟨⟨⟨hx.1.1,hx.1.2⟩,hx.2⟩,fun z hz=>⟨(h1 z (by simp[hz])).1,fun y hy=>?_⟩,h3⟩
   rcases List.mem_append.1 hy with hy | hy
   ·exact (h1 z (by simp[hz])).2 y hy
   ·simp at hy;subst hy;exact h2 z hz
theorem areEx_iff {l:List Ext}:bI l=true↔(∀ x∈l,gEx x=true)∧l.Pairwise (fun x y=>x.tag≠y.tag)∧l.length≤6:=by
 unfold bI;rw[Bool.and_eq_true,xK,decide_eq_true_eq];constructor
 ·rintro ⟨⟨h1,h2⟩,h3⟩;exact ⟨fun x hx=>(h1 x hx).1,h2,h3⟩
 ·rintro ⟨h1,h2,h3⟩;exact ⟨⟨fun x hx=>⟨h1 x hx,by simp⟩,h2⟩,h3⟩
theorem nE {l:List Ext} {p:Ext→Bool} (h:bI l=true):bI (sel p idE l)=true:=by
 rw[cV];obtain ⟨h1,h2,h3⟩:=areEx_iff.1 h
 exact areEx_iff.2 ⟨fun x hx=>h1 x (List.mem_filter.1 hx).1,h2.filter _,Nat.le_trans (List.length_filter_le _ _) h3⟩
theorem xu {a b:List Int} (h:fM a b≠0):1≤fM a b∧fM a b≤9∧bq b (fM a b)=true∧bq a (fM a b)=true:=by
 unfold fM at h ⊢;split at h
 ·rename_i hv;rw[if_pos hv];rw[Bool.and_eq_true] at hv;have hne:qf a b≠[]:=fun e=>by rw[e] at h;exact h rfl
  have hm:(qf a b).getLastD 0∈qf a b:=by
   rw[List.getLastD_eq_getLast?,List.getLast?_eq_some_getLast hne]
   exact List.getLast_mem hne
  obtain ⟨m,hmm⟩:∃ m,m=(qf a b).getLastD 0:=⟨_,rfl⟩
  rw[←hmm] at hm ⊢;have h1:=(xD (b:=b) hv.1).2 _ hm;have h2:m∈a∧bq b m=true:=by
   unfold qf at hm;rw[cj,List.mem_filter] at hm;exact hm
  refine ⟨h1.1,h1.2,h2.2,?_⟩
  unfold bq;rw[List.any_eq_true];exact ⟨_,h2.1,by simp⟩
 ·exact absurd rfl h
theorem A4 {vs tg:List Int} {h:Hello} (q:fO vs h=true):fN (caV vs tg h).version (caV vs tg h).exts=true:=by
 unfold caV;rw[if_pos q];unfold fO aC at q;simp only[Bool.and_eq_true,Bool.not_eq_true',decide_eq_false_iff_not] at q;obtain ⟨⟨_,hx⟩,hb⟩:=q
 have:=xu hb
 unfold fN;rw[Bool.and_eq_true];refine ⟨?_,nE (nE hx)⟩
 unfold inR;simp;omega
theorem xB {vs:List Int} {h:Hello} (q:fO vs h=true):aC h=true:=by
 unfold fO at q;simp only[Bool.and_eq_true] at q;exact q.1
theorem A1 {a:Answer} (q:fN a.version a.exts=true):cT a≠[]:=by unfold cT;rw[if_pos q];simp
def dlG (vs tg:List Int) (seen:Hello) (es:List Edit):Answer:=es.foldl fV (caV vs tg seen)
def dlF (k:Int) (vs tg:List Int) (seen:Hello):Int:=kQ k [cq seen,cT (caV vs tg seen)] 1
def gz (h seen:Hello) (vs tg:List Int) (k:Int) (es:List Edit):Bool:=fO vs seen&&(ju h (dlG vs tg seen es)&&mr k [cq h,cT (dlG vs tg seen es)] 1 (dlF k vs tg seen))
def dlV (h seen:Hello) (vs tg:List Int) (k:Int) (es:List Edit):Deal:=if gz h seen vs tg k es then ⟨true,(dlG vs tg seen es).version,tags (dlG vs tg seen es).exts⟩ else ⟨false,0,[]⟩
theorem vW {a b:List Int} (h1:a.length≤48) (h2:b.length≤48):[a,b].length≤1048576∧∀ y∈[a,b],y.length≤1048576:=⟨by simp,by intro y hy;simp at hy;rcases hy with rfl | rfl<;>omega⟩
theorem sg:∀ (es:List Edit) {a:Answer},a.Mid→(es.foldl fV a).Mid
 | [],_,ma=>ma
 | e::es,a,ma=>sg es (nJ ma)
theorem sS {h:Hello} {a:Answer} (q:ju h a=true):aC h=true∧fN a.version a.exts=true:=by
 unfold ju at q;simp only[Bool.and_eq_true] at q;exact ⟨q.1.1.2,q.1.2⟩
def lj (h:Hello) (path:List Box) (vs tg:List Int) (k:Int):Bool:=dZ path h&&gz h (ppV path h) vs tg k []
def doV (h:Hello) (path:List Box) (vs tg:List Int) (k:Int):Deal:=if lj h path vs tg k then ⟨true,(caV vs tg (ppV path h)).version,tags (caV vs tg (ppV path h)).exts⟩ else ⟨false,0,[]⟩
theorem zh {l:List Ext}:(tags l).length=l.length:=by rw[pU,List.length_map]
theorem A7 {h:Hello} {path:List Box} {vs tg:List Int} {k:Int} (m:h.Mid):(doV h path vs tg k).Mid:=by
 unfold doV;split
 ·have:=lh (vs:=vs) (tg:=tg) (iq (path:=path) m)
  show (tags _).length≤1073741824;rw[zh];exact this.1
 ·show ([]:List Int).length≤1073741824;simp
theorem Hb {h seen:Hello} {vs tg:List Int} {k:Int} (q:fO vs seen=true):gz h seen vs tg k []=(ju h (caV vs tg seen)&&(!decide (kQ k [cq h,cT (caV vs tg seen)] 1=0)&&decide (kQ k [cq h,cT (caV vs tg seen)] 1=kQ k [cq seen,cT (caV vs tg seen)] 1))):=by
 unfold gz dlF mr;rw[q,Bool.true_and,show dlG vs tg seen []=caV vs tg seen from rfl]
 congr 1
 by_cases e:kQ k [cq h,cT (caV vs tg seen)] 1=kQ k [cq seen,cT (caV vs tg seen)] 1
 ·rw[e]
 ·simp[e]
def tF:Bool→Fl
 | true=> .ow false
 | false=> .nl
theorem Ew (h:Hello) (path:List Box) (vs tg:List Int) (k:Int) (mh:h.Mid) (pl:path.length≤1073741824) (pm:∀ y∈path,y.Mid) (hv:vs.length≤1073741824) (ht:tg.length≤1073741824) {f0 f1 f2 f3 f4:Fl} (q0:ac f0=true) (q1:ac f1=true) (q2:ac f2=true) (q3:ac f3=true) (q4:ac f4=true) (r:Ret)
  (rA:lj h path vs tg k=true→(⟨[al true (caV vs tg (ppV path h)).version (row fI (tags (caV vs tg (ppV path h)).exts)) (.ow false)],[],none⟩:Ret)=r) (rC:lj h path vs tg k=false→(⟨[al false 0 [] .nl],[],none⟩:Ret)=r):
  fix Tb md 210 [aa (row fI h.versions) (row ab h.exts) f0 f1,R (row ar path) f2,R (row fI vs) f3,R (row fI tg) f4,I k]=some r:=by
 obtain ⟨fv,gv,hf,k1⟩:=HF.of3 (P:=fun vv xx f g=>fix Tb md 196 [R (row ar path) (.sp 0 0),aa (row fI h.versions) (row ab h.exts) (.sp 1 0) (.sp 1 1)]=some ⟨[aa vv xx f g,B (dZ path h)],[],none⟩) (yw path h pl pm mh (f0:= .sp 0 0) (f1:= .sp 1 0) (f2:= .sp 1 1) rfl rfl rfl)
 obtain ⟨seen,hseen⟩:=nm (ppV path h)
 have ms:seen.Mid:=by rw[hseen];exact iq mh
 obtain ⟨w,hw⟩:=nm (dZ path h)
 have hok:lj h path vs tg k=(w&&gz h seen vs tg k []):=by rw[hw,hseen];rfl
 rw[hok] at rA rC;rw[←hseen] at rA;rw[←hw,←hseen] at k1;clear hok;cases hca:fO vs seen with
 | false=>
  have hdl:gz h seen vs tg k []=false:=by unfold gz;rw[hca];rfl
  rw[hdl,Bool.and_false] at rC
  replace rC:=rC rfl
  clear rA;have k2:=fun (a b:Fl) (qa:ac a=true) (qb:ac b=true)=>Ap vs tg seen hv ht ms (f0:= .sp 0 0) (f1:= .sp 1 0) (f2:=a) (f3:=b) rfl rfl qa qb hca
  obtain ⟨ev,hev⟩:=nm (row fI vs)
  obtain ⟨et,het⟩:=nm (row fI tg)
  obtain ⟨dv,hdv⟩:=nm (row fI h.versions)
  obtain ⟨dx,hdx⟩:=nm (row ab h.exts)
  obtain ⟨sv,hsv⟩:=nm (row fI seen.versions)
  obtain ⟨sx,hsx⟩:=nm (row ab seen.exts)
  obtain ⟨ep,hep⟩:=nm (row ar path)
  rw[←hep,←hdv,←hdx,←hsv,←hsx] at k1;rw[←hev,←het,←hsv,←hsx] at k2;rw[←hev,←het,←hdv,←hdx,←hep];have k2':=k2 (inA fv 2 0) (inA gv 2 1) (hf.inl 2 0) (hf.inr 2 1)
  replace hf:=HF.fl hf
  rcases hf with ⟨rfl,rfl⟩ | ⟨rfl,rfl⟩ | ⟨rfl,rfl⟩
  all_goals
   simp only[inA] at k2';refine cJ (fn:=ir210) tb_210 rfl rfl (by decide) rfl ?_;intro Q hQ;simp only[aj,aV,List.map_cons,List.map_nil,ir210,ai q0,ai q1,ai q2,ai q3,ai q4,List.head?_nil,reduceCtorEq,if_false,cb,aa,ae,bp,al,aG,af,aH]
   intro add sub mul arith eq ne lt le gt ge neg conv mn mx not beq len at' ln bd cut app allS isNil mks set o hP F ho;rw[←ho] at k1 k2';cbv;rw[k1];cbv;refine both (fun d1=>?_) (fun d1=>?_)<;>rw[d1]<;>cbv
   ·rw[hQ];cbv;exact congrArg some rC
   rw[k2'];cbv;rw[show not false=true by rw[F.not];rfl];cbv
   rw[hQ];cbv;exact congrArg some rC
 | true=>
  obtain ⟨S,hS⟩:=nm (caV vs tg seen)
  have mS:S.Mid:=by rw[hS];exact lh ms
  have lS:S.exts.length≤1073741824:=mS.1;have wS:∀ y∈S.exts,y.body.length≤1099511627776:=fun y hy=>Nat.le_trans (show y.body.length≤1073741824 from mS.2 y hy) (by decide)
  have bS:(cT S).length≤48:=Nat.le_trans (kI S) (by decide)
  obtain ⟨u,hu⟩:=nm (ju h S)
  obtain ⟨n1,hn1⟩:=nm (kQ k [cq h,cT S] 1)
  obtain ⟨n2,hn2⟩:=nm (kQ k [cq seen,cT S] 1)
  obtain ⟨z1,hz1⟩:=nm (decide (n1=0))
  obtain ⟨z2,hz2⟩:=nm (decide (n1=n2))
  have hdl:gz h seen vs tg k []=(u&&(!z1&&z2)):=by rw[Hb hca,←hS,hu,hz1,hz2,hn1,hn2]
  rw[hdl] at rA rC;rw[←hS] at rA;have k2:=fun (a b:Fl) (qa:ac a=true) (qb:ac b=true)=>Ao vs tg seen hv ht ms (f0:= .sp 0 0) (f1:= .sp 1 0) (f2:=a) (f3:=b) rfl rfl qa qb hca
  rw[←hS] at k2;have k3:=Eb h S mh mS (f0:= .sp 0 0) (f1:= .sp 0 1) (f2:= .sp 1 1) rfl rfl rfl;rw[←hu] at k3;have k4:=vu h mh (f0:= .sp 0 0) (f1:= .sp 0 1) rfl rfl;have k5:=fun (a b:Fl) (qa:ac a=true) (qb:ac b=true)=>vu seen ms (f0:=a) (f1:=b) qa qb
  have k6:=Bw S (by omega) wS (f0:= .sp 0 1) rfl
  have k7:=tS k [cq h,cT S] 1 (vW (eI h) bS) (f0:= .sp 1 0) rfl;have k8:=tS k [cq seen,cT S] 1 (vW (eI seen) bS) (f0:= .sp 1 0) rfl;have k9:=ED S.exts lS (f0:= .sp 0 0) rfl;rw[show sel eY Ext.tag S.exts=tags S.exts from rfl] at k9
  rw[←hn1] at k7;rw[←hn2] at k8;obtain ⟨ev,hev⟩:=nm (row fI vs)
  obtain ⟨et,het⟩:=nm (row fI tg)
  obtain ⟨dv,hdv⟩:=nm (row fI h.versions)
  obtain ⟨dx,hdx⟩:=nm (row ab h.exts)
  obtain ⟨sv,hsv⟩:=nm (row fI seen.versions)
  obtain ⟨sx,hsx⟩:=nm (row ab seen.exts)
  obtain ⟨ep,hep⟩:=nm (row ar path)
  obtain ⟨eS,heS⟩:=nm (row ab S.exts)
  obtain ⟨eT,heT⟩:=nm (row fI (tags S.exts))
  obtain ⟨b1,hb1⟩:=nm (row fI (cq h))
  obtain ⟨b2,hb2⟩:=nm (row fI (cq seen))
  obtain ⟨b3,hb3⟩:=nm (row fI (cT S))
  rw[←hep,←hdv,←hdx,←hsv,←hsx] at k1;rw[←hev,←het,←hsv,←hsx,←heS] at k2;rw[←hdv,←hdx,←heS] at k3;rw[←hdv,←hdx,←hb1] at k4;rw[←hsv,←hsx,←hb2] at k5;rw[←heS,←hb3] at k6;simp only[row,fR,List.map_cons,List.map_nil] at k7 k8;rw[show List.map fI (cq h)=b1 from hb1.symm,show List.map fI (cT S)=b3 from hb3.symm] at k7
  rw[show List.map fI (cq seen)=b2 from hb2.symm,show List.map fI (cT S)=b3 from hb3.symm] at k8
  rw[←heS,←heT] at k9;rw[←heT] at rA;rw[←hev,←het,←hdv,←hdx,←hep];have k2':=k2 (inA fv 2 0) (inA gv 2 1) (hf.inl 2 0) (hf.inr 2 1);have k5':=k5 (inA fv 0 0) (inA gv 0 1) (hf.inl 0 0) (hf.inr 0 1)
  replace hf:=HF.fl hf
  rcases hf with ⟨rfl,rfl⟩ | ⟨rfl,rfl⟩ | ⟨rfl,rfl⟩
  all_goals
   simp only[inA] at k2' k5';refine cJ (fn:=ir210) tb_210 rfl rfl (by decide) rfl ?_;intro Q hQ;simp only[aj,aV,List.map_cons,List.map_nil,ir210,ai q0,ai q1,ai q2,ai q3,ai q4,List.head?_nil,reduceCtorEq,if_false,cb,aa,ae,bp,al,aG,af,aH]
   intro add sub mul arith eq ne lt le gt ge neg conv mn mx not beq len at' ln bd cut app allS isNil mks set o hP F ho;rw[←ho] at k1 k2' k3 k4 k5' k6 k7 k8 k9;have g1:eq n1 0=z1:=by rw[F.eq,hz1]
   have g2:ne n1 n2= !z2:=by rw[F.ne,hz2];simp
   cbv;rw[k1];cbv;refine both (fun d1=>?_) (fun d1=>?_)<;>rw[d1]<;>cbv
   ·rw[hQ];cbv;exact congrArg some (rC (by rw[F.not_t d1];rfl))
   rw[k2'];cbv;rw[show not true=false by rw[F.not];rfl];cbv
   rw[k3];cbv;refine both (fun d2=>?_) (fun d2=>?_)<;>rw[d2]<;>cbv
   ·rw[hQ];cbv;exact congrArg some (rC (by rw[F.not_t d2,F.not_f d1];rfl))
   rw[k4];cbv;rw[k6];cbv;rw[k7];cbv;rw[g1];refine both (fun d3=>?_) (fun d3=>?_)<;>rw[d3]<;>cbv
   ·rw[hQ];cbv;exact congrArg some (rC (by rw[F.not_f d2,F.not_f d1,d3];rfl))
   rw[k5'];cbv;rw[k6];cbv;rw[k8];cbv;rw[g2];refine both (fun d4=>?_) (fun d4=>?_)<;>rw[d4]<;>cbv
   ·rw[hQ];cbv;exact congrArg some (rC (by rw[F.not_f d2,F.not_f d1,d3,show z2=false by simpa using d4];rfl))
   rw[k9];cbv;rw[hQ];cbv;exact congrArg some (rA (by rw[F.not_f d2,F.not_f d1,d3,show z2=true by simpa using d4];rfl))
theorem Eu (h:Hello) (path:List Box) (vs tg:List Int) (k:Int) (mh:h.Mid) (pl:path.length≤1073741824) (pm:∀ y∈path,y.Mid) (hv:vs.length≤1073741824) (ht:tg.length≤1073741824) {f0 f1 f2 f3 f4:Fl} (q0:ac f0=true) (q1:ac f1=true) (q2:ac f2=true) (q3:ac f3=true) (q4:ac f4=true):
  fix Tb md 210 [aa (row fI h.versions) (row ab h.exts) f0 f1,R (row ar path) f2,R (row fI vs) f3,R (row fI tg) f4,I k]=some ⟨[al (doV h path vs tg k).ok (doV h path vs tg k).version (row fI (doV h path vs tg k).tags) (tF (lj h path vs tg k))],[],none⟩:=by
 cases q:lj h path vs tg k with
 | true=>
  refine Ew h path vs tg k mh pl pm hv ht q0 q1 q2 q3 q4 _ (fun _=>?_) (fun e=>by rw[q] at e;cases e)
  rw[doV,q];rfl
 | false=>
  rw[show doV h path vs tg k=⟨false,0,[]⟩ by rw[doV,q];rfl]
  exact Ew h path vs tg k mh pl pm hv ht q0 q1 q2 q3 q4 _ (fun e=>by rw[q] at e;cases e) (fun _=>rfl)
theorem Jg (t k n:Int):fix Tb md 267 [I t,⟨.val,[⟨.ptr () [.int .i64 k, .int .i64 n], .sh⟩]⟩]=some ⟨[B (decide (t≠n))],[],none⟩:=by
 generalize hr:(⟨_,[],none⟩:Ret)=r
 refine cJ (fn:=ir267) tb_267 rfl rfl (by decide) rfl ?_;intro Q hQ;simp only[aj,aV,List.map_cons,List.map_nil,ir267,List.head?_nil,reduceCtorEq,if_false,cb,aa,ae,bp,al,aG,af,aH]
 intro add sub mul arith eq ne lt le gt ge neg conv mn mx not beq len at' ln bd cut app allS isNil mks set o hP F ho;cbv;rw[hQ];cbv;rw[←hr,F.ne]
theorem Gz (a:Answer) (e:Edit) (hl:a.exts.length≤1073741824) (w:∀ y∈a.exts,y.body.length≤1099511627776) {f0:Fl} (h0:ac f0=true):fix Tb md 119 [ae a.version (row ab a.exts) f0,bp e.kind e.n]=some ⟨[ae (fV a e).version (row ab (fV a e).exts) (.ow false)],[],none⟩:=by
 obtain ⟨b1,hb1⟩:=nm (decide (e.kind=4))
 obtain ⟨b2,hb2⟩:=nm (inR e.n 1 9)
 obtain ⟨b3,hb3⟩:=nm (decide (e.kind=5))
 have h45:b1=true→b3=false:=by intro q;rw[hb1] at q;rw[hb3];simp at q ⊢;omega
 have hv:fV a e=if (b1&&b2)=true then ⟨e.n,a.exts⟩ else if b3=true then ⟨a.version,sel (dY e.n) idE a.exts⟩ else a:=by rw[hb1,hb2,hb3];rfl
 obtain ⟨z,hz⟩:=nm (fV a e)
 rw[←hz] at hv ⊢;have hA:b1=true→b2=true→z=⟨e.n,a.exts⟩:=by intro q1 q2;rw[hv,q1,q2];rfl
 have hB:(b1&&b2)=false→b3=true→z=⟨a.version,sel (dY e.n) idE a.exts⟩:=by intro q1 q2;rw[hv,q1,q2];rfl
 have hC:(b1&&b2)=false→b3=false→z=a:=by intro q1 q2;rw[hv,q1,q2];rfl
 obtain ⟨et,het⟩:=nm (row ab z.exts)
 rw[←het];generalize hr:(⟨_,[],none⟩:Ret)=r
 obtain ⟨ea,hea⟩:=nm (row ab a.exts)
 rw[←hea];obtain ⟨ed,hed⟩:=nm (row ab (sel (dY e.n) idE a.exts))
 refine cJ (fn:=ir119) tb_119 rfl rfl (by decide) rfl ?_;intro Q hQ;simp only[aj,aV,List.map_cons,List.map_nil,ir119,ai h0,List.head?_nil,reduceCtorEq,if_false,cb,aa,ae,bp,al,aG,af,aH]
 intro add sub mul arith eq ne lt le gt ge neg conv mn mx not beq len at' ln bd cut app allS isNil mks set o hP F ho;have c1:o 266 [R ea (.sp 0 0)]=some ⟨[R ea (.ow false)],[],none⟩:=by rw[ho,hea];exact EC _ hl w rfl
 have c2:o 232 [I e.n,I 1,I 9]=some ⟨[B b2],[],none⟩:=by rw[ho,hb2];exact fF ..
 have c3:o 264 [R ea (.sp 0 0),⟨.val,[⟨.fn 267 [.ptr () [.int .i64 e.kind, .int .i64 e.n]], .sh⟩]⟩]=some ⟨[R ed (.ow false)],[],none⟩:=by
  rw[ho,hed,hea];exact pI 267 rfl _ (fun t=>decide (t≠e.n)) a.exts hl w (fun x _=>Jg x.tag e.kind e.n) rfl
 have g1:eq e.kind 4=b1:=by rw[F.eq,hb1]
 have g2:eq e.kind 5=b3:=by rw[F.eq,hb3]
 cbv;rw[c1];cbv;rw[g1];cbv;refine both (fun d1=>?_) (fun d1=>?_)<;>rw[d1]<;>cbv
 ·rw[c2];cbv;refine both (fun d2=>?_) (fun d2=>?_)<;>rw[d2]<;>cbv
  ·rw[hQ];cbv;have hv:=hA d1 d2;rw[←hr,het,hv,hea]
  ·rw[hQ];cbv;have hv:=hC (by rw[d1,d2];rfl) (h45 d1)
   rw[←hr,het,hv,hea]
 ·rw[g2];cbv;refine both (fun d3=>?_) (fun d3=>?_)<;>rw[d3]<;>cbv
  ·rw[c3];cbv;rw[hQ];cbv;have hv:=hB (by rw[d1];rfl) d3
   rw[←hr,het,hv,hed]
  ·rw[hQ];cbv;have hv:=hC (by rw[d1];rfl) d3
   rw[←hr,het,hv,hea]
theorem II (k:Int):fix Tb md 114 [I k]=some ⟨[B (AV k)],[],none⟩:=by
 obtain ⟨a,ha⟩:=nm (AV k)
 rw[←ha];generalize hr:(⟨_,[],none⟩:Ret)=r
 refine cJ (fn:=ir114) tb_114 rfl rfl (by decide) rfl ?_;intro Q hQ;simp only[aj,aV,List.map_cons,List.map_nil,ir114,List.head?_nil,reduceCtorEq,if_false,cb,aa,ae,bp,al,aG,af,aH]
 intro add sub mul arith eq ne lt le gt ge neg conv mn mx not beq len at' ln bd cut app allS isNil mks set o hP F ho;have c1:o 232 [I k,I 1,I 2147483646]=some ⟨[B a],[],none⟩:=by rw[ho,ha];exact fF ..
 cbv;rw[c1];cbv;rw[hQ];cbv;exact congrArg some hr
theorem JJ (n m:Int):fix Tb md 349 [I n,I m]=some ⟨[I (tM n m)],[],none⟩:=by
 obtain ⟨T,hT⟩:=nm (tM n m)
 rw[←hT];generalize hr:(⟨_,[],none⟩:Ret)=r
 obtain ⟨v,hv⟩:=nm (inR m 1 1000000000000)
 refine cJ (fn:=ir349) tb_349 rfl rfl (by decide) rfl ?_;intro Q hQ;simp only[aj,aV,List.map_cons,List.map_nil,ir349,List.head?_nil,reduceCtorEq,if_false,cb,aa,ae,bp,al,aG,af,aH]
 intro add sub mul arith eq ne lt le gt ge neg conv mn mx not beq len at' ln bd cut app allS isNil mks set o hP F ho;have c1:o 232 [I m,I 1,I 1000000000000]=some ⟨[B v],[],none⟩:=by rw[ho,hv];exact fF ..
 cbv;rw[c1];cbv;refine both (fun d1=>?_) (fun d1=>?_)<;>rw[d1]<;>cbv
 ·rw[hQ];cbv;have hv0:=F.not_t d1;rw[←hr,hT];unfold tM;rw[←hv,hv0];rfl
 have hv1:=F.not_f d1;have hm:m≠0:=by rw[hv] at hv1;simp[inR] at hv1;omega
 obtain ⟨n1,hn1⟩:=nm (Int.tmod n m)
 obtain ⟨n2,hn2⟩:=nm (add .i64 n1 m)
 obtain ⟨n3,hn3⟩:=nm (Int.tmod n2 m)
 rw[show arith .rem .i64 n m=some (.int .i64 n1) by rw[F.arith,hn1];exact qO hm];cbv
 rw[←hn2];rw[show arith .rem .i64 n2 m=some (.int .i64 n3) by rw[F.arith,hn3];exact qO hm];cbv
 rw[hQ];cbv;rw[←hr,hT];unfold tM;rw[←hv,hv1,if_pos rfl,hn3,hn2,hn1,F.add]
theorem GO (l:List Int) (hl:l.length≤1099511627776) {f0:Fl} (h0:ac f0=true):fix Tb md 269 [R (row fI l) f0]=some ⟨[I (rz l)],[],none⟩:=by
 obtain ⟨T,hT⟩:=nm (rz l)
 rw[←hT];generalize hr:(⟨_,[],none⟩:Ret)=r
 obtain ⟨ea,hea⟩:=nm (row fI l)
 rw[←hea];refine cJ (fn:=ir269) tb_269 rfl rfl (by decide) rfl ?_;intro Q hQ;simp only[aj,aV,List.map_cons,List.map_nil,ir269,ai h0,List.head?_nil,reduceCtorEq,if_false,cb,aa,ae,bp,al,aG,af,aH]
 intro add sub mul arith eq ne lt le gt ge neg conv mn mx not beq len at' ln bd cut app allS isNil mks set o hP F ho;have la:=F.len_at hea;cbv;refine ah hP (σ:=List Int×List Int×Int×Int×Option Int) (fun s=>match s.2.2.2.2 with
   | none=>[(0,R ea .sh),(2,I 0),(3,I s.2.2.1),(6,R ea .sh),(7,I (len ea)),(8,I s.2.2.2.1)]
   | some j=>[(0,R ea .sh),(2,I 0),(3,I s.2.2.1),(5,I j),(6,R ea .sh),(7,I (len ea)),(8,I s.2.2.2.1)]) (fun s=>At s.2.2.2.1 s.2.1.length∧l=s.2.1++s.1∧s.1.foldl sZ s.2.2.1=T) (fun s=>s.1.length) (l,[],11,0,none) rfl ⟨rfl,rfl,hT.symm⟩ ?_
 intro c1 Q1 hc1 hQ1;rintro ⟨suf,pre,d,i,j⟩ ⟨hi,hl',hb⟩ ih
 simp only at hi hl' hb ih;rcases j with _ | _
 all_goals
  cbv;cases suf with
  | nil=>
   rw[F.lt_f hi la (by simp[hl'])];cbv
   rw[hQ1];cbv;rw[hQ];cbv;rw[←hr,←hb];rfl
  | cons x suf=>
   rw[List.foldl_cons] at hb;rw[F.lt_t hi la (by simp[hl'])];cbv
   obtain ⟨ix,hix⟩:=nm (pre.length * 1)
   rw[show at' 1 ea i=some (ix,[.int .i64 x]) by rw[hix];exact F.get hi hea hl' (fun _=>rfl) (by decide)];cbv
   obtain ⟨v,hv⟩:=nm (tM x 2147483647)
   rw[show o 349 [I x,I 2147483647]=some ⟨[I v],[],none⟩ by rw[ho,hv];exact JJ ..];cbv
   obtain ⟨d',hd'⟩:=nm (sZ d x)
   rw[show arith .rem .i64 (add .i64 (add .i64 (mul .i64 d 1000003) v) 13) 2147483647=some (.int .i64 d') by rw[F.arith,hd',F.add,F.add,F.mul];unfold sZ;rw[←hv];exact qO (by decide)];cbv
   rw[←hd'] at hb;refine ih (suf,pre++[x],d',add .i64 i 1,some x) ⟨ao (F.inc hi (by simp[hl'] at hl;omega)) (by simp),by simp[hl'],hb⟩ (by simp)
theorem FL (g:Nat) (hg:md g=[]) (p:(List Int)→Bool) (l:List (List Int)) (hl:l.length≤1099511627776) (hp:∀ x∈l,fix Tb md g [R (row fI x) (.sp 0 0)]=some ⟨[B (p x)],[],none⟩) {f0:Fl} (h0:ac f0=true):
  fix Tb md 341 [R (row fR l) f0,⟨.val,[⟨.fn g [], .sh⟩]⟩]=some ⟨[I (bz p l 0)],[],none⟩:=by
 generalize hm:md=m at hg hp ⊢
 refine bB (fn:=ir341) tb_341 rfl rfl (by decide) rfl ?_;simp only[aj,aV,List.map_cons,List.map_nil,ir341,ai h0,List.head?_nil,reduceCtorEq,if_false,cb,aa,ae,bp,al,aG,af,aH]
 generalize hr:(⟨_,[],none⟩:Ret)=r
 obtain ⟨ea,hea⟩:=nm (row fR l)
 rw[←hea];intro add sub mul arith eq ne lt le gt ge neg conv mn mx not beq len at' ln bd cut app allS isNil mks set o hP F ho;have la:=F.len_at hea;cbv;refine aJ hP (σ:=List (List Int)×List (List Int)×Int×Option Int) (fun s=>match s.2.2.2 with | none=>[(0,R ea .sh),(1,⟨.val,[⟨.fn g [], .sh⟩]⟩),(4,I 0),(7,I (len ea)),(8,I s.2.2.1)] | some j=>[(0,R ea .sh),(1,⟨.val,[⟨.fn g [], .sh⟩]⟩),(4,I 0),(5,I j),(7,I (len ea)),(8,I s.2.2.1)])
  (fun s=>At s.2.2.1 s.2.1.length∧l=s.2.1++s.1∧bz p s.1 (s.2.1.length:Int)=bz p l 0) (fun s=>s.1.length) (l,[],0,none) rfl ⟨rfl,rfl,rfl⟩ ?_
 rintro ⟨suf,pre,i,j⟩ ⟨hi,hl',hx⟩ ih
 simp only at hi hl' hx ih;have hi':i=(pre.length:Int):=hi;rw[←hi'] at hx;cases j<;>cbv<;>(
  cases suf with
  | nil=>
   rw[F.lt_f hi la (by simp[hl'])];cbv
   rw[←hr,←hx];rfl
  | cons x suf=>
   rw[F.lt_t hi la (by simp[hl'])];cbv
   obtain ⟨e1,he1⟩:=nm (row fI x)
   obtain ⟨ix,hix⟩:=nm (pre.length * 1)
   rw[show at' 1 ea i=some (ix,[.row () e1]) by rw[hix,he1];exact F.get hi hea hl' (fun _=>rfl) (by decide)];cbv
   obtain ⟨v,hv⟩:=nm (p x)
   have c1:o g [R e1 (.sp 0 0)]=some ⟨[B v],[],none⟩:=by rw[ho,hv,he1];exact hp x (by rw[hl'];simp)
   rw[hg];cbv;rw[c1];cbv;have hx1:bz p (x::suf) i=if p x=true then i else bz p suf (i+1):=rfl
   rw[hx1] at hx;refine both (fun c=>?_) (fun c=>?_)<;>rw[c]<;>cbv
   ·rw[←hv,if_pos c] at hx;rw[←hr,←hx]
   ·rw[←hv,if_neg (by simp[c])] at hx
    refine ih (suf,pre++[x],add .i64 i 1,some i) ⟨ao (F.inc hi (by simp[hl'] at hl;omega)) (by simp),by simp[hl'],?_⟩ (by simp)
    rw[←hx,hi'];simp)
theorem FN (g:Nat) (hg:md g=[]) (k0:V) (p:(List Int)→Bool) (l:List (List Int)) (hl:l.length≤1099511627776) (hp:∀ x∈l,fix Tb md g [R (row fI x) (.sp 0 0),⟨.val,[⟨k0, .sh⟩]⟩]=some ⟨[B (p x)],[],none⟩) {f0:Fl} (h0:ac f0=true):
  fix Tb md 341 [R (row fR l) f0,⟨.val,[⟨.fn g [k0], .sh⟩]⟩]=some ⟨[I (bz p l 0)],[],none⟩:=by
 generalize hm:md=m at hg hp ⊢
 refine bB (fn:=ir341) tb_341 rfl rfl (by decide) rfl ?_;simp only[aj,aV,List.map_cons,List.map_nil,ir341,ai h0,List.head?_nil,reduceCtorEq,if_false,cb,aa,ae,bp,al,aG,af,aH]
 generalize hr:(⟨_,[],none⟩:Ret)=r
 obtain ⟨ea,hea⟩:=nm (row fR l)
 rw[←hea];intro add sub mul arith eq ne lt le gt ge neg conv mn mx not beq len at' ln bd cut app allS isNil mks set o hP F ho;have la:=F.len_at hea;cbv;refine aJ hP (σ:=List (List Int)×List (List Int)×Int×Option Int) (fun s=>match s.2.2.2 with | none=>[(0,R ea .sh),(1,⟨.val,[⟨.fn g [k0], .sh⟩]⟩),(4,I 0),(7,I (len ea)),(8,I s.2.2.1)] | some j=>[(0,R ea .sh),(1,⟨.val,[⟨.fn g [k0], .sh⟩]⟩),(4,I 0),(5,I j),(7,I (len ea)),(8,I s.2.2.1)])
  (fun s=>At s.2.2.1 s.2.1.length∧l=s.2.1++s.1∧bz p s.1 (s.2.1.length:Int)=bz p l 0) (fun s=>s.1.length) (l,[],0,none) rfl ⟨rfl,rfl,rfl⟩ ?_
 rintro ⟨suf,pre,i,j⟩ ⟨hi,hl',hx⟩ ih
 simp only at hi hl' hx ih;have hi':i=(pre.length:Int):=hi;rw[←hi'] at hx;cases j<;>cbv<;>(
  cases suf with
  | nil=>
   rw[F.lt_f hi la (by simp[hl'])];cbv
   rw[←hr,←hx];rfl
  | cons x suf=>
   rw[F.lt_t hi la (by simp[hl'])];cbv
   obtain ⟨e1,he1⟩:=nm (row fI x)
   obtain ⟨ix,hix⟩:=nm (pre.length * 1)
   rw[show at' 1 ea i=some (ix,[.row () e1]) by rw[hix,he1];exact F.get hi hea hl' (fun _=>rfl) (by decide)];cbv
   obtain ⟨v,hv⟩:=nm (p x)
   have c1:o g [R e1 (.sp 0 0),⟨.val,[⟨k0, .sh⟩]⟩]=some ⟨[B v],[],none⟩:=by rw[ho,hv,he1];exact hp x (by rw[hl'];simp)
   rw[hg];cbv;rw[c1];cbv;have hx1:bz p (x::suf) i=if p x=true then i else bz p suf (i+1):=rfl
   rw[hx1] at hx;refine both (fun c=>?_) (fun c=>?_)<;>rw[c]<;>cbv
   ·rw[←hv,if_pos c] at hx;rw[←hr,←hx]
   ·rw[←hv,if_neg (by simp[c])] at hx
    refine ih (suf,pre++[x],add .i64 i 1,some i) ⟨ao (F.inc hi (by simp[hl'] at hl;omega)) (by simp),by simp[hl'],?_⟩ (by simp)
    rw[←hx,hi'];simp)
theorem FD (g:Nat) (hg:md g=[]) (p:(List Int)→Bool) (l:List (List Int)) (hl:l.length≤1099511627776) (hp:∀ x∈l,fix Tb md g [R (row fI x) (.sp 0 0)]=some ⟨[B (p x)],[],none⟩) {f0:Fl} (h0:ac f0=true):
  fix Tb md 234 [R (row fR l) f0,⟨.val,[⟨.fn g [], .sh⟩]⟩]=some ⟨[B (l.any p)],[],none⟩:=by
 refine bB (fn:=ir234) tb_234 rfl rfl (by decide) rfl ?_;simp only[aj,aV,List.map_cons,List.map_nil,ir234,ai h0,List.head?_nil,reduceCtorEq,if_false,cb,aa,ae,bp,al,aG,af,aH]
 generalize hr:(⟨_,[],none⟩:Ret)=r
 obtain ⟨ea,hea⟩:=nm (row fR l)
 rw[←hea];obtain ⟨v,hv⟩:=nm (bz p l 0)
 have hv2:decide (0≤v)=l.any p:=by rw[hv];exact d8 p l 0 (by decide)
 rw[←hv2] at hr;clear hv2;intro add sub mul arith eq ne lt le gt ge neg conv mn mx not beq len at' ln bd cut app allS isNil mks set o hP F ho;have c1:o 341 [R ea (.sp 0 0),⟨.val,[⟨.fn g [], .sh⟩]⟩]=some ⟨[I v],[],none⟩:=by rw[ho,hv,hea];exact FL g hg p l hl hp rfl
 cbv;rw[c1];cbv;rw[←hr,F.ge]
theorem Ka (g:Nat) (hg:md g=[]) (k0:V) (p:(List Int)→Bool) (l:List (List Int)) (hl:l.length≤1099511627776) (hp:∀ x∈l,fix Tb md g [R (row fI x) (.sp 0 0),⟨.val,[⟨k0, .sh⟩]⟩]=some ⟨[B (p x)],[],none⟩) {f0:Fl} (h0:ac f0=true):
  fix Tb md 234 [R (row fR l) f0,⟨.val,[⟨.fn g [k0], .sh⟩]⟩]=some ⟨[B (l.any p)],[],none⟩:=by
 refine bB (fn:=ir234) tb_234 rfl rfl (by decide) rfl ?_;simp only[aj,aV,List.map_cons,List.map_nil,ir234,ai h0,List.head?_nil,reduceCtorEq,if_false,cb,aa,ae,bp,al,aG,af,aH]
 generalize hr:(⟨_,[],none⟩:Ret)=r
 obtain ⟨ea,hea⟩:=nm (row fR l)
 rw[←hea];obtain ⟨v,hv⟩:=nm (bz p l 0)
 have hv2:decide (0≤v)=l.any p:=by rw[hv];exact d8 p l 0 (by decide)
 rw[←hv2] at hr;clear hv2;intro add sub mul arith eq ne lt le gt ge neg conv mn mx not beq len at' ln bd cut app allS isNil mks set o hP F ho;have c1:o 341 [R ea (.sp 0 0),⟨.val,[⟨.fn g [k0], .sh⟩]⟩]=some ⟨[I v],[],none⟩:=by rw[ho,hv,hea];exact FN g hg k0 p l hl hp rfl
 cbv;rw[c1];cbv;rw[←hr,F.ge]
theorem I4 (l:List Int) (hl:l.length≤1099511627776) {f0:Fl} (h0:ac f0=true):fix Tb md 235 [R (row fI l) f0]=some ⟨[B (!bytes l)],[],none⟩:=by
 refine bB (fn:=ir235) tb_235 rfl rfl (by decide) rfl ?_;simp only[aj,aV,List.map_cons,List.map_nil,ir235,ai h0,List.head?_nil,reduceCtorEq,if_false,cb,aa,ae,bp,al,aG,af,aH]
 generalize hr:(⟨_,[],none⟩:Ret)=r
 obtain ⟨v,hv⟩:=nm (bytes l)
 obtain ⟨ea,hea⟩:=nm (row fI l)
 rw[←hv] at hr;rw[←hea];intro add sub mul arith eq ne lt le gt ge neg conv mn mx not beq len at' ln bd cut app allS isNil mks set o hP F ho;have c1:o 233 [R ea (.sp 0 0),I 0,I 255]=some ⟨[B v],[],none⟩:=by rw[ho,hv,hea];exact yx _ _ _ hl rfl
 cbv;rw[c1];cbv;rw[←hr,F.not]
theorem HQ (l:List (List Int)) (w:l.length≤1048576∧∀ y∈l,y.length≤1048576) {f0:Fl} (h0:ac f0=true):fix Tb md 73 [R (row fR l) f0]=some ⟨[B (qz l)],[],none⟩:=by
 have w1:=w.1;refine bB (fn:=ir73) tb_73 rfl rfl (by decide) rfl ?_;simp only[aj,aV,List.map_cons,List.map_nil,ir73,ai h0,List.head?_nil,reduceCtorEq,if_false,cb,aa,ae,bp,al,aG,af,aH]
 generalize hr:(⟨_,[],none⟩:Ret)=r
 obtain ⟨v,hv⟩:=nm (l.any fun y=> !bytes y)
 have e:qz l=(decide (l.length≤12)&& !v):=by rw[hv];unfold qz;rw[List.all_eq_not_any_not,Bool.and_comm]
 obtain ⟨ea,hea⟩:=nm (row fR l)
 rw[e] at hr;rw[←hea];intro add sub mul arith eq ne lt le gt ge neg conv mn mx not beq len at' ln bd cut app allS isNil mks set o hP F ho;have la:=F.len_at hea;have c1:o 234 [R ea (.sp 0 0),⟨.val,[⟨.fn 235 [], .sh⟩]⟩]=some ⟨[B v],[],none⟩:=by rw[ho,hv,hea];exact FD 235 rfl _ l (by omega) (fun x hx=>I4 x (by have:=w.2 x hx;omega) rfl) rfl
 cbv
 repeat' (first | (rw[c1];cbv) | (refine both (fun c=>?_) (fun c=>?_)<;>(try rw[c])<;>(try cbv)))
 all_goals (clear hP c1 ho;unfold At at la;try simp only[F.eq,F.ne,F.le,F.lt,F.ge,F.gt,F.not,F.beq,la] at *;clear F;subst hr)
 all_goals (simp_all[]<;>(intros;omega))
theorem GB (l:List (List Int)) (w:l.length≤1048576∧∀ y∈l,y.length≤1048576) {f0:Fl} (h0:ac f0=true):fix Tb md 121 [R (row fR l) f0]=some ⟨[I (mq l)],[],none⟩:=by
 have w1:=w.1;obtain ⟨T,hT⟩:=nm (mq l)
 rw[←hT];generalize hr:(⟨_,[],none⟩:Ret)=r
 obtain ⟨ea,hea⟩:=nm (row fR l)
 rw[←hea];obtain ⟨u,hu⟩:=nm (qz l)
 refine cJ (fn:=ir121) tb_121 rfl rfl (by decide) rfl ?_;intro Q hQ;simp only[aj,aV,List.map_cons,List.map_nil,ir121,ai h0,List.head?_nil,reduceCtorEq,if_false,cb,aa,ae,bp,al,aG,af,aH]
 intro add sub mul arith eq ne lt le gt ge neg conv mn mx not beq len at' ln bd cut app allS isNil mks set o hP F ho;have la:=F.len_at hea;have c1:o 73 [R ea (.sp 0 0)]=some ⟨[B u],[],none⟩:=by rw[ho,hu,hea];exact HQ _ w rfl
 cbv;rw[c1];cbv;refine both (fun d1=>?_) (fun d1=>?_)<;>rw[d1]<;>cbv
 ·rw[hQ];cbv;rw[←hr,hT];unfold mq;rw[←hu,F.not_t d1];rfl
 have hT':T=l.foldl pq 1:=by rw[hT];unfold mq;rw[←hu,F.not_f d1];rfl
 refine ah hP (σ:=List (List Int)×List (List Int)×Int×Int×Option (List (List V))) (fun s=>match s.2.2.2.2 with
   | none=>[(0,R ea .sh),(2,I 0),(3,I s.2.2.1),(9,R ea .sh),(10,I (len ea)),(11,I s.2.2.2.1)]
   | some j=>[(0,R ea .sh),(2,I 0),(3,I s.2.2.1),(5,R j .sh),(9,R ea .sh),(10,I (len ea)),(11,I s.2.2.2.1)]) (fun s=>At s.2.2.2.1 s.2.1.length∧l=s.2.1++s.1∧s.1.foldl pq s.2.2.1=T) (fun s=>s.1.length) (l,[],1,0,none) rfl ⟨rfl,rfl,hT'.symm⟩ ?_
 intro c1 Q1 hc1 hQ1;rintro ⟨suf,pre,d,i,j⟩ ⟨hi,hl',hb⟩ ih
 simp only at hi hl' hb ih;rcases j with _ | _
 all_goals
  cbv;cases suf with
  | nil=>
   rw[F.lt_f hi la (by simp[hl'])];cbv
   rw[hQ1];cbv;rw[hQ];cbv;rw[←hr,←hb];rfl
  | cons x suf=>
   have hx:=w.2 x (by rw[hl'];simp)
   rw[List.foldl_cons] at hb;obtain ⟨nx,hnx⟩:=nm ((x.length:Int))
   have hc:pq d x=rz (d::nx::x):=by rw[hnx];rfl
   rw[F.lt_t hi la (by simp[hl'])];cbv
   obtain ⟨ix,hix⟩:=nm (pre.length * 1)
   obtain ⟨e1,he1⟩:=nm (row fI x)
   have l1:len e1=nx:=by rw[hnx];exact F.len_at he1
   have p0:at' 1 ea i=some (ix,[.row () e1]):=by rw[hix,he1];exact F.get hi hea hl' (fun _=>rfl) (by decide)
   rw[p0];cbv
   try (rw[show allS e1=true from F.scal he1 (fun _=>rfl)])
   try (rw[l1])
   cbv;obtain ⟨e2,he2⟩:=nm (row fI (d::nx::x))
   rw[show app 1 [[.int .i64 d],[.int .i64 nx]] e1=some e2 by rw[F.app' (f:=fI) (e1:=[[.int .i64 d],[.int .i64 nx]]) (l1:=[d,nx]) rfl he1 (fun _=>rfl) (by simp;omega),he2];rfl];cbv
   obtain ⟨d',hd'⟩:=nm (pq d x)
   rw[show o 269 [R e2 (.sp 0 0)]=some ⟨[I d'],[],none⟩ by rw[ho,hd',hc,he2];exact GO _ (by simp;omega) rfl];cbv
   rw[←hd'] at hb;refine ih (suf,pre++[x],d',add .i64 i 1,some e1) ⟨ao (F.inc hi (by simp[hl'] at w1;omega)) (by simp),by simp[hl'],hb⟩ (by simp)
theorem JN (n:Int) (h0:0 < n) (h1:n≤1099511627776):fix Tb md 355 [R [] .nl,I n]=some ⟨[R [] (.ow true)],[],none⟩:=by
 refine mO tb_355 (by decide) ?_
 show dy 2 [⟨.val,[⟨.row () [], .nl⟩]⟩,⟨.val,[⟨.int .i64 n, .sc⟩]⟩]=_;have h2:0 < n∧n≤(lim:Int):=⟨h0,by simpa [lim] using h1⟩
 simp only[dy,h2,and_self,if_true]
theorem GY (ls:List (List Int)) (h1:ls.length≤1099511627776) (h2:ls.flatten.length≤1099511627776) (h3:ls.flatten≠[]) {f0:Fl} (q0:ac f0=true):fix Tb md 304 [R (row fR ls) f0]=some ⟨[R (row fI ls.flatten) (.ow false)],[],none⟩:=by
 obtain ⟨et,het⟩:=nm (row fI ls.flatten)
 rw[←het];generalize hr:(⟨_,[],none⟩:Ret)=r
 have h4:0 < ls.flatten.length:=List.length_pos_iff.2 h3;obtain ⟨N,hN⟩:=nm (ls.flatten.length)
 rw[←hN] at h2 h4;obtain ⟨ea,hea⟩:=nm (row fR ls)
 rw[←hea];refine cJ (fn:=ir304) tb_304 rfl rfl (by decide) rfl ?_;intro Q hQ;simp only[aj,aV,List.map_cons,List.map_nil,ir304,ai q0,List.head?_nil,reduceCtorEq,if_false,cb,aa,ae,bp,al,aG,af,aH]
 intro add sub mul arith eq ne lt le gt ge neg conv mn mx not beq len at' ln bd cut app allS isNil mks set o hP F ho;have la:=F.len_at hea;cbv;refine ah hP (σ:=List (List Int)×List (List Int)×Int×Int×Option (List (List V))) (fun s=>match s.2.2.2.2 with
  | none=>[(0,R ea .sh),(2,R [] .nl),(3,I s.2.2.1),(9,R ea .sh),(10,I (len ea)),(11,I s.2.2.2.1)]
  | some j=>[(0,R ea .sh),(2,R [] .nl),(3,I s.2.2.1),(5,R j .sh),(9,R ea .sh),(10,I (len ea)),(11,I s.2.2.2.1)]) (fun s=>At s.2.2.2.1 s.2.1.length∧ls=s.2.1++s.1∧At s.2.2.1 s.2.1.flatten.length∧(s.2.2.2.2=none→s.2.1=[])) (fun s=>s.1.length) (ls,[],0,0,none) rfl ⟨rfl,rfl,rfl,fun _=>rfl⟩ ?_
 intro c9 Q1 hc9 hQ1;rintro ⟨suf,pre,n,i,j⟩ ⟨hi,hl',hb,hj⟩ ih
 simp only at hi hl' hb hj ih;cases suf with
 | nil=>
  have hpp:ls=pre:=by rw[hl',List.append_nil]
  cases j with
  | none=>exfalso;have:=hj rfl;rw[this] at hpp;rw[hpp] at hN;simp at hN;omega
  | some je=>
   cbv;rw[F.lt_f hi la (by simp[hl'])];cbv
   rw[hQ1];cbv;have hn1:0 < n∧n≤1099511627776:=by unfold At at hb;rw[←hpp,←hN] at hb;omega
   have c1:o 355 [R [] .nl,I n]=some ⟨[R [] (.ow true)],[],none⟩:=by rw[ho];exact JN n hn1.1 hn1.2
   rw[c1];cbv;clear ih hj hQ1 hc9;refine ah hP (σ:=List (List Int)×List (List Int)×List (List V)×Int×Option (List (List V)×Bool)) (fun s=>match s.2.2.2.2 with
    | none=>[(0,R ea .sh),(2,R [] .nl),(3,I n),(5,R je .sh),(6,R s.2.2.1 (.ow true)),(9,R ea .sh),(10,I (len ea)),(11,I i),(25,R ea .sh),(26,I (len ea)),(27,I s.2.2.2.1)]
    | some (k,true)=>[(0,R ea .sh),(2,R [] .nl),(3,I n),(5,R je .sh),(6,R s.2.2.1 (.ow true)),(8,R k .sh),(9,R ea .sh),(10,I (len ea)),(11,I i),(25,R ea .sh),(26,I (len ea)),(27,I s.2.2.2.1)]
    | some (k,false)=>[(0,R ea .sh),(2,R [] .nl),(3,I n),(5,R je .sh),(6,R s.2.2.1 (.ow false)),(8,R k .sh),(9,R ea .sh),(10,I (len ea)),(11,I i),(25,R ea .sh),(26,I (len ea)),(27,I s.2.2.2.1)]) (fun s=>At s.2.2.2.1 s.2.1.length∧ls=s.2.1++s.1∧s.2.2.1=row fI s.2.1.flatten∧(match s.2.2.2.2 with | some (_,false)=>True | _=>s.2.1.flatten=[])) (fun s=>s.1.length) (ls,[],[],0,none) rfl ⟨rfl,rfl,rfl,rfl⟩ ?_
   intro c8 Q2 hc8 hQ2;rintro ⟨suf,pre,eo,m,k⟩ ⟨hm,hk',he,hg⟩ ih
   simp only at hm hk' he hg ih;rcases k with _ | ⟨kk,_ | _⟩
   all_goals
    simp only at hg;cases suf with
    | nil=>
     have hp2:ls=pre:=by rw[hk',List.append_nil]
     first
      | (exfalso;rw[hp2,hg] at hN;simp at hN;omega)
      | (cbv
         rw[F.lt_f hm la (by simp[hk'])];cbv
         rw[hQ2];cbv;rw[hQ];cbv;rw[←hr,het,he,hp2])
    | cons x suf=>
     have hpl:pre.flatten.length+x.length≤1099511627776:=by
      have:ls.flatten.length=pre.flatten.length+(x.length+suf.flatten.length):=by rw[hk'];simp
      omega
     have hpr:pre.length < ls.length:=by rw[hk'];simp
     obtain ⟨ix,hix⟩:=nm (pre.length * 1)
     obtain ⟨e1,he1⟩:=nm (row fI x)
     have p0:at' 1 ea m=some (ix,[.row () e1]):=by rw[hix,he1];exact F.get hm hea hk' (fun _=>rfl) (by decide)
     have p1:allS e1=true:=F.scal he1 (fun _=>rfl)
     have p3:isNil e1=x.isEmpty:=F.nil he1;obtain ⟨eo',heo'⟩:=nm (row fI (pre++[x]).flatten)
     have p2:app 1 eo e1=some eo':=by
      rw[heo'];have:=F.app' (k:=1) he he1 (fun _=>rfl) hpl
      rw[this];simp
     have hm':At (add .i64 m 1) (pre++[x]).length:=ao (F.inc hm (by omega)) (by simp)
     have hk2:ls=(pre++[x])++suf:=by rw[hk'];simp
     cbv;rw[F.lt_t hm la (by simp[hk'])];cbv
     rw[p0];cbv;rw[p1];cbv;rw[p2];cbv
     first
      | (refine ih (suf,pre++[x],eo',add .i64 m 1,some (e1,false)) ⟨hm',hk2,heo',trivial⟩ (by simp))
      | (rw[p1];cbv
         rw[p3];cases x with
         | nil=>cbv;exact ih (suf,pre++[[]],eo',add .i64 m 1,some (e1,true)) ⟨hm',hk2,heo',by simp only;rw[List.flatten_append,hg];rfl⟩ (by simp)
         | cons a x=>cbv;exact ih (suf,pre++[a::x],eo',add .i64 m 1,some (e1,false)) ⟨hm',hk2,heo',trivial⟩ (by simp))
 | cons x suf=>
  have hpl:pre.flatten.length+x.length≤1099511627776:=by
   have:ls.flatten.length=pre.flatten.length+(x.length+suf.flatten.length):=by rw[hl'];simp
   omega
  have hpr:pre.length < ls.length:=by rw[hl'];simp
  obtain ⟨ix,hix⟩:=nm (pre.length * 1)
  obtain ⟨e1,he1⟩:=nm (row fI x)
  have lx:=F.len_at he1;have p0:at' 1 ea i=some (ix,[.row () e1]):=by rw[hix,he1];exact F.get hi hea hl' (fun _=>rfl) (by decide)
  have hb':At (add .i64 n (len e1)) (pre++[x]).flatten.length:=by
   unfold At at *;rw[F.add,hb,lx,aW (by omega) (by omega)];simp
  have g1:lt (add .i64 n (len e1)) 0=false:=F.lt_f hb' at0 (Nat.zero_le _);have hi':At (add .i64 i 1) (pre++[x]).length:=ao (F.inc hi (by omega)) (by simp)
  have hl2:ls=(pre++[x])++suf:=by rw[hl'];simp
  rcases j with _ | _
  all_goals
   cbv;rw[F.lt_t hi la (by simp[hl'])];cbv
   rw[p0];cbv;rw[g1];cbv;exact ih (suf,pre++[x],add .i64 n (len e1),add .i64 i 1,some e1) ⟨hi',hl2,hb',by simp⟩ (by simp)
theorem Jo (k:Int) (l:List Int) (hl:l.length≤1073741824) {f0:Fl} (q0:ac f0=true):fix Tb md 284 [I k,R (row fI l) f0]=some ⟨[I (ti k l)],[],none⟩:=by
 obtain ⟨T,hT⟩:=nm (ti k l)
 rw[←hT];generalize hr:(⟨_,[],none⟩:Ret)=r
 obtain ⟨ea,hea⟩:=nm (row fI l)
 rw[←hea];obtain ⟨e2,he2⟩:=nm (row fI (k::l++[k]))
 refine cJ (fn:=ir284) tb_284 rfl rfl (by decide) rfl ?_;intro Q hQ;simp only[aj,aV,List.map_cons,List.map_nil,ir284,ai q0,List.head?_nil,reduceCtorEq,if_false,cb,aa,ae,bp,al,aG,af,aH]
 intro add sub mul arith eq ne lt le gt ge neg conv mn mx not beq len at' ln bd cut app allS isNil mks set o hP F ho;have c0:o 304 [R [[.row () [[.int .i64 k]]],[.row () ea],[.row () [[.int .i64 k]]]] (.sp 0 0)]=some ⟨[R e2 (.ow false)],[],none⟩:=by
  rw[ho,he2,hea];have:=GY [[k],l,[k]] (by simp) (by simp;omega) (by simp) (f0:= .sp 0 0) rfl
  simpa [row,fR,fI] using this
 have c1:o 269 [R e2 (.sp 0 0)]=some ⟨[I T],[],none⟩:=by rw[ho,he2,hT];exact GO _ (by simp;omega) rfl
 cbv;rw[c0];cbv;rw[c1];cbv;rw[hQ];cbv;exact congrArg some hr
theorem Bu (k:Int) (l:List (List Int)) (s:Int) (w:l.length≤1048576∧∀ y∈l,y.length≤1048576) {f0:Fl} (q0:ac f0=true):fix Tb md 144 [I k,R (row fR l) f0,I s]=some ⟨[I (kQ k l s)],[],none⟩:=by
 obtain ⟨a,ha⟩:=nm (AV k)
 obtain ⟨b,hb⟩:=nm (qz l)
 obtain ⟨c,hc⟩:=nm (inR s 0 1)
 obtain ⟨n,hn⟩:=nm (mq l)
 obtain ⟨m,hm⟩:=nm (ti k [s,n])
 rw[show kQ k l s=if a&&b&&c then m else 0 by rw[ha,hb,hc,hm,hn];rfl]
 generalize hr:(⟨_,[],none⟩:Ret)=r
 obtain ⟨el,hel⟩:=nm (row fR l)
 rw[←hel];refine cJ (fn:=ir144) tb_144 rfl rfl (by decide) rfl ?_;intro Q hQ;simp only[aj,aV,List.map_cons,List.map_nil,ir144,ai q0,List.head?_nil,reduceCtorEq,if_false,cb,aa,ae,bp,al,aG,af,aH]
 intro add sub mul arith eq ne lt le gt ge neg conv mn mx not beq len at' ln bd cut app allS isNil mks set o hP F ho;have c1:o 114 [I k]=some ⟨[B a],[],none⟩:=by rw[ho,ha];exact II ..
 have c2:o 73 [R el (.sp 0 0)]=some ⟨[B b],[],none⟩:=by rw[ho,hb,hel];exact HQ _ w rfl
 have c3:o 232 [I s,I 0,I 1]=some ⟨[B c],[],none⟩:=by rw[ho,hc];exact fF ..
 have c4:o 121 [R el (.sp 0 0)]=some ⟨[I n],[],none⟩:=by rw[ho,hn,hel];exact GB _ w rfl
 have c5:o 284 [I k,R [[.int .i64 s],[.int .i64 n]] (.sp 1 0)]=some ⟨[I m],[],none⟩:=by rw[ho,hm];exact Jo k [s,n] (by simp) rfl
 cbv;rw[c1];cbv;refine both (fun d1=>?_) (fun d1=>?_)<;>rw[d1]<;>cbv
 ·rw[hQ];cbv;rw[←hr,F.not_t d1];rfl
 rw[c2];cbv;refine both (fun d2=>?_) (fun d2=>?_)<;>rw[d2]<;>cbv
 ·rw[hQ];cbv;rw[←hr,F.not_f d1,F.not_t d2];rfl
 rw[c3];cbv;refine both (fun d3=>?_) (fun d3=>?_)<;>rw[d3]<;>cbv
 ·rw[hQ];cbv;rw[←hr,F.not_f d1,F.not_f d2,F.not_t d3];rfl
 rw[c4];cbv;rw[c5];cbv;rw[hQ];cbv;rw[←hr,F.not_f d1,F.not_f d2,F.not_f d3];rfl
theorem Bv (k:Int) (l:List (List Int)) (s f:Int) (w:l.length≤1048576∧∀ y∈l,y.length≤1048576) {f0:Fl} (q0:ac f0=true):fix Tb md 146 [I k,R (row fR l) f0,I s,I f]=some ⟨[B (mr k l s f)],[],none⟩:=by
 obtain ⟨n,hn⟩:=nm (kQ k l s)
 obtain ⟨a,ha⟩:=nm (decide (f=0))
 obtain ⟨b,hb⟩:=nm (decide (n=f))
 rw[show mr k l s f=(!a&&b) by rw[ha,hb,hn];rfl]
 generalize hr:(⟨_,[],none⟩:Ret)=r
 obtain ⟨el,hel⟩:=nm (row fR l)
 rw[←hel];refine cJ (fn:=ir146) tb_146 rfl rfl (by decide) rfl ?_;intro Q hQ;simp only[aj,aV,List.map_cons,List.map_nil,ir146,ai q0,List.head?_nil,reduceCtorEq,if_false,cb,aa,ae,bp,al,aG,af,aH]
 intro add sub mul arith eq ne lt le gt ge neg conv mn mx not beq len at' ln bd cut app allS isNil mks set o hP F ho;have c1:o 144 [I k,R el (.sp 1 0),I s]=some ⟨[I n],[],none⟩:=by rw[ho,hn,hel];exact Bu k l s w rfl
 have g1:ne f 0= !a:=by rw[F.ne,ha];simp
 have g2:eq f n=b:=by rw[F.eq,hb];simp[eq_comm]
 cbv;rw[g1];refine both (fun d1=>?_) (fun d1=>?_)<;>rw[d1]<;>cbv
 ·rw[c1];cbv;rw[g2];cbv;rw[hQ];cbv;rw[←hr,d1];rfl
 ·rw[hQ];cbv;rw[←hr,d1];rfl
theorem Bo (v:Int) (l:List Ext) (hl:l.length≤1099511627776) (w:∀ y∈l,y.body.length≤1099511627776) {f0:Fl} (h0:ac f0=true):fix Tb md 118 [ae v (row ab l) f0]=some ⟨[B (fN v l)],[],none⟩:=by
 obtain ⟨a,ha⟩:=nm (inR v 1 9)
 obtain ⟨b,hb⟩:=nm (bI l)
 rw[show fN v l=(a&&b) by rw[ha,hb];rfl]
 generalize hr:(⟨_,[],none⟩:Ret)=r
 obtain ⟨ea,hea⟩:=nm (row ab l)
 rw[←hea];refine cJ (fn:=ir118) tb_118 rfl rfl (by decide) rfl ?_;intro Q hQ;simp only[aj,aV,List.map_cons,List.map_nil,ir118,ai h0,List.head?_nil,reduceCtorEq,if_false,cb,aa,ae,bp,al,aG,af,aH]
 intro add sub mul arith eq ne lt le gt ge neg conv mn mx not beq len at' ln bd cut app allS isNil mks set o hP F ho;have c1:o 232 [I v,I 1,I 9]=some ⟨[B a],[],none⟩:=by rw[ho,ha];exact fF ..
 have c2:o 258 [R ea (.sp 0 0)]=some ⟨[B b],[],none⟩:=by rw[ho,hb,hea];exact vy _ hl w rfl
 cbv;rw[c1];cbv;refine both (fun d1=>?_) (fun d1=>?_)<;>rw[d1]<;>cbv
 ·rw[c2];cbv;rw[hQ];cbv;rw[←hr,d1];rfl
 ·rw[hQ];cbv;rw[←hr,d1];rfl
theorem GV (l:List Ext) (hok:bI l=true) {f0:Fl} (h0:ac f0=true):fix Tb md 294 [R (row ab l) f0]=some ⟨[R (row fI (iG l)) (.ow false),B true],[],none⟩:=by
 obtain ⟨hl,hw⟩:=pX hok
 obtain ⟨et,het⟩:=nm (row fI (iG l))
 rw[←het];generalize hr:(⟨_,[],none⟩:Ret)=r
 obtain ⟨ea,hea⟩:=nm (row ab l)
 rw[←hea];obtain ⟨nl,hnl⟩:=nm ((l.length:Int))
 obtain ⟨e0,he0⟩:=nm (row fI [nl])
 have hen:iG l=nl::l.flatMap exI:=by rw[hnl];rfl
 refine cJ (fn:=ir294) tb_294 rfl rfl (by decide) rfl ?_;intro Q hQ;simp only[aj,aV,List.map_cons,List.map_nil,ir294,ai h0,List.head?_nil,reduceCtorEq,if_false,cb,aa,ae,bp,al,aG,af,aH]
 intro add sub mul arith eq ne lt le gt ge neg conv mn mx not beq len at' ln bd cut app allS isNil mks set o hP F ho;have la:=F.len_at hea;have lna:len ea=nl:=by rw[hnl];exact la
 have la':At nl l.length:=hnl;have c1:o 258 [R ea (.sp 0 0)]=some ⟨[B true],[],none⟩:=by rw[ho,hea,←hok];exact vy _ (by omega) (fun y hy=>by have:=(hw y hy).1;omega) rfl
 cbv;rw[c1];cbv;rw[show not true=false by rw[F.not];rfl];cbv
 rw[lna];refine ah hP (σ:=List Ext×List Ext×List (List V)×Int×Option (Int×List (List V))) (fun s=>match s.2.2.2.2 with | none=>[(0,R ea .sh),(2,R [] .nl),(3,B false),(4,R s.2.2.1 (.ow false)),(13,R ea .sh),(14,I nl),(15,I s.2.2.2.1)] | some j=>[(0,R ea .sh),(2,R [] .nl),(3,B false),(4,R s.2.2.1 (.ow false)),(6,⟨.ptr 38 0,[]⟩),(13,R ea .sh),(14,I nl),(15,I s.2.2.2.1),(38,⟨.box (),[⟨.int .i64 j.1, .sc⟩,⟨.row () j.2, .sh⟩]⟩)]) (fun s=>At s.2.2.2.1 s.2.1.length∧l=s.2.1++s.1∧s.2.2.1=row fI (nl::s.2.1.flatMap exI)) (fun s=>s.1.length) (l,[],[[.int .i64 nl]],0,none) rfl ⟨rfl,rfl,rfl⟩ ?_
 intro c1 Q1 hc1 hQ1;rintro ⟨suf,pre,eo,i,j⟩ ⟨hi,hl',hb⟩ ih
 simp only at hi hl' hb ih;have hpre:pre.length≤6:=by rw[hl'] at hl;simp at hl;omega
 have hfl:(pre.flatMap exI).length≤36:=by have:=sk (l:=pre) (fun y hy=>(hw y (by rw[hl'];simp[hy])).1);omega
 rcases j with _ | ⟨j1,j2⟩
 all_goals
  cbv;cases suf with
  | nil=>
   rw[F.lt_f hi la' (by simp[hl'])];cbv
   rw[hQ1];cbv;rw[hQ];cbv;rw[←hr,het,hb,hen,hl',List.append_nil]
  | cons x suf=>
   obtain ⟨ix,hix⟩:=nm (pre.length * 2)
   obtain ⟨e1,he1⟩:=nm (row fI x.body)
   obtain ⟨nb,hnb⟩:=nm ((x.body.length:Int))
   have hx:=(hw x (by rw[hl'];simp)).1
   have hxi:exI x=x.tag::nb::x.body:=by rw[hnb];rfl
   have p0:at' 2 ea i=some (ix,[.int .i64 x.tag, .row () e1]):=by rw[hix,he1];exact F.get hi hea hl' (fun _=>rfl) (by decide)
   have l1:len e1=nb:=by rw[hnb];exact F.len_at he1
   obtain ⟨eo1,heo1⟩:=nm (row fI (nl::pre.flatMap exI++[x.tag,nb]))
   obtain ⟨eo2,heo2⟩:=nm (row fI (nl::(pre++[x]).flatMap exI))
   have q1:app 1 eo [[.int .i64 x.tag],[.int .i64 nb]]=some eo1:=by
    have h:=F.app' (f:=fI) (k:=1) (e2:=[[.int .i64 x.tag],[.int .i64 nb]]) (l2:=[x.tag,nb]) hb rfl (fun _=>rfl) (by simp only[List.length_cons,List.length_append,List.length_nil];omega)
    rw[h,heo1]
   have q2:app 1 eo1 e1=some eo2:=by
    have h:=F.app' (f:=fI) (k:=1) heo1 he1 (fun _=>rfl) (by simp only[List.length_cons,List.length_append,List.length_nil];omega)
    rw[h,heo2,List.flatMap_append,List.flatMap_cons,hxi];simp
   have q3:allS [[.int .i64 x.tag],[.int .i64 nb]]=true:=by rw[F.allS];rfl
   have q4:allS e1=true:=F.scal he1 (fun _=>rfl)
   rw[F.lt_t hi la' (by simp[hl'])];cbv
   rw[p0];cbv
   repeat' (first | (rw[p0];cbv) | (rw[l1];cbv) | (rw[q1];cbv) | (rw[q2];cbv) | (rw[q3];cbv) | (rw[q4];cbv))
   refine ih (suf,pre++[x],eo2,add .i64 i 1,some (x.tag,e1)) ⟨ao (F.inc hi (by omega)) (by simp),by simp[hl'],heo2⟩ (by simp)
end Go.Vm
