/- What the functions answer. -/
import Derived.Test.YtfidmkhcipcnmaaGreatGDTab
import Derived.Test.YtfidmkhcipcnmaaGreatGDFA
set_option maxHeartbeats 4000000
set_option maxRecDepth 10000
set_option linter.unusedVariables false
set_option linter.unusedSimpArgs false
namespace Go.Vm
def gA (l:List Ext) (e:Ext):Bool:=match l.find? (ie e.tag) with | none=>false | some d=>decide (d.body=e.body)
def lH (x h:Hello):Bool:=x.versions.all (bq h.versions)&&x.exts.all (gA h.exts)
theorem vb {α:Type} (p:α→Bool):∀ (l:List α) (i:Int),(l.find? p=none∧bz p l i= -1)∨∃ (pre:List α) (d:α) (suf:List α),l=pre++d::suf∧bz p l i=i+(pre.length:Int)∧l.find? p=some d
 | [],i=> .inl ⟨rfl,rfl⟩
 | x::l,i=>by
  by_cases hx:p x=true
  ·exact .inr ⟨[],x,l,rfl,by unfold bz;rw[if_pos hx];simp,by rw[List.find?_cons,hx]⟩
  ·have hx':p x=false:=by simpa using hx
   rcases vb p l (i+1) with ⟨h1,h2⟩ | ⟨pre,d,suf,h1,h2,h3⟩
   ·exact .inl ⟨by rw[List.find?_cons,hx'];exact h1,by unfold bz;rw[if_neg hx];exact h2⟩
   ·exact .inr ⟨x::pre,d,suf,by rw[h1];rfl,by unfold bz;rw[if_neg hx,h2];simp;omega,by rw[List.find?_cons,hx'];exact h3⟩
theorem lB (l:List Ext) (t:Int):(l.find? (ie t)=none∧dE l t= -1)∨∃ (pre:List Ext) (d:Ext) (suf:List Ext),l=pre++d::suf∧At (dE l t) pre.length∧0≤dE l t∧l.find? (ie t)=some d:=by
 rcases vb (ie t) l 0 with ⟨h1,h2⟩ | ⟨pre,d,suf,h1,h2,h3⟩
 ·exact .inl ⟨h1,h2⟩
 ·refine .inr ⟨pre,d,suf,h1,?_,?_,h3⟩
  ·unfold At;unfold dE;rw[h2];simp
  ·unfold dE;rw[h2];omega
theorem fE (n lo hi:Int):fix Tb md 230 [I n,I lo,I hi]=some ⟨[B (inR n lo hi)],[],none⟩:=by
 refine bB (fn:=ir230) tb_230 rfl rfl (by decide) rfl ?_;simp only[aj,aV,List.map_cons,List.map_nil,ir230,List.head?_nil,reduceCtorEq,if_false,cb,aa,ae,bp,al,aG,af,aH]
 generalize hr:(⟨_,[],none⟩:Ret)=r
 intro add sub mul arith eq ne lt le gt ge neg conv mn mx not beq len at' ln bd cut app allS isNil mks set o hP F ho;cbv
 repeat' (refine both (fun c=>?_) (fun c=>?_)<;>(try rw[c])<;>(try cbv))
 all_goals (simp only[F.le,F.ge,F.lt,F.gt] at *;subst hr;(try simp_all[inR])<;>(try omega))
def br (b:List Int) (x:Int):Bool:= !bq b x
theorem GT (l b:List Int) (hl:l.length≤1073741824) (hb':b.length≤1073741824) {f0 f1:Fl} (h0:ac f0=true) (h1:ac f1=true):fix Tb md 292 [R (row fI l) f0,R (row fI b) f1]=some ⟨[R (row fI (sel (br b) idI l)) (.ow false)],[],none⟩:=by
 obtain ⟨et,het⟩:=nm (row fI (sel (br b) idI l))
 rw[←het];generalize hr:(⟨_,[],none⟩:Ret)=r
 obtain ⟨ea,hea⟩:=nm (row fI l)
 obtain ⟨eb,heb⟩:=nm (row fI b)
 rw[←hea,←heb];refine cJ (fn:=ir292) tb_292 rfl rfl (by decide) rfl ?_;intro Q hQ;simp only[aj,aV,List.map_cons,List.map_nil,ir292,ai h0,ai h1,List.head?_nil,reduceCtorEq,if_false,cb,aa,ae,bp,al,aG,af,aH]
 intro add sub mul arith eq ne lt le gt ge neg conv mn mx not beq len at' ln bd cut app allS isNil mks set o hP F ho;have la:=F.len_at hea;cbv;refine ah hP (σ:=List Int×List Int×List (List V)×Int) (fun s=>[(0,R ea .sh),(1,R eb .sh),(4,R [] .nl),(5,R s.2.2.1 (.ow false)),(6,I s.2.2.2)]) (fun s=>At s.2.2.2 s.2.1.length∧l=s.2.1++s.1∧s.2.2.1=row fI (sel (br b) idI s.2.1)) (fun s=>s.1.length) (l,[],[],0) rfl ⟨rfl,rfl,rfl⟩ ?_
 intro c1 Q1 hc1 hQ1;rintro ⟨suf,pre,eo,i⟩ ⟨hi,hl',hb⟩ ih
 simp only at hi hl' hb ih;cbv;cases suf with
 | nil=>
  rw[F.lt_f hi la (by simp[hl'])];cbv
  rw[hQ1];cbv;rw[hQ];cbv;rw[←hr,het,hb,hl',List.append_nil]
 | cons x suf=>
  obtain ⟨ix,hix⟩:=nm (pre.length * 1)
  have hpre:pre.length≤1073741824:=by rw[hl'] at hl;simp at hl;omega
  have hs:(sel (br b) idI pre).length≤pre.length:=aI;have hi':At (add .i64 i 1) (pre++[x]).length:=ao (F.inc hi (by omega)) (by simp)
  have hl2:l=(pre++[x])++suf:=by rw[hl'];simp
  have hmem:x∈l:=by rw[hl'];simp
  have p0:at' 1 ea i=some (ix,[.int .i64 x]):=by rw[hix];exact F.get hi hea hl' (fun _=>rfl) (by decide)
  obtain ⟨v,hv⟩:=nm (bq b x)
  have hP:br b x= !v:=by rw[hv];rfl
  have c2:o 285 [R eb (.sp 0 0),I x]=some ⟨[B v],[],none⟩:=by rw[ho,hv,heb];exact jD _ _ (by omega) rfl
  rw[F.lt_t hi la (by simp[hl'])];cbv
  rw[p0];cbv;rw[c2];cbv;refine both (fun d=>?_) (fun d=>?_)<;>rw[d]<;>cbv
  ·rw[p0];cbv;rw[show allS [[.int .i64 x]]=true by rw[F.allS];rfl];cbv
   obtain ⟨eo',heo'⟩:=nm (row fI (sel (br b) idI pre++[idI x]))
   rw[show app 1 eo [[.int .i64 x]]=some eo' by rw[heo'];exact F.push hb (fun _=>rfl) rfl (by omega)];cbv
   refine ih (suf,pre++[x],eo',add .i64 i 1) ⟨hi',hl2,by simp only;rw[heo',dz (by rw[hP,F.not_t d];rfl)]⟩ (by simp)
  ·refine ih (suf,pre++[x],eo,add .i64 i 1) ⟨hi',hl2,by simp only;rw[hb,d6 (by rw[hP,F.not_f d];rfl)]⟩ (by simp)
def gaP (x:Hello) (e:Ext):Bool:=decide (dE x.exts e.tag < 0)&&inR e.tag 0 255
def gaF (e:Ext):Int:=1000+e.tag
def dI (h x:Hello):List Int:=sel (br x.versions) idI h.versions++sel (gaP x) gaF h.exts
theorem sW (h x:Hello):(dI h x).length≤h.versions.length+h.exts.length:=by
 unfold dI;have h1:(sel (br x.versions) idI h.versions).length≤h.versions.length:=aI;have h2:(sel (gaP x) gaF h.exts).length≤h.exts.length:=aI;rw[List.length_append];omega
theorem GE (h x:Hello) (a1:h.versions.length≤1048576) (a2:x.versions.length≤1048576) (a3:h.exts.length≤1048576) (a4:x.exts.length≤1048576) {f0 f1 f2 f3:Fl} (q0:ac f0=true) (q1:ac f1=true) (q2:ac f2=true) (q3:ac f3=true):fix Tb md 149 [aa (row fI h.versions) (row ab h.exts) f0 f1,aa (row fI x.versions) (row ab x.exts) f2 f3]=some ⟨[R (row fI (dI h x)) (.ow false)],[],none⟩:=by
 obtain ⟨et,het⟩:=nm (row fI (dI h x))
 rw[←het];generalize hr:(⟨_,[],none⟩:Ret)=r
 obtain ⟨dv,hdv⟩:=nm (row fI h.versions)
 obtain ⟨dx,hdx⟩:=nm (row ab h.exts)
 obtain ⟨ev,hev⟩:=nm (row fI x.versions)
 obtain ⟨ex,hex⟩:=nm (row ab x.exts)
 rw[←hdv,←hdx,←hev,←hex];obtain ⟨W,hW⟩:=nm (sel (br x.versions) idI h.versions)
 obtain ⟨ew,hew⟩:=nm (row fI W)
 have hWl:W.length≤1048576:=by rw[hW];exact Nat.le_trans aI a1
 refine cJ (fn:=ir149) tb_149 rfl rfl (by decide) rfl ?_;intro Q hQ;simp only[aj,aV,List.map_cons,List.map_nil,ir149,ai q0,ai q1,ai q2,ai q3,List.head?_nil,reduceCtorEq,if_false,cb,aa,ae,bp,al,aG,af,aH]
 intro add sub mul arith eq ne lt le gt ge neg conv mn mx not beq len at' ln bd cut app allS isNil mks set o hP F ho;have lx:=F.len_at hdx;have c1:o 292 [R dv (.sp 0 0),R ev (.sp 1 0)]=some ⟨[R ew (.ow false)],[],none⟩:=by rw[ho,hew,hW,hdv,hev];exact GT _ _ (by omega) (by omega) rfl rfl
 cbv;rw[c1];cbv;refine ah hP (σ:=List Ext×List Ext×List (List V)×Int) (fun s=>[(0,aa dv dx .sh .sh),(1,aa ev ex .sh .sh),(2,⟨.ptr 51 0,[]⟩),(3,⟨.ptr 52 0,[]⟩),(4,R [] .nl),(5,R s.2.2.1 (.ow false)),(6,I s.2.2.2),(51,⟨.box (),[⟨.row () dv, .sh⟩,⟨.row () dx, .sh⟩]⟩),(52,⟨.box (),[⟨.row () ev, .sh⟩,⟨.row () ex, .sh⟩]⟩)]) (fun s=>At s.2.2.2 s.2.1.length∧h.exts=s.2.1++s.1∧s.2.2.1=row fI (W++sel (gaP x) gaF s.2.1)) (fun s=>s.1.length) (h.exts,[],ew,0) rfl ⟨rfl,rfl,by rw[hew];simp[sel]⟩ ?_
 intro c1 Q1 hc1 hQ1;rintro ⟨suf,pre,eo,i⟩ ⟨hi,hl',hb⟩ ih
 simp only at hi hl' hb ih;cbv;cases suf with
 | nil=>
  rw[F.lt_f hi lx (by simp[hl'])];cbv
  rw[hQ1];cbv;rw[hQ];cbv;rw[←hr,het,hb,dI,hl',List.append_nil,hW]
 | cons y suf=>
  obtain ⟨ix,hix⟩:=nm (pre.length * 2)
  obtain ⟨e1,he1⟩:=nm (row fI y.body)
  have hpre:pre.length≤1048576:=by rw[hl'] at a3;simp at a3;omega
  have hs:(sel (gaP x) gaF pre).length≤pre.length:=aI;have hi':At (add .i64 i 1) (pre++[y]).length:=ao (F.inc hi (by omega)) (by simp)
  have hl2:h.exts=(pre++[y])++suf:=by rw[hl'];simp
  have p0:at' 2 dx i=some (ix,[.int .i64 y.tag, .row () e1]):=by rw[hix,he1];exact F.get hi hdx hl' (fun _=>rfl) (by decide)
  obtain ⟨v,hvv⟩:=nm (dE x.exts y.tag)
  obtain ⟨b1,hb1⟩:=nm (decide (v < 0))
  obtain ⟨b2,hb2⟩:=nm (inR y.tag 0 255)
  have hP':gaP x y=(b1&&b2):=by rw[hb1,hb2,hvv];rfl
  have c2:o 286 [R ex (.sp 0 0),I y.tag]=some ⟨[I v],[],none⟩:=by rw[ho,hvv,hex];exact vB _ _ (by omega) rfl
  have c3:o 230 [I y.tag,I 0,I 255]=some ⟨[B b2],[],none⟩:=by rw[ho,hb2];exact fE ..
  have g1:lt v 0=b1:=by rw[F.lt,hb1]
  obtain ⟨eo',heo'⟩:=nm (row fI (W++sel (gaP x) gaF pre++[gaF y]))
  have q1:b2=true→app 1 eo [[.int .i64 (add .i64 1000 y.tag)]]=some eo':=by
   intro q;rw[hb2] at q;simp[inR] at q;rw[show add .i64 1000 y.tag=gaF y by rw[F.add,aW (by omega) (by omega)];rfl,heo']
   exact F.push hb (fun _=>rfl) rfl (by rw[List.length_append];omega)
  have q2:allS [[.int .i64 (add .i64 1000 y.tag)]]=true:=by rw[F.allS];rfl
  rw[F.lt_t hi lx (by simp[hl'])];cbv
  rw[p0];cbv;rw[c2];cbv;rw[g1];cbv;refine both (fun d1=>?_) (fun d1=>?_)<;>rw[d1]<;>cbv
  ·rw[p0];cbv;rw[c3];cbv;refine both (fun d2=>?_) (fun d2=>?_)<;>rw[d2]<;>cbv
   ·rw[p0];cbv;rw[q2];cbv;rw[q1 d2];cbv;refine ih (suf,pre++[y],eo',add .i64 i 1) ⟨hi',hl2,by simp only;rw[heo',dz (by rw[hP',d1,d2];rfl)];simp⟩ (by simp)
   ·refine ih (suf,pre++[y],eo,add .i64 i 1) ⟨hi',hl2,by simp only;rw[hb,d6 (by rw[hP',d2];simp)]⟩ (by simp)
  ·refine ih (suf,pre++[y],eo,add .i64 i 1) ⟨hi',hl2,by simp only;rw[hb,d6 (by rw[hP',d1];rfl)]⟩ (by simp)
def eY (_:Ext):Bool:=true
theorem ED (l:List Ext) (hl:l.length≤1073741824) {f0:Fl} (h0:ac f0=true):fix Tb md 280 [R (row ab l) f0]=some ⟨[R (row fI (sel eY Ext.tag l)) (.ow false)],[],none⟩:=by
 obtain ⟨et,het⟩:=nm (row fI (sel eY Ext.tag l))
 rw[←het];generalize hr:(⟨_,[],none⟩:Ret)=r
 obtain ⟨ea,hea⟩:=nm (row ab l)
 rw[←hea];refine cJ (fn:=ir280) tb_280 rfl rfl (by decide) rfl ?_;intro Q hQ;simp only[aj,aV,List.map_cons,List.map_nil,ir280,ai h0,List.head?_nil,reduceCtorEq,if_false,cb,aa,ae,bp,al,aG,af,aH]
 intro add sub mul arith eq ne lt le gt ge neg conv mn mx not beq len at' ln bd cut app allS isNil mks set o hP F ho;have la:=F.len_at hea;cbv;refine ah hP (σ:=List Ext×List Ext×List (List V)×Int) (fun s=>[(0,R ea .sh),(2,R [] .nl),(3,R s.2.2.1 (.ow false)),(4,I s.2.2.2)]) (fun s=>At s.2.2.2 s.2.1.length∧l=s.2.1++s.1∧s.2.2.1=row fI (sel eY Ext.tag s.2.1)) (fun s=>s.1.length) (l,[],[],0) rfl ⟨rfl,rfl,rfl⟩ ?_
 intro c1 Q1 hc1 hQ1;rintro ⟨suf,pre,eo,i⟩ ⟨hi,hl',hb⟩ ih
 simp only at hi hl' hb ih;cbv;cases suf with
 | nil=>
  rw[F.lt_f hi la (by simp[hl'])];cbv
  rw[hQ1];cbv;rw[hQ];cbv;rw[←hr,het,hb,hl',List.append_nil]
 | cons x suf=>
  obtain ⟨ix,hix⟩:=nm (pre.length * 2)
  have hpre:pre.length≤1073741824:=by rw[hl'] at hl;simp at hl;omega
  have hs:(sel eY Ext.tag pre).length≤pre.length:=aI;have hi':At (add .i64 i 1) (pre++[x]).length:=ao (F.inc hi (by omega)) (by simp)
  have hl2:l=(pre++[x])++suf:=by rw[hl'];simp
  have hmem:x∈l:=by rw[hl'];simp
  obtain ⟨e1,he1⟩:=nm (row fI x.body)
  have p0:at' 2 ea i=some (ix,[.int .i64 x.tag, .row () e1]):=by rw[hix,he1];exact F.get hi hea hl' (fun _=>rfl) (by decide)
  rw[F.lt_t hi la (by simp[hl'])];cbv
  rw[p0];cbv;rw[show allS [[.int .i64 x.tag]]=true by rw[F.allS];rfl];cbv
  obtain ⟨eo',heo'⟩:=nm (row fI (sel eY Ext.tag pre++[Ext.tag x]))
  rw[show app 1 eo [[.int .i64 x.tag]]=some eo' by rw[heo'];exact F.push hb (fun _=>rfl) rfl (by omega)];cbv
  refine ih (suf,pre++[x],eo',add .i64 i 1) ⟨hi',hl2,by simp only;rw[heo',dz rfl]⟩ (by simp)
theorem nc (l:List Ext) (hl:l.length≤1073741824) {f0:Fl} (h0:ac f0=true):fix Tb md 179 [R (row ab l) f0]=some ⟨[R (row fI (sel eY Ext.tag l)) (.ow false)],[],none⟩:=by
 obtain ⟨et,het⟩:=nm (row fI (sel eY Ext.tag l))
 rw[←het];generalize hr:(⟨_,[],none⟩:Ret)=r
 obtain ⟨ea,hea⟩:=nm (row ab l)
 rw[←hea];refine cJ (fn:=ir179) tb_179 rfl rfl (by decide) rfl ?_;intro Q hQ;simp only[aj,aV,List.map_cons,List.map_nil,ir179,ai h0,List.head?_nil,reduceCtorEq,if_false,cb,aa,ae,bp,al,aG,af,aH]
 intro add sub mul arith eq ne lt le gt ge neg conv mn mx not beq len at' ln bd cut app allS isNil mks set o hP F ho;have la:=F.len_at hea;cbv;refine ah hP (σ:=List Ext×List Ext×List (List V)×Int×Option (Int×List (List V))) (fun s=>match s.2.2.2.2 with | none=>[(0,R ea .sh),(2,R [] .nl),(3,R s.2.2.1 (.ow false)),(7,R ea .sh),(8,I (len ea)),(9,I s.2.2.2.1)] | some j=>[(0,R ea .sh),(2,R [] .nl),(3,R s.2.2.1 (.ow false)),(5,⟨.ptr 25 0,[]⟩),(7,R ea .sh),(8,I (len ea)),(9,I s.2.2.2.1),(25,⟨.box (),[⟨.int .i64 j.1, .sc⟩,⟨.row () j.2, .sh⟩]⟩)]) (fun s=>At s.2.2.2.1 s.2.1.length∧l=s.2.1++s.1∧s.2.2.1=row fI (sel eY Ext.tag s.2.1)) (fun s=>s.1.length) (l,[],[],0,none) rfl ⟨rfl,rfl,rfl⟩ ?_
 intro c1 Q1 hc1 hQ1;rintro ⟨suf,pre,eo,i,j⟩ ⟨hi,hl',hb⟩ ih
 simp only at hi hl' hb ih;rcases j with _ | ⟨j1,j2⟩
 all_goals
  cbv;cases suf with
  | nil=>
   rw[F.lt_f hi la (by simp[hl'])];cbv
   rw[hQ1];cbv;rw[hQ];cbv;rw[←hr,het,hb,hl',List.append_nil]
  | cons x suf=>
   obtain ⟨ix,hix⟩:=nm (pre.length * 2)
   have hpre:pre.length≤1073741824:=by rw[hl'] at hl;simp at hl;omega
   have hs:(sel eY Ext.tag pre).length≤pre.length:=aI;have hi':At (add .i64 i 1) (pre++[x]).length:=ao (F.inc hi (by omega)) (by simp)
   have hl2:l=(pre++[x])++suf:=by rw[hl'];simp
   have hmem:x∈l:=by rw[hl'];simp
   obtain ⟨e1,he1⟩:=nm (row fI x.body)
   have p0:at' 2 ea i=some (ix,[.int .i64 x.tag, .row () e1]):=by rw[hix,he1];exact F.get hi hea hl' (fun _=>rfl) (by decide)
   rw[F.lt_t hi la (by simp[hl'])];cbv
   rw[p0];cbv;rw[show allS [[.int .i64 x.tag]]=true by rw[F.allS];rfl];cbv
   obtain ⟨eo',heo'⟩:=nm (row fI (sel eY Ext.tag pre++[Ext.tag x]))
   rw[show app 1 eo [[.int .i64 x.tag]]=some eo' by rw[heo'];exact F.push hb (fun _=>rfl) rfl (by omega)];cbv
   refine ih (suf,pre++[x],eo',add .i64 i 1,some (x.tag,e1)) ⟨hi',hl2,by simp only;rw[heo',dz rfl]⟩ (by simp)
theorem fF (x lo hi:Int):fix Tb md 232 [I x,I lo,I hi]=some ⟨[B (inR x lo hi)],[],none⟩:=by
 refine bB (fn:=ir232) tb_232 rfl rfl (by decide) rfl ?_;simp only[aj,aV,List.map_cons,List.map_nil,ir232,List.head?_nil,reduceCtorEq,if_false,cb,aa,ae,bp,al,aG,af,aH]
 generalize hr:(⟨_,[],none⟩:Ret)=r
 intro add sub mul arith eq ne lt le gt ge neg conv mn mx not beq len at' ln bd cut app allS isNil mks set o hP F ho;cbv
 repeat' (first | (refine both (fun c=>?_) (fun c=>?_)<;>(try rw[c])<;>(try cbv)))
 all_goals (clear hP  ho;try simp only[F.eq,F.ne,F.le,F.lt,F.ge,F.gt,F.not,F.beq] at *;clear F;subst hr)
 all_goals (simp_all[inR]<;>(intros;omega))
theorem Fk (l:List Int) (n:Int):decide (0≤bz (fun y=>decide (y=n)) l 0)=bq l n:=d8 _ l 0 (by decide)
theorem JM (l:List Int) (n:Int) (hl:l.length≤1099511627776) {f0:Fl} (h0:ac f0=true):fix Tb md 354 [R (row fI l) f0,I n]=some ⟨[I (bz (fun y=>decide (y=n)) l 0)],[],none⟩:=by
 obtain ⟨T,hT⟩:=nm (bz (fun y=>decide (y=n)) l 0)
 rw[←hT];generalize hr:(⟨_,[],none⟩:Ret)=r
 obtain ⟨ea,hea⟩:=nm (row fI l)
 rw[←hea];refine cJ (fn:=ir354) tb_354 rfl rfl (by decide) rfl ?_;intro Q hQ;simp only[aj,aV,List.map_cons,List.map_nil,ir354,ai h0,List.head?_nil,reduceCtorEq,if_false,cb,aa,ae,bp,al,aG,af,aH]
 intro add sub mul arith eq ne lt le gt ge neg conv mn mx not beq len at' ln bd cut app allS isNil mks set o hP F ho;have la:=F.len_at hea;cbv;refine ah hP (σ:=List Int×List Int×Int×Option Int) (fun s=>match s.2.2.2 with | none=>[(0,R ea .sh),(1,I n),(4,I 0),(7,I (len ea)),(8,I s.2.2.1)] | some j=>[(0,R ea .sh),(1,I n),(4,I 0),(5,I j),(7,I (len ea)),(8,I s.2.2.1)]) (fun s=>At s.2.2.1 s.2.1.length∧l=s.2.1++s.1∧bz (fun y=>decide (y=n)) s.1 s.2.2.1=T) (fun s=>s.1.length) (l,[],0,none) rfl ⟨rfl,rfl,hT.symm⟩ ?_
 intro c1 Q1 hc1 hQ1;rintro ⟨suf,pre,i,j⟩ ⟨hi,hl',hb⟩ ih
 simp only at hi hl' hb ih;have hpre:pre.length≤1099511627776:=by rw[hl'] at hl;simp at hl;omega
 rcases j with _ | _
 all_goals
  cbv;cases suf with
  | nil=>
   rw[F.lt_f hi la (by simp[hl'])];cbv
   rw[hQ1];cbv;rw[hQ];cbv;rw[←hr,←hb];rfl
  | cons x suf=>
   obtain ⟨v,hv⟩:=nm (decide (x=n))
   have hb':T=if v=true then i else bz (fun y=>decide (y=n)) suf (i+1):=by rw[←hb,hv];rfl
   have hinc:add .i64 i 1=i+1:=by unfold At at hi;rw[F.add,hi,aW (by omega) (by omega)]
   obtain ⟨ix,hix⟩:=nm (pre.length * 1)
   rw[F.lt_t hi la (by simp[hl'])];cbv
   rw[show at' 1 ea i=some (ix,[.int .i64 x]) by rw[hix];exact F.get hi hea hl' (fun _=>rfl) (by decide)];cbv
   rw[show eq n x=v by rw[F.eq,hv];exact decide_eq_decide.2 eq_comm];cbv
   refine both (fun d=>?_) (fun d=>?_)<;>rw[d]<;>cbv
   ·rw[hQ1];cbv;rw[hQ];cbv;rw[←hr,hb',if_pos d]
   ·refine ih (suf,pre++[x],add .i64 i 1,some i) ⟨ao (F.inc hi (by omega)) (by simp),by simp[hl'],?_⟩ (by simp)
    rw[hb',if_neg (by rw[d];decide),hinc]
theorem og (l:List Int) (n:Int) (hl:l.length≤1099511627776) {f0:Fl} (h0:ac f0=true):fix Tb md 302 [R (row fI l) f0,I n]=some ⟨[B (bq l n)],[],none⟩:=by
 rw[←Fk];obtain ⟨v,hv⟩:=nm (bz (fun y=>decide (y=n)) l 0)
 rw[←hv];generalize hr:(⟨_,[],none⟩:Ret)=r
 obtain ⟨ea,hea⟩:=nm (row fI l)
 rw[←hea];refine cJ (fn:=ir302) tb_302 rfl rfl (by decide) rfl ?_;intro Q hQ;simp only[aj,aV,List.map_cons,List.map_nil,ir302,ai h0,List.head?_nil,reduceCtorEq,if_false,cb,aa,ae,bp,al,aG,af,aH]
 intro add sub mul arith eq ne lt le gt ge neg conv mn mx not beq len at' ln bd cut app allS isNil mks set o hP F ho;have c1:o 354 [R ea (.sp 0 0),I n]=some ⟨[I v],[],none⟩:=by rw[ho,hv,hea];exact JM _ _ hl rfl
 cbv;rw[c1];cbv;rw[hQ];cbv;rw[←hr,F.ge]
theorem tW (l b:List Int) (hl:l.length≤1073741824) (hb':b.length≤1073741824) {f0 f1:Fl} (h0:ac f0=true) (h1:ac f1=true):fix Tb md 287 [R (row fI l) f0,R (row fI b) f1]=some ⟨[R (row fI (sel (br b) idI l)) (.ow false)],[],none⟩:=by
 obtain ⟨et,het⟩:=nm (row fI (sel (br b) idI l))
 rw[←het];generalize hr:(⟨_,[],none⟩:Ret)=r
 obtain ⟨ea,hea⟩:=nm (row fI l)
 obtain ⟨eb,heb⟩:=nm (row fI b)
 rw[←hea,←heb];refine cJ (fn:=ir287) tb_287 rfl rfl (by decide) rfl ?_;intro Q hQ;simp only[aj,aV,List.map_cons,List.map_nil,ir287,ai h0,ai h1,List.head?_nil,reduceCtorEq,if_false,cb,aa,ae,bp,al,aG,af,aH]
 intro add sub mul arith eq ne lt le gt ge neg conv mn mx not beq len at' ln bd cut app allS isNil mks set o hP F ho;have la:=F.len_at hea;cbv;refine ah hP (σ:=List Int×List Int×List (List V)×Int×Option (Int)) (fun s=>match s.2.2.2.2 with | none=>[(0,R ea .sh),(1,R eb .sh),(4,R [] .nl),(5,R s.2.2.1 (.ow false)),(9,R ea .sh),(10,I (len ea)),(11,I s.2.2.2.1)] | some j=>[(0,R ea .sh),(1,R eb .sh),(4,R [] .nl),(5,R s.2.2.1 (.ow false)),(7,I j),(9,R ea .sh),(10,I (len ea)),(11,I s.2.2.2.1)]) (fun s=>At s.2.2.2.1 s.2.1.length∧l=s.2.1++s.1∧s.2.2.1=row fI (sel (br b) idI s.2.1)) (fun s=>s.1.length) (l,[],[],0,none) rfl ⟨rfl,rfl,rfl⟩ ?_
 intro c1 Q1 hc1 hQ1;rintro ⟨suf,pre,eo,i,j⟩ ⟨hi,hl',hb⟩ ih
 simp only at hi hl' hb ih;rcases j with _ | _
 all_goals
  cbv;cases suf with
  | nil=>
   rw[F.lt_f hi la (by simp[hl'])];cbv
   rw[hQ1];cbv;rw[hQ];cbv;rw[←hr,het,hb,hl',List.append_nil]
  | cons x suf=>
   obtain ⟨ix,hix⟩:=nm (pre.length * 1)
   have hpre:pre.length≤1073741824:=by rw[hl'] at hl;simp at hl;omega
   have hs:(sel (br b) idI pre).length≤pre.length:=aI;have hi':At (add .i64 i 1) (pre++[x]).length:=ao (F.inc hi (by omega)) (by simp)
   have hl2:l=(pre++[x])++suf:=by rw[hl'];simp
   have hmem:x∈l:=by rw[hl'];simp
   have p0:at' 1 ea i=some (ix,[.int .i64 x]):=by rw[hix];exact F.get hi hea hl' (fun _=>rfl) (by decide)
   obtain ⟨v,hv⟩:=nm (bq b x)
   have hP:br b x= !v:=by rw[hv];rfl
   have c2:o 302 [R eb (.sp 0 0),I x]=some ⟨[B v],[],none⟩:=by rw[ho,hv,heb];exact og _ _ (by omega) rfl
   rw[F.lt_t hi la (by simp[hl'])];cbv
   rw[p0];cbv;rw[c2];cbv;refine both (fun d=>?_) (fun d=>?_)<;>rw[d]<;>cbv
   ·rw[show allS [[.int .i64 x]]=true by rw[F.allS];rfl];cbv
    obtain ⟨eo',heo'⟩:=nm (row fI (sel (br b) idI pre++[idI x]))
    rw[show app 1 eo [[.int .i64 x]]=some eo' by rw[heo'];exact F.push hb (fun _=>rfl) rfl (by omega)];cbv
    refine ih (suf,pre++[x],eo',add .i64 i 1,some x) ⟨hi',hl2,by simp only;rw[heo',dz (by rw[hP,F.not_t d];rfl)]⟩ (by simp)
   ·refine ih (suf,pre++[x],eo,add .i64 i 1,some x) ⟨hi',hl2,by simp only;rw[hb,d6 (by rw[hP,F.not_f d];rfl)]⟩ (by simp)
def inB (n:Int):Bool:=inR n 0 255
def AU (n:Int):Int:=1000+n
def tags (l:List Ext):List Int:=sel eY Ext.tag l
theorem pU (l:List Ext):tags l=l.map Ext.tag:=by unfold tags sel;rw[show l.filter eY=l from List.filter_eq_self.2 (fun _ _=>rfl)]
theorem Cl (l:List Ext) (t:Int):bq (tags l) t=l.any (ie t):=by
 rw[pU];unfold bq;rw[List.any_map];rfl
theorem uW (l:List Ext) (t:Int):decide (dE l t < 0)= !bq (tags l) t:=by
 have h1:decide (0≤dE l t)=l.any (ie t):=d8 (ie t) l 0 (by decide)
 rw[Cl,←h1];by_cases q:dE l t < 0
 ·simp[q]
 ·simp[q];omega
theorem Cj (h x:Hello):dI h x=sel (br x.versions) idI h.versions++sel inB AU (sel (br (tags x.exts)) idI (tags h.exts)):=by
 unfold dI
 congr 1
 rw[cj,pU h.exts];induction h.exts with
 | nil=>rfl
 | cons y l ih=>
  rw[show sel (gaP x) gaF (y::l)=(if gaP x y=true then [gaF y] else [])++sel (gaP x) gaF l by unfold sel;rw[List.filter_cons];split<;>simp,ih]
  rw[List.map_cons,List.filter_cons];have hg:gaP x y=(br (tags x.exts) y.tag&&inB y.tag):=by unfold gaP br inB;rw[uW]
  rw[hg];cases h1:br (tags x.exts) y.tag with
  | false=>simp
  | true=>
   rw[if_pos rfl];unfold sel;rw[List.filter_cons];cases h2:inB y.tag with
   | false=>simp
   | true=>simp[gaF,AU]
theorem D6 (h x:Hello) (a1:h.versions.length≤1048576) (a2:x.versions.length≤1048576) (a3:h.exts.length≤1048576) (a4:x.exts.length≤1048576) {f0 f1 f2 f3:Fl} (q0:ac f0=true) (q1:ac f1=true) (q2:ac f2=true) (q3:ac f3=true):fix Tb md 150 [aa (row fI h.versions) (row ab h.exts) f0 f1,aa (row fI x.versions) (row ab x.exts) f2 f3]=some ⟨[R (row fI (dI h x)) (.ow false)],[],none⟩:=by
 obtain ⟨et,het⟩:=nm (row fI (dI h x))
 rw[←het];generalize hr:(⟨_,[],none⟩:Ret)=r
 obtain ⟨dv,hdv⟩:=nm (row fI h.versions)
 obtain ⟨dx,hdx⟩:=nm (row ab h.exts)
 obtain ⟨ev,hev⟩:=nm (row fI x.versions)
 obtain ⟨ex,hex⟩:=nm (row ab x.exts)
 rw[←hdv,←hdx,←hev,←hex];obtain ⟨W,hW⟩:=nm (sel (br x.versions) idI h.versions)
 obtain ⟨Z,hZ⟩:=nm (sel (br (tags x.exts)) idI (tags h.exts))
 obtain ⟨ew,hew⟩:=nm (row fI W)
 obtain ⟨ez,hez⟩:=nm (row fI Z)
 obtain ⟨th,hth⟩:=nm (row fI (tags h.exts))
 obtain ⟨tx,htx⟩:=nm (row fI (tags x.exts))
 have hWl:W.length≤1048576:=by rw[hW];exact Nat.le_trans aI a1
 have htl:(tags h.exts).length≤1048576:=Nat.le_trans aI a3;have htx':(tags x.exts).length≤1048576:=Nat.le_trans aI a4;have hZl:Z.length≤1048576:=by rw[hZ];exact Nat.le_trans aI htl
 refine cJ (fn:=ir150) tb_150 rfl rfl (by decide) rfl ?_;intro Q hQ;simp only[aj,aV,List.map_cons,List.map_nil,ir150,ai q0,ai q1,ai q2,ai q3,List.head?_nil,reduceCtorEq,if_false,cb,aa,ae,bp,al,aG,af,aH]
 intro add sub mul arith eq ne lt le gt ge neg conv mn mx not beq len at' ln bd cut app allS isNil mks set o hP F ho;have lz:=F.len_at hez;have c1:o 287 [R dv (.sp 0 0),R ev (.sp 1 0)]=some ⟨[R ew (.ow false)],[],none⟩:=by rw[ho,hew,hW,hdv,hev];exact tW _ _ (by omega) (by omega) rfl rfl
 have c2:o 179 [R dx (.sp 0 0)]=some ⟨[R th (.ow false)],[],none⟩:=by rw[ho,hth,hdx];exact nc _ (by omega) rfl
 have c3:o 179 [R ex (.sp 0 0)]=some ⟨[R tx (.ow false)],[],none⟩:=by rw[ho,htx,hex];exact nc _ (by omega) rfl
 have c4:o 287 [R th (.sp 0 0),R tx (.sp 1 0)]=some ⟨[R ez (.ow false)],[],none⟩:=by rw[ho,hez,hZ,hth,htx];exact tW _ _ (by omega) (by omega) rfl rfl
 cbv;rw[c1];cbv;rw[c2];cbv;rw[c3];cbv;rw[c4];cbv;refine ah hP (σ:=List Int×List Int×List (List V)×Int×Option Int) (fun s=>match s.2.2.2.2 with
  | none=>[(0,aa dv dx .sh .sh),(1,aa ev ex .sh .sh),(2,⟨.ptr 36 0,[]⟩),(3,⟨.ptr 37 0,[]⟩),(4,R [] .nl),(5,R s.2.2.1 (.ow false)),(19,R ez (.ow false)),(20,I (len ez)),(21,I s.2.2.2.1),(36,⟨.box (),[⟨.row () dv, .sh⟩,⟨.row () dx, .sh⟩]⟩),(37,⟨.box (),[⟨.row () ev, .sh⟩,⟨.row () ex, .sh⟩]⟩)]
  | some j=>[(0,aa dv dx .sh .sh),(1,aa ev ex .sh .sh),(2,⟨.ptr 36 0,[]⟩),(3,⟨.ptr 37 0,[]⟩),(4,R [] .nl),(5,R s.2.2.1 (.ow false)),(7,I j),(19,R ez (.ow false)),(20,I (len ez)),(21,I s.2.2.2.1),(36,⟨.box (),[⟨.row () dv, .sh⟩,⟨.row () dx, .sh⟩]⟩),(37,⟨.box (),[⟨.row () ev, .sh⟩,⟨.row () ex, .sh⟩]⟩)]) (fun s=>At s.2.2.2.1 s.2.1.length∧Z=s.2.1++s.1∧s.2.2.1=row fI (W++sel inB AU s.2.1)) (fun s=>s.1.length) (Z,[],ew,0,none) rfl ⟨rfl,rfl,by rw[hew];simp[sel]⟩ ?_
 intro c1 Q1 hc1 hQ1;rintro ⟨suf,pre,eo,i,j⟩ ⟨hi,hl',hb⟩ ih
 simp only at hi hl' hb ih;rcases j with _ | _
 all_goals
  cbv;cases suf with
  | nil=>
   rw[F.lt_f hi lz (by simp[hl'])];cbv
   rw[hQ1];cbv;rw[hQ];cbv;rw[←hr,het,hb,Cj,←hZ,hl',List.append_nil,hW]
  | cons y suf=>
   obtain ⟨ix,hix⟩:=nm (pre.length * 1)
   have hpre:pre.length≤1048576:=by rw[hl'] at hZl;simp at hZl;omega
   have hs:(sel inB AU pre).length≤pre.length:=aI;have hi':At (add .i64 i 1) (pre++[y]).length:=ao (F.inc hi (by omega)) (by simp)
   have hl2:Z=(pre++[y])++suf:=by rw[hl'];simp
   have p0:at' 1 ez i=some (ix,[.int .i64 y]):=by rw[hix];exact F.get hi hez hl' (fun _=>rfl) (by decide)
   obtain ⟨b2,hb2⟩:=nm (inB y)
   have c5:o 232 [I y,I 0,I 255]=some ⟨[B b2],[],none⟩:=by rw[ho,hb2];exact fF ..
   obtain ⟨eo',heo'⟩:=nm (row fI (W++sel inB AU pre++[AU y]))
   have q1:b2=true→app 1 eo [[.int .i64 (add .i64 1000 y)]]=some eo':=by
    intro q;rw[hb2] at q;simp[inB,inR] at q;rw[show add .i64 1000 y=AU y by rw[F.add,aW (by omega) (by omega)];rfl,heo']
    exact F.push hb (fun _=>rfl) rfl (by rw[List.length_append];omega)
   have q2:allS [[.int .i64 (add .i64 1000 y)]]=true:=by rw[F.allS];rfl
   rw[F.lt_t hi lz (by simp[hl'])];cbv
   rw[p0];cbv;rw[c5];cbv;refine both (fun d2=>?_) (fun d2=>?_)<;>rw[d2]<;>cbv
   ·rw[q2];cbv;rw[q1 d2];cbv;refine ih (suf,pre++[y],eo',add .i64 i 1,some y) ⟨hi',hl2,by simp only;rw[heo',dz (by rw[←hb2,d2])];simp⟩ (by simp)
   ·refine ih (suf,pre++[y],eo,add .i64 i 1,some y) ⟨hi',hl2,by simp only;rw[hb,d6 (by rw[←hb2,d2])]⟩ (by simp)
def b9 (x:Deal) (k:Int):Deal:=⟨x.ok,x.version,mI x.tags k⟩
def bR (x:Deal):Nat:=x.tags.length
theorem nP {x:Deal} (w:x.Mid):bR x≤2305843016730000000:=by unfold Deal.Mid at w;have h0:=w;unfold bR;omega
theorem yi {x:Deal} (w:x.Small):bR x≤2199100000000:=by unfold Deal.Small at w;have h0:=w;unfold bR;omega
theorem tP (x:Deal) (k:Int) (hk:Lim k (bR x)) (w:x.Mid):fix Tb md 1087 [al x.ok x.version (row fI x.tags) (.mp 0),I k]=some ⟨[I (k+(bR x:Int))],[.row () (row fI (b9 x k).tags)],none⟩:=by
 have hn:bR x=x.tags.length:=rfl;unfold Deal.Mid at w;have a0:AtK k k 0:=AtK.zero;obtain ⟨z1,hz1⟩:=nm (k+(x.tags.length:Int))
 have a1:AtK z1 k (0+x.tags.length):=hz1▸a0.plus;have m1:Lim k (x.tags.length):=a0.lim hk (by omega)
 have n1:0≤z1:=by have:=m1.nn;omega
 rw[show k+(bR x:Int)=z1 by rw[a1.same,hn];simp]
 have x0:(b9 x k).tags=mI x.tags k:=by simp only[b9,hz1]
 rw[x0];obtain ⟨g0,hg0⟩:=nm (row fI (mI x.tags k))
 obtain ⟨e0,he0⟩:=nm (row fI x.tags)
 rw[←hg0,←he0];refine bB (fn:=ir1087) tb_1087 rfl rfl (by decide) rfl ?_
 generalize hr:(⟨_,[_],none⟩:Ret)=r
 intro add sub mul arith eq ne lt le gt ge neg conv mn mx not beq len at' ln bd cut app allS isNil mks set o hP F ho;have c1:o 1080 [R e0 (.mp 0),I k]=some ⟨[I z1],[.row () g0],none⟩:=by rw[ho,hz1,hg0,he0];exact bV _ _ m1 (Nat.le_trans (w) (by decide))
 cbv;rw[c1];cbv;exact congrArg some hr
theorem mZ (x:Deal) (k:Int) (hk:Lim k (bR x)) (w:x.Mid) (y0:x.tags=[]):fix Tb md 1087 [al x.ok x.version (row fI x.tags) .nl,I k]=some ⟨[I (k+(bR x:Int))],[],none⟩:=by
 have hn:bR x=x.tags.length:=rfl;unfold Deal.Mid at w;have a0:AtK k k 0:=AtK.zero;obtain ⟨z1,hz1⟩:=nm (k+(x.tags.length:Int))
 have a1:AtK z1 k (0+x.tags.length):=hz1▸a0.plus;have m1:Lim k (x.tags.length):=a0.lim hk (by omega)
 have n1:0≤z1:=by have:=m1.nn;omega
 rw[show k+(bR x:Int)=z1 by rw[a1.same,hn];simp]
 have x0:(b9 x k).tags=mI x.tags k:=by simp only[b9,hz1]
 have e0:row fI x.tags=[]:=by rw[y0];rfl
 rw[e0];refine bB (fn:=ir1087) tb_1087 rfl rfl (by decide) rfl ?_
 generalize hr:(⟨_,[],none⟩:Ret)=r
 intro add sub mul arith eq ne lt le gt ge neg conv mn mx not beq len at' ln bd cut app allS isNil mks set o hP F ho;have c1:o 1080 [R [] .nl,I k]=some ⟨[I z1],[],none⟩:=by rw[ho,show z1=k by rw[hz1,y0];simp];exact jT _
 cbv;rw[c1];cbv;exact congrArg some hr
def aZ (x:Dialed) (k:Int):Dialed:=⟨b9 x.deal k,x.tries,mI x.up (k+(bR x.deal:Int))⟩
def ci (x:Dialed):Nat:=bR x.deal+x.up.length
theorem rK {x:Dialed} (w:x.Mid):ci x≤2305843019000000000:=by unfold Dialed.Mid at w;have h0:=nP w.1;have h1:=w.2;unfold ci;omega
theorem E6 {x:Dialed} (w:x.Small):ci x≤2199200000000:=by unfold Dialed.Small at w;have h0:=yi w.1;have h1:=w.2;unfold ci;omega
theorem D1 (x:Dialed) (k:Int) (hk:Lim k (ci x)) (w:x.Mid):fix Tb md 1224 [af x.deal.ok x.deal.version (row fI x.deal.tags) x.tries (row fI x.up) (.mp 0) (.mp 1),I k]=some ⟨[I (k+(ci x:Int))],[.row () (row fI (aZ x k).deal.tags), .row () (row fI (aZ x k).up)],none⟩:=by
 have hn:ci x=bR x.deal+x.up.length:=rfl;unfold Dialed.Mid at w;have a0:AtK k k 0:=AtK.zero;obtain ⟨z1,hz1⟩:=nm (k+(bR x.deal:Int))
 have a1:AtK z1 k (0+bR x.deal):=hz1▸a0.plus;have m1:Lim k (bR x.deal):=a0.lim hk (by omega)
 have n1:0≤z1:=by have:=m1.nn;omega
 obtain ⟨z2,hz2⟩:=nm (z1+(x.up.length:Int))
 have a2:AtK z2 k (0+bR x.deal+x.up.length):=hz2▸a1.plus;have m2:Lim z1 (x.up.length):=a1.lim hk (by omega)
 have n2:0≤z2:=by have:=m2.nn;omega
 rw[show k+(ci x:Int)=z2 by rw[a2.same,hn];simp]
 have x0:(aZ x k).deal.tags=(b9 x.deal k).tags:=by simp only[aZ,hz1,hz2]
 have x1:(aZ x k).up=mI x.up z1:=by simp only[aZ,hz1,hz2]
 rw[x0,x1];obtain ⟨g0,hg0⟩:=nm (row fI ((b9 x.deal k).tags))
 obtain ⟨e0,he0⟩:=nm (row fI x.deal.tags)
 obtain ⟨g1,hg1⟩:=nm (row fI (mI x.up z1))
 obtain ⟨e1,he1⟩:=nm (row fI x.up)
 rw[←hg0,←he0,←hg1,←he1];refine bB (fn:=ir1224) tb_1224 rfl rfl (by decide) rfl ?_
 generalize hr:(⟨_,[_,_],none⟩:Ret)=r
 intro add sub mul arith eq ne lt le gt ge neg conv mn mx not beq len at' ln bd cut app allS isNil mks set o hP F ho;have c1:o 1087 [al x.deal.ok x.deal.version e0 (.mp 0),I k]=some ⟨[I z1],[.row () g0],none⟩:=by rw[ho,hz1,hg0,he0];exact tP x.deal k m1 w.1
 have c2:o 1080 [R e1 (.mp 0),I z1]=some ⟨[I z2],[.row () g1],none⟩:=by rw[ho,hz2,hg1,he1];exact bV _ _ m2 (Nat.le_trans (w.2) (by decide))
 cbv;rw[c1];cbv;rw[c2];cbv;exact congrArg some hr
theorem H8 (x:Dialed) (k:Int) (hk:Lim k (ci x)) (w:x.Mid) (y1:x.up=[]):fix Tb md 1224 [af x.deal.ok x.deal.version (row fI x.deal.tags) x.tries (row fI x.up) (.mp 0) .nl,I k]=some ⟨[I (k+(ci x:Int))],[.row () (row fI (aZ x k).deal.tags)],none⟩:=by
 have hn:ci x=bR x.deal+x.up.length:=rfl;unfold Dialed.Mid at w;have a0:AtK k k 0:=AtK.zero;obtain ⟨z1,hz1⟩:=nm (k+(bR x.deal:Int))
 have a1:AtK z1 k (0+bR x.deal):=hz1▸a0.plus;have m1:Lim k (bR x.deal):=a0.lim hk (by omega)
 have n1:0≤z1:=by have:=m1.nn;omega
 obtain ⟨z2,hz2⟩:=nm (z1+(x.up.length:Int))
 have a2:AtK z2 k (0+bR x.deal+x.up.length):=hz2▸a1.plus;have m2:Lim z1 (x.up.length):=a1.lim hk (by omega)
 have n2:0≤z2:=by have:=m2.nn;omega
 rw[show k+(ci x:Int)=z2 by rw[a2.same,hn];simp]
 have x0:(aZ x k).deal.tags=(b9 x.deal k).tags:=by simp only[aZ,hz1,hz2]
 have x1:(aZ x k).up=mI x.up z1:=by simp only[aZ,hz1,hz2]
 rw[x0];obtain ⟨g0,hg0⟩:=nm (row fI ((b9 x.deal k).tags))
 obtain ⟨e0,he0⟩:=nm (row fI x.deal.tags)
 have e1:row fI x.up=[]:=by rw[y1];rfl
 rw[←hg0,←he0,e1];refine bB (fn:=ir1224) tb_1224 rfl rfl (by decide) rfl ?_
 generalize hr:(⟨_,[_],none⟩:Ret)=r
 intro add sub mul arith eq ne lt le gt ge neg conv mn mx not beq len at' ln bd cut app allS isNil mks set o hP F ho;have c1:o 1087 [al x.deal.ok x.deal.version e0 (.mp 0),I k]=some ⟨[I z1],[.row () g0],none⟩:=by rw[ho,hz1,hg0,he0];exact tP x.deal k m1 w.1
 have c2:o 1080 [R [] .nl,I z1]=some ⟨[I z2],[],none⟩:=by rw[ho,show z2=z1 by rw[hz2,y1];simp];exact jT _
 cbv;rw[c1];cbv;rw[c2];cbv;exact congrArg some hr
theorem vt (x:Dialed) (k:Int) (hk:Lim k (ci x)) (w:x.Mid) (y0:x.deal.tags=[]):fix Tb md 1224 [af x.deal.ok x.deal.version (row fI x.deal.tags) x.tries (row fI x.up) .nl (.mp 0),I k]=some ⟨[I (k+(ci x:Int))],[.row () (row fI (aZ x k).up)],none⟩:=by
 have hn:ci x=bR x.deal+x.up.length:=rfl;unfold Dialed.Mid at w;have a0:AtK k k 0:=AtK.zero;obtain ⟨z1,hz1⟩:=nm (k+(bR x.deal:Int))
 have a1:AtK z1 k (0+bR x.deal):=hz1▸a0.plus;have m1:Lim k (bR x.deal):=a0.lim hk (by omega)
 have n1:0≤z1:=by have:=m1.nn;omega
 obtain ⟨z2,hz2⟩:=nm (z1+(x.up.length:Int))
 have a2:AtK z2 k (0+bR x.deal+x.up.length):=hz2▸a1.plus;have m2:Lim z1 (x.up.length):=a1.lim hk (by omega)
 have n2:0≤z2:=by have:=m2.nn;omega
 rw[show k+(ci x:Int)=z2 by rw[a2.same,hn];simp]
 have x0:(aZ x k).deal.tags=(b9 x.deal k).tags:=by simp only[aZ,hz1,hz2]
 have x1:(aZ x k).up=mI x.up z1:=by simp only[aZ,hz1,hz2]
 rw[x1];have e0:row fI x.deal.tags=[]:=by rw[y0];rfl
 obtain ⟨g1,hg1⟩:=nm (row fI (mI x.up z1))
 obtain ⟨e1,he1⟩:=nm (row fI x.up)
 rw[e0,←hg1,←he1];refine bB (fn:=ir1224) tb_1224 rfl rfl (by decide) rfl ?_
 generalize hr:(⟨_,[_],none⟩:Ret)=r
 intro add sub mul arith eq ne lt le gt ge neg conv mn mx not beq len at' ln bd cut app allS isNil mks set o hP F ho;have c1:o 1087 [al x.deal.ok x.deal.version [] .nl,I k]=some ⟨[I z1],[],none⟩:=by rw[ho,hz1,←e0];exact mZ x.deal k m1 w.1 y0
 have c2:o 1080 [R e1 (.mp 0),I z1]=some ⟨[I z2],[.row () g1],none⟩:=by rw[ho,hz2,hg1,he1];exact bV _ _ m2 (Nat.le_trans (w.2) (by decide))
 cbv;rw[c1];cbv;rw[c2];cbv;exact congrArg some hr
theorem vr (x:Dialed) (k:Int) (hk:Lim k (ci x)) (w:x.Mid) (y0:x.deal.tags=[]) (y1:x.up=[]):fix Tb md 1224 [af x.deal.ok x.deal.version (row fI x.deal.tags) x.tries (row fI x.up) .nl .nl,I k]=some ⟨[I (k+(ci x:Int))],[],none⟩:=by
 have hn:ci x=bR x.deal+x.up.length:=rfl;unfold Dialed.Mid at w;have a0:AtK k k 0:=AtK.zero;obtain ⟨z1,hz1⟩:=nm (k+(bR x.deal:Int))
 have a1:AtK z1 k (0+bR x.deal):=hz1▸a0.plus;have m1:Lim k (bR x.deal):=a0.lim hk (by omega)
 have n1:0≤z1:=by have:=m1.nn;omega
 obtain ⟨z2,hz2⟩:=nm (z1+(x.up.length:Int))
 have a2:AtK z2 k (0+bR x.deal+x.up.length):=hz2▸a1.plus;have m2:Lim z1 (x.up.length):=a1.lim hk (by omega)
 have n2:0≤z2:=by have:=m2.nn;omega
 rw[show k+(ci x:Int)=z2 by rw[a2.same,hn];simp]
 have x0:(aZ x k).deal.tags=(b9 x.deal k).tags:=by simp only[aZ,hz1,hz2]
 have x1:(aZ x k).up=mI x.up z1:=by simp only[aZ,hz1,hz2]
 have e0:row fI x.deal.tags=[]:=by rw[y0];rfl
 have e1:row fI x.up=[]:=by rw[y1];rfl
 rw[e0,e1];refine bB (fn:=ir1224) tb_1224 rfl rfl (by decide) rfl ?_
 generalize hr:(⟨_,[],none⟩:Ret)=r
 intro add sub mul arith eq ne lt le gt ge neg conv mn mx not beq len at' ln bd cut app allS isNil mks set o hP F ho;have c1:o 1087 [al x.deal.ok x.deal.version [] .nl,I k]=some ⟨[I z1],[],none⟩:=by rw[ho,hz1,←e0];exact mZ x.deal k m1 w.1 y0
 have c2:o 1080 [R [] .nl,I z1]=some ⟨[I z2],[],none⟩:=by rw[ho,show z2=z1 by rw[hz2,y1];simp];exact jT _
 cbv;rw[c1];cbv;rw[c2];cbv;exact congrArg some hr
def fp:List Int→List Int→Bool
 | _,[]=>true
 | pre,x::suf=>inR x 1 9&&(match pre.getLast? with | none=>true | some y=> !decide (x≤y))&&fp (pre++[x]) suf
def aK (l:List Int):Bool:=fp [] l&&decide (0 < l.length)
theorem tV (l:List Int) (hl:l.length≤1099511627776) {f0:Fl} (h0:ac f0=true):fix Tb md 257 [R (row fI l) f0]=some ⟨[B (aK l)],[],none⟩:=by
 obtain ⟨T,hT⟩:=nm (fp [] l)
 rw[show aK l=(T&&decide (0 < l.length)) by rw[hT];rfl]
 generalize hr:(⟨_,[],none⟩:Ret)=r
 obtain ⟨ea,hea⟩:=nm (row fI l)
 rw[←hea];refine cJ (fn:=ir257) tb_257 rfl rfl (by decide) rfl ?_;intro Q hQ;simp only[aj,aV,List.map_cons,List.map_nil,ir257,ai h0,List.head?_nil,reduceCtorEq,if_false,cb,aa,ae,bp,al,aG,af,aH]
 intro add sub mul arith eq ne lt le gt ge neg conv mn mx not beq len at' ln bd cut app allS isNil mks set o hP F ho;have la:=F.len_at hea;have h6:gt (len ea) 0=decide (0 < l.length):=F.gt_n la rfl;cbv;refine ah hP (σ:=List Int×List Int×Int) (fun s=>[(0,R ea .sh),(2,B false),(3,I s.2.2)]) (fun s=>At s.2.2 s.2.1.length∧l=s.2.1++s.1∧fp s.2.1 s.1=T) (fun s=>s.1.length) (l,[],0) rfl ⟨rfl,rfl,hT.symm⟩ ?_
 intro c1 Q1 hc1 hQ1;rintro ⟨suf,pre,i⟩ ⟨hi,hl',hb⟩ ih
 simp only at hi hl' hb ih;cbv;cases suf with
 | nil=>
  rw[F.lt_f hi la (by simp[hl'])];cbv
  rw[hQ1];cbv;rw[hQ];cbv;rw[h6,←hr,←hb];rfl
 | cons x suf=>
  obtain ⟨ix,hix⟩:=nm (pre.length * 1)
  have hpre:pre.length≤1099511627776:=by rw[hl'] at hl;simp at hl;omega
  have p0:at' 1 ea i=some (ix,[.int .i64 x]):=by rw[hix];exact F.get hi hea hl' (fun _=>rfl) (by decide)
  obtain ⟨b1,hb1⟩:=nm (inR x 1 9)
  have c1:o 230 [I x,I 1,I 9]=some ⟨[B b1],[],none⟩:=by rw[ho,hb1];exact fE ..
  have hv0:fp pre (x::suf)=(b1&&(match pre.getLast? with | none=>true | some y=> !decide (x≤y))&&fp (pre++[x]) suf):=by rw[hb1];rfl
  rw[hv0] at hb;have hi':At (add .i64 i 1) (pre++[x]).length:=ao (F.inc hi (by omega)) (by simp)
  have hl2:l=(pre++[x])++suf:=by rw[hl'];simp
  have hg0:gt i 0=decide (0 < pre.length):=F.gt_n hi rfl;rw[F.lt_t hi la (by simp[hl'])];cbv
  rw[p0];cbv;rw[c1];cbv;refine both (fun d1=>?_) (fun d1=>?_)<;>rw[d1]<;>cbv
  ·rw[hQ1];cbv;rw[hQ];cbv;rw[←hr,show T=false by rw[←hb,F.not_t d1];rfl];rfl
  rw[F.not_f d1,Bool.true_and] at hb;rcases List.eq_nil_or_concat pre with hp | ⟨p',y,hp⟩
  ·rw[show gt i 0=false by rw[hg0,hp];rfl];cbv
   refine ih (suf,pre++[x],add .i64 i 1) ⟨hi',hl2,?_⟩ (by simp)
   simp only;rw[←hb,hp];rfl
  ·rw[show gt i 0=true by rw[hg0,hp];simp];cbv
   obtain ⟨iy,hiy⟩:=nm (p'.length * 1)
   have hi2:At (sub .i64 i 1) p'.length:=by unfold At at hi ⊢;rw[hp] at hi;simp at hi;rw[F.sub,hi,aW (by omega) (by rw[hp] at hpre;simp at hpre;omega)];omega
   rw[show at' 1 ea (sub .i64 i 1)=some (iy,[.int .i64 y]) by rw[hiy];exact F.get hi2 hea (show l=p'++y::(x::suf) by rw[hl',hp];simp) (fun _=>rfl) (by decide)];cbv
   rw[p0];cbv;obtain ⟨u,hu⟩:=nm (decide (x≤y))
   rw[show ge y x=u by rw[F.ge,hu]];cbv
   have hgl:pre.getLast?=some y:=by rw[hp];simp
   rw[hgl] at hb;simp only at hb;rw[←hu] at hb;refine both (fun d3=>?_) (fun d3=>?_)<;>rw[d3]<;>cbv
   ·rw[hQ1];cbv;rw[hQ];cbv;rw[←hr,show T=false by rw[←hb,d3];rfl];rfl
   ·refine ih (suf,pre++[x],add .i64 i 1) ⟨hi',hl2,?_⟩ (by simp)
    rw[←hb,d3];simp
theorem BF (l:List Int) (hl:l.length≤1099511627776) {f0:Fl} (h0:ac f0=true):fix Tb md 231 [R (row fI l) f0]=some ⟨[B (bytes l)],[],none⟩:=by
 refine bB (fn:=ir231) tb_231 rfl rfl (by decide) rfl ?_;simp only[aj,aV,List.map_cons,List.map_nil,ir231,ai h0,List.head?_nil,reduceCtorEq,if_false,cb,aa,ae,bp,al,aG,af,aH]
 generalize hr:(⟨_,[],none⟩:Ret)=r
 obtain ⟨ea,hea⟩:=nm (row fI l)
 rw[←hea];intro add sub mul arith eq ne lt le gt ge neg conv mn mx not beq len at' ln bd cut app allS isNil mks set o hP F ho;have la:=F.len_at hea;cbv;refine aJ hP (σ:=List Int×List Int×Int) (fun s=>[(0,R ea .sh),(2,B false),(3,I s.2.2)]) (fun s=>At s.2.2 s.1.length∧l=s.1++s.2.1∧bytes s.1=true) (fun s=>s.2.1.length) ([],l,0) rfl ⟨rfl,rfl,rfl⟩ ?_
 rintro ⟨pre,suf,i⟩ ⟨hi,hl',hb⟩ ih
 simp only at hi hl' hb ih;cbv;cases suf with
 | nil=>
  rw[F.lt_f hi la (by simp[hl'])];cbv
  rw[←hr,hl'];simp[hb]
 | cons x suf=>
  rw[F.lt_t hi la (by simp[hl'])];cbv
  obtain ⟨ix,hix⟩:=nm (pre.length * 1)
  rw[show at' 1 ea i=some (ix,[.int .i64 x]) by rw[hix];exact F.get hi hea hl' (fun _=>rfl) (by decide)];cbv
  obtain ⟨v,hv⟩:=nm (inR x 0 255)
  rw[show o 230 [I x,I 0,I 255]=some ⟨[B v],[],none⟩ by rw[ho,hv];exact fE x 0 255];cbv
  refine both (fun c=>?_) (fun c=>?_)<;>rw[c]<;>cbv
  ·rw[←hr,hl'];rw[F.not] at c;simp[bytes] at *
   simp_all
  ·rw[F.not] at c;simp at c;refine ih (pre++[x],suf,add .i64 i 1) ⟨ao (F.inc hi (by simp[hl'] at hl;omega)) (by simp),by simp[hl'],?_⟩ (by simp)
   simp[bytes] at *
   simp_all
def oG:List Ext→List Ext→Bool
 | _,[]=>true
 | pre,x::suf=>inR x.tag 0 255&& !decide (4 < x.body.length)&&bytes x.body&& !(pre.any (ie x.tag))&&oG (pre++[x]) suf
def bI (l:List Ext):Bool:=oG [] l&&decide (l.length≤6)
theorem vA (l:List Ext) (hl:l.length≤1099511627776) (w:∀ y∈l,y.body.length≤1099511627776) {f0:Fl} (h0:ac f0=true):fix Tb md 271 [R (row ab l) f0]=some ⟨[B (bI l)],[],none⟩:=by
 obtain ⟨T,hT⟩:=nm (oG [] l)
 rw[show bI l=(T&&decide (l.length≤6)) by rw[hT];rfl]
 generalize hr:(⟨_,[],none⟩:Ret)=r
 obtain ⟨ea,hea⟩:=nm (row ab l)
 rw[←hea];refine cJ (fn:=ir271) tb_271 rfl rfl (by decide) rfl ?_;intro Q hQ;simp only[aj,aV,List.map_cons,List.map_nil,ir271,ai h0,List.head?_nil,reduceCtorEq,if_false,cb,aa,ae,bp,al,aG,af,aH]
 intro add sub mul arith eq ne lt le gt ge neg conv mn mx not beq len at' ln bd cut app allS isNil mks set o hP F ho;have la:=F.len_at hea;have h6:le (len ea) 6=decide (l.length≤6):=F.le_n la rfl;cbv;refine ah hP (σ:=List Ext×List Ext×Int) (fun s=>[(0,R ea .sh),(2,B false),(3,I s.2.2)]) (fun s=>At s.2.2 s.2.1.length∧l=s.2.1++s.1∧oG s.2.1 s.1=T) (fun s=>s.1.length) (l,[],0) rfl ⟨rfl,rfl,hT.symm⟩ ?_
 intro c1 Q1 hc1 hQ1;rintro ⟨suf,pre,i⟩ ⟨hi,hl',hb⟩ ih
 simp only at hi hl' hb ih;cbv;cases suf with
 | nil=>
  rw[F.lt_f hi la (by simp[hl'])];cbv
  rw[hQ1];cbv;rw[hQ];cbv;rw[h6,←hr,←hb];rfl
 | cons x suf=>
  obtain ⟨ix,hix⟩:=nm (pre.length * 2)
  obtain ⟨e1,he1⟩:=nm (row fI x.body)
  have l1:=F.len_at he1;have hx:=w x (by rw[hl'];simp)
  have p0:at' 2 ea i=some (ix,[.int .i64 x.tag, .row () e1]):=by rw[hix,he1];exact F.get hi hea hl' (fun _=>rfl) (by decide)
  obtain ⟨b1,hb1⟩:=nm (inR x.tag 0 255)
  obtain ⟨b2,hb2⟩:=nm (decide (4 < x.body.length))
  obtain ⟨b3,hb3⟩:=nm (bytes x.body)
  obtain ⟨b4,hb4⟩:=nm (pre.any (ie x.tag))
  obtain ⟨v,hv⟩:=nm (dE l x.tag)
  have g4:gt (len e1) 4=b2:=by rw[hb2];exact F.gt_n l1 rfl
  have c1:o 230 [I x.tag,I 0,I 255]=some ⟨[B b1],[],none⟩:=by rw[ho,hb1];exact fE ..
  have c3:o 231 [R e1 (.sp 0 0)]=some ⟨[B b3],[],none⟩:=by rw[ho,hb3,he1];exact BF _ hx rfl
  have c4:o 286 [R ea (.sp 0 0),I x.tag]=some ⟨[I v],[],none⟩:=by rw[ho,hv,hea];exact vB _ _ hl rfl
  have g5:lt v i=b4:=by rw[F.lt,hv,hb4,hl'];exact Fo (by simp[ie]) hi
  have hT':T=(b1&& !b2&&b3&& !b4&&oG (pre++[x]) suf):=by rw[←hb,hb1,hb2,hb3,hb4];rfl
  rw[F.lt_t hi la (by simp[hl'])];cbv
  rw[p0];cbv;rw[c1];cbv;refine both (fun d1=>?_) (fun d1=>?_)<;>rw[d1]<;>cbv
  ·rw[hQ1];cbv;rw[hQ];cbv;rw[←hr,show T=false by rw[hT',F.not_t d1];rfl];rfl
  rw[p0];cbv;rw[g4];cbv;refine both (fun d2=>?_) (fun d2=>?_)<;>rw[d2]<;>cbv
  ·rw[hQ1];cbv;rw[hQ];cbv;rw[←hr,show T=false by rw[hT',d2];simp];rfl
  rw[p0];cbv;rw[c3];cbv;refine both (fun d3=>?_) (fun d3=>?_)<;>rw[d3]<;>cbv
  ·rw[hQ1];cbv;rw[hQ];cbv;rw[←hr,show T=false by rw[hT',F.not_t d3];simp];rfl
  rw[p0];cbv;rw[c4];cbv;rw[g5];cbv;refine both (fun d4=>?_) (fun d4=>?_)<;>rw[d4]<;>cbv
  ·rw[hQ1];cbv;rw[hQ];cbv;rw[←hr,show T=false by rw[hT',d4];simp];rfl
  refine ih (suf,pre++[x],add .i64 i 1) ⟨ao (F.inc hi (by simp[hl'] at hl;omega)) (by simp),by simp[hl'],?_⟩ (by simp)
  rw[hT',F.not_f d1,d2,F.not_f d3,d4];simp
def aC (h:Hello):Bool:=aK h.versions&&bI h.exts
theorem jW (h:Hello) (hv:h.versions.length≤1099511627776) (hl:h.exts.length≤1099511627776) (w:∀ y∈h.exts,y.body.length≤1099511627776) {f0 f1:Fl} (h0:ac f0=true) (h1:ac f1=true):fix Tb md 142 [aa (row fI h.versions) (row ab h.exts) f0 f1]=some ⟨[B (aC h)],[],none⟩:=by
 obtain ⟨a,ha⟩:=nm (aK h.versions)
 obtain ⟨b,hb⟩:=nm (bI h.exts)
 rw[show aC h=(a&&b) by rw[ha,hb];rfl]
 generalize hr:(⟨_,[],none⟩:Ret)=r
 obtain ⟨ea,hea⟩:=nm (row fI h.versions)
 obtain ⟨eb,heb⟩:=nm (row ab h.exts)
 rw[←hea,←heb];refine cJ (fn:=ir142) tb_142 rfl rfl (by decide) rfl ?_;intro Q hQ;simp only[aj,aV,List.map_cons,List.map_nil,ir142,ai h0,ai h1,List.head?_nil,reduceCtorEq,if_false,cb,aa,ae,bp,al,aG,af,aH]
 intro add sub mul arith eq ne lt le gt ge neg conv mn mx not beq len at' ln bd cut app allS isNil mks set o hP F ho;have c1:o 257 [R ea (.sp 0 0)]=some ⟨[B a],[],none⟩:=by rw[ho,ha,hea];exact tV _ hv rfl
 have c2:o 271 [R eb (.sp 0 0)]=some ⟨[B b],[],none⟩:=by rw[ho,hb,heb];exact vA _ hl w rfl
 cbv;rw[c1];cbv;refine both (fun d1=>?_) (fun d1=>?_)<;>rw[d1]<;>cbv
 ·rw[c2];cbv;rw[hQ];cbv;rw[←hr,d1];rfl
 ·rw[hQ];cbv;rw[←hr,d1];rfl
theorem tU (l:List Int) (hl:l.length≤1099511627776) {f0:Fl} (h0:ac f0=true):fix Tb md 255 [R (row fI l) f0]=some ⟨[B (aK l)],[],none⟩:=by
 obtain ⟨T,hT⟩:=nm (fp [] l)
 rw[show aK l=(T&&decide (0 < l.length)) by rw[hT];rfl]
 generalize hr:(⟨_,[],none⟩:Ret)=r
 obtain ⟨ea,hea⟩:=nm (row fI l)
 rw[←hea];refine cJ (fn:=ir255) tb_255 rfl rfl (by decide) rfl ?_;intro Q hQ;simp only[aj,aV,List.map_cons,List.map_nil,ir255,ai h0,List.head?_nil,reduceCtorEq,if_false,cb,aa,ae,bp,al,aG,af,aH]
 intro add sub mul arith eq ne lt le gt ge neg conv mn mx not beq len at' ln bd cut app allS isNil mks set o hP F ho;have la:=F.len_at hea;have h6:gt (len ea) 0=decide (0 < l.length):=F.gt_n la rfl;cbv;refine ah hP (σ:=List Int×List Int×Int×Option (Int×Int)) (fun s=>match s.2.2.2 with | none=>[(0,R ea .sh),(2,B false),(5,R ea .sh),(6,I (len ea)),(7,I s.2.2.1)] | some j=>[(0,R ea .sh),(2,B false),(3,I j.1),(4,I j.2),(5,R ea .sh),(6,I (len ea)),(7,I s.2.2.1)]) (fun s=>At s.2.2.1 s.2.1.length∧l=s.2.1++s.1∧fp s.2.1 s.1=T) (fun s=>s.1.length) (l,[],0,none) rfl ⟨rfl,rfl,hT.symm⟩ ?_
 intro c1 Q1 hc1 hQ1;rintro ⟨suf,pre,i,j⟩ ⟨hi,hl',hb⟩ ih
 simp only at hi hl' hb ih;rcases j with _ | ⟨j1,j2⟩
 all_goals
  cbv;cases suf with
  | nil=>
   rw[F.lt_f hi la (by simp[hl'])];cbv
   rw[hQ1];cbv;rw[hQ];cbv;rw[h6,←hr,←hb];rfl
  | cons x suf=>
   obtain ⟨ix,hix⟩:=nm (pre.length * 1)
   have hpre:pre.length≤1099511627776:=by rw[hl'] at hl;simp at hl;omega
   have p0:at' 1 ea i=some (ix,[.int .i64 x]):=by rw[hix];exact F.get hi hea hl' (fun _=>rfl) (by decide)
   obtain ⟨b1,hb1⟩:=nm (inR x 1 9)
   have c1:o 232 [I x,I 1,I 9]=some ⟨[B b1],[],none⟩:=by rw[ho,hb1];exact fF ..
   have hv0:fp pre (x::suf)=(b1&&(match pre.getLast? with | none=>true | some y=> !decide (x≤y))&&fp (pre++[x]) suf):=by rw[hb1];rfl
   rw[hv0] at hb;have hi':At (add .i64 i 1) (pre++[x]).length:=ao (F.inc hi (by omega)) (by simp)
   have hl2:l=(pre++[x])++suf:=by rw[hl'];simp
   have hg0:gt i 0=decide (0 < pre.length):=F.gt_n hi rfl;rw[F.lt_t hi la (by simp[hl'])];cbv
   rw[p0];cbv;rw[c1];cbv;refine both (fun d1=>?_) (fun d1=>?_)<;>rw[d1]<;>cbv
   ·rw[hQ1];cbv;rw[hQ];cbv;rw[←hr,show T=false by rw[←hb,F.not_t d1];rfl];rfl
   rw[F.not_f d1,Bool.true_and] at hb;rcases List.eq_nil_or_concat pre with hp | ⟨p',y,hp⟩
   ·rw[show gt i 0=false by rw[hg0,hp];rfl];cbv
    refine ih (suf,pre++[x],add .i64 i 1,some (i,x)) ⟨hi',hl2,?_⟩ (by simp)
    simp only;rw[←hb,hp];rfl
   ·rw[show gt i 0=true by rw[hg0,hp];simp];cbv
    obtain ⟨iy,hiy⟩:=nm (p'.length * 1)
    have hi2:At (sub .i64 i 1) p'.length:=by unfold At at hi ⊢;rw[hp] at hi;simp at hi;rw[F.sub,hi,aW (by omega) (by rw[hp] at hpre;simp at hpre;omega)];omega
    rw[show at' 1 ea (sub .i64 i 1)=some (iy,[.int .i64 y]) by rw[hiy];exact F.get hi2 hea (show l=p'++y::(x::suf) by rw[hl',hp];simp) (fun _=>rfl) (by decide)];cbv
    skip
    obtain ⟨u,hu⟩:=nm (decide (x≤y))
    rw[show ge y x=u by rw[F.ge,hu]];cbv
    have hgl:pre.getLast?=some y:=by rw[hp];simp
    rw[hgl] at hb;simp only at hb;rw[←hu] at hb;refine both (fun d3=>?_) (fun d3=>?_)<;>rw[d3]<;>cbv
    ·rw[hQ1];cbv;rw[hQ];cbv;rw[←hr,show T=false by rw[←hb,d3];rfl];rfl
    ·refine ih (suf,pre++[x],add .i64 i 1,some (i,x)) ⟨hi',hl2,?_⟩ (by simp)
     rw[←hb,d3];simp
end Go.Vm
