/- What the functions answer. -/
import Derived.Test.YtfidmkhcipcnmaaGreatGDTab
set_option maxHeartbeats 4000000
set_option maxRecDepth 10000
set_option linter.unusedVariables false
set_option linter.unusedSimpArgs false
namespace Go.Vm
theorem rM {α:Type} (f:α→List V) (l:List α) (left:Int) (h:l.length≤9223372036854775807) (h1:0≤left) (h2:left≤1048576) {f0:Fl} (h0:ac f0=true):fix Tb md 227 [R (row f l) f0,I left]=some ⟨[I (sz1 l.length left)],[],none⟩:=by
 by_cases hl:left - l.length < 0
 ·rw[show sz1 l.length left= -1 by unfold sz1;rw[if_pos hl]]
  refine bB (fn:=ir227) tb_227 rfl rfl (by decide) rfl ?_;simp only[aj,aV,List.map_cons,List.map_nil,ir227,ai h0,List.head?_nil,reduceCtorEq,if_false,cb,aa,ae,bp,al,aG,af,aH]
  generalize hr:(⟨_,[],none⟩:Ret)=r
  obtain ⟨ea,hea⟩:=nm (row f l)
  rw[←hea];intro add sub mul arith eq ne lt le gt ge neg conv mn mx not beq len at' ln bd cut app allS isNil mks set o hP F ho;have le:=F.len_at hea;unfold At at le;have hs:lt (sub .i64 left (len ea)) 0=true:=by rw[F.lt,F.sub,le,aW (by omega) (by omega)];simp;omega
  cbv;rw[hs];cbv;exact congrArg some hr
 ·rw[show sz1 l.length left=left - l.length by unfold sz1;rw[if_neg hl]]
  refine bB (fn:=ir227) tb_227 rfl rfl (by decide) rfl ?_;simp only[aj,aV,List.map_cons,List.map_nil,ir227,ai h0,List.head?_nil,reduceCtorEq,if_false,cb,aa,ae,bp,al,aG,af,aH]
  obtain ⟨v,hv⟩:=nm (left - l.length)
  rw[←hv];generalize hr:(⟨_,[],none⟩:Ret)=r
  obtain ⟨ea,hea⟩:=nm (row f l)
  rw[←hea];intro add sub mul arith eq ne lt le gt ge neg conv mn mx not beq len at' ln bd cut app allS isNil mks set o hP F ho;have le:=F.len_at hea;unfold At at le;have e1:sub .i64 left (len ea)=v:=by rw[F.sub,le,aW (by omega) (by omega),hv]
  have hs:lt v 0=false:=by rw[F.lt,hv];simp;omega
  cbv;rw[e1,hs];cbv;exact congrArg some hr
theorem Cy (x:Box) (left:Int) (w:x.Fits) (h1:0≤left) (h2:left≤1048576) {f0 f1:Fl} (q0:ac f0=true) (q1:ac f1=true):
  fix Tb md 56 [aG x.limit (row fI x.drops) (row fI x.strips) x.lists f0 f1,I left]=some ⟨[I (en x left)],[],none⟩:=by
 refine bB (fn:=ir56) tb_56 rfl rfl (by decide) rfl ?_;simp only[aj,aV,List.map_cons,List.map_nil,ir56,ai q0,ai q1,List.head?_nil,reduceCtorEq,if_false,cb,aa,ae,bp,al,aG,af,aH]
 obtain ⟨v1,hv1⟩:=nm (sz1 x.drops.length left)
 obtain ⟨v2,hv2⟩:=nm (sz1 x.strips.length v1)
 rw[show en x left=v2 by rw[hv2,hv1];rfl]
 generalize hr:(⟨_,[],none⟩:Ret)=r
 obtain ⟨e1,he1⟩:=nm (row fI x.drops)
 obtain ⟨e2,he2⟩:=nm (row fI x.strips)
 rw[←he1,←he2];have g1:v1≤1048576:=by rw[hv1];exact (Sz.of1 x.drops.length).up h2
 have l1: -1≤v1:=by rw[hv1];exact (Sz.of1 x.drops.length).lo _ h2
 have g2:v2≤1048576:=by rw[hv2];exact (Sz.of1 x.strips.length).up g1
 have l2: -1≤v2:=by rw[hv2];exact (Sz.of1 x.strips.length).lo _ g1
 have n2:v1 < 0→v2= -1:=fun q=>by rw[hv2];exact (Sz.of1 x.strips.length).neg _ q
 unfold Box.Fits at w;intro add sub mul arith eq ne lt le gt ge neg conv mn mx not beq len at' ln bd cut app allS isNil mks set o hP F ho;have c1:o 227 [R e1 (.sp 0 0),I left]=some ⟨[I v1],[],none⟩:=by rw[ho,hv1,he1];exact rM fI _ _ w.2.1.1 h1 h2 rfl
 have c2:0≤v1→o 227 [R e2 (.sp 0 0),I v1]=some ⟨[I v2],[],none⟩:=by intro q;rw[ho,hv2,he2];exact rM fI _ _ w.2.2.1 q g1 rfl
 cbv;rw[c1];cbv;refine both (fun d1=>?_) (fun d1=>?_)<;>rw[d1]<;>cbv
 ·clear hP c1 c2 ho;simp only[F.lt,decide_eq_true_eq] at d1;clear F;rw[←hr,show v2= -1 by omega]
 rw[c2 (by simp only[F.lt,decide_eq_false_iff_not] at d1;omega)];cbv
 refine both (fun d2=>?_) (fun d2=>?_)<;>rw[d2]<;>cbv
 ·clear hP c1 c2 ho;simp only[F.lt,decide_eq_true_eq] at d2;clear F;rw[←hr,show v2= -1 by omega]
 exact congrArg some hr
theorem mi (l:List Box) (left:Int) (w:l.length≤9223372036854775807∧∀ y∈l,y.Fits) (h1:0≤left) (h2:left≤1048576) {f0:Fl} (q0:ac f0=true):
  fix Tb md 101 [R (row ar l) f0,I left]=some ⟨[I (szL en l left)],[],none⟩:=by
 have w1:=w.1;by_cases hl:left - l.length < 0
 ·rw[show szL en l left= -1 from iw a9 l _ (by unfold sz1;rw[if_pos hl])]
  refine bB (fn:=ir101) tb_101 rfl rfl (by decide) rfl ?_;simp only[aj,aV,List.map_cons,List.map_nil,ir101,ai q0,List.head?_nil,reduceCtorEq,if_false,cb,aa,ae,bp,al,aG,af,aH]
  generalize hr:(⟨_,[],none⟩:Ret)=r
  obtain ⟨ea,hea⟩:=nm (row ar l)
  rw[←hea];intro add sub mul arith eq ne lt le gt ge neg conv mn mx not beq len at' ln bd cut app allS isNil mks set o hP F ho;have le:=F.len_at hea;unfold At at le;have hs:lt (sub .i64 left (len ea)) 0=true:=by rw[F.lt,F.sub,le,aW (by omega) (by omega)];simp;omega
  cbv;rw[hs];cbv;exact congrArg some hr
 ·have hT:szL en l left=l.foldl (fun a x=>en x a) (left - l.length):=by unfold szL sz1;rw[if_neg hl]
  rw[hT];refine bB (fn:=ir101) tb_101 rfl rfl (by decide) rfl ?_;simp only[aj,aV,List.map_cons,List.map_nil,ir101,ai q0,List.head?_nil,reduceCtorEq,if_false,cb,aa,ae,bp,al,aG,af,aH]
  obtain ⟨v,hv⟩:=nm (left - l.length)
  rw[←hv];have u3:0≤v:=by omega
  have u4:v≤1048576:=by omega
  have u5:l.length≤1048576:=by omega
  obtain ⟨T,hT⟩:=nm (l.foldl (fun a x=>en x a) v)
  rw[←hT];generalize hr:(⟨_,[],none⟩:Ret)=r
  obtain ⟨ea,hea⟩:=nm (row ar l)
  rw[←hea];intro add sub mul arith eq ne lt le gt ge neg conv mn mx not beq len at' ln bd cut app allS isNil mks set o hP F ho;have le:=F.len_at hea;have e1:sub .i64 left (len ea)=v:=by unfold At at le;rw[F.sub,le,aW (by omega) (by omega),hv]
  have hs:lt v 0=false:=by rw[F.lt,hv];simp;omega
  cbv;rw[e1,hs];cbv;refine aJ hP (σ:=List (Box)×List (Box)×Int×Int) (fun s=>[(0,R ea .sh),(1,I s.2.2.1),(4,I 0),(5,I s.2.2.2)])
   (fun s=>At s.2.2.2 s.2.1.length∧l=s.2.1++s.1∧0≤s.2.2.1∧s.2.2.1≤1048576∧s.1.foldl (fun a x=>en x a) s.2.2.1=T) (fun s=>s.1.length) (l,[],v,0) rfl ⟨rfl,rfl,u3,u4,hT.symm⟩ ?_
  rintro ⟨suf,pre,a,i⟩ ⟨hi,hl',ha0,ha1,hf⟩ ih
  simp only at hi hl' ha0 ha1 hf ih;cbv;cases suf with
  | nil=>
   rw[F.lt_f hi le (by simp[hl'])];cbv
   simp only[List.foldl_nil] at hf;rw[←hr,hf]
  | cons x suf=>
   rw[F.lt_t hi le (by simp[hl'])];cbv
   rw[List.foldl_cons] at hf;obtain ⟨e1,he1⟩:=nm (row fI x.drops)
   obtain ⟨e2,he2⟩:=nm (row fI x.strips)
   obtain ⟨ix,hix⟩:=nm (pre.length * 4)
   rw[show at' 4 ea i=some (ix,[.int .i64 x.limit, .row () e1, .row () e2, .bool x.lists]) by rw[hix,he1,he2];exact F.get hi hea hl' (fun _=>rfl) (by decide)];cbv
   obtain ⟨a',ha'⟩:=nm (en x a)
   rw[←ha'] at hf;have u1:a'≤1048576:=by rw[ha'];exact (a9 x).up ha1
   have u2: -1≤a':=by rw[ha'];exact (a9 x).lo _ ha1
   have c1:o 56 [aG x.limit e1 e2 x.lists (.sp 0 1) (.sp 0 2),I a]=some ⟨[I a'],[],none⟩:=by rw[ho,ha',he1,he2];exact Cy x a (w.2 x (by rw[hl'];simp)) ha0 ha1 rfl rfl
   rw[c1];cbv;refine both (fun c=>?_) (fun c=>?_)<;>rw[c]<;>cbv
   ·simp only[F.lt,decide_eq_true_eq] at c;rw[←hr,←hf,iw a9 suf a' (by omega)]
   ·simp only[F.lt,decide_eq_false_iff_not] at c;refine ih (suf,pre++[x],a',add .i64 i 1) ⟨ao (F.inc hi (by simp[hl'] at u5;omega)) (by simp),by simp[hl'],by simp only;omega,u1,hf⟩ (by simp)
theorem gJ (l:List Int) (hl:l.length≤1099511627776) {f0:Fl} (h0:ac f0=true):fix Tb md 76 [R (row fI l) f0]=some ⟨[R (row fI l) (.ow false)],[],none⟩:=by
 refine bB (fn:=ir76) tb_76 rfl rfl (by decide) rfl ?_;simp only[aj,aV,List.map_cons,List.map_nil,ir76,ai h0,List.head?_nil,reduceCtorEq,if_false,cb,aa,ae,bp,al,aG,af,aH]
 generalize hr:(⟨_,[],none⟩:Ret)=r
 obtain ⟨e1,he1⟩:=nm (row fI l)
 rw[←he1] at hr ⊢;intro add sub mul arith eq ne lt le gt ge neg conv mn mx not beq len at' ln bd cut app allS isNil mks set o hP F ho;have la:=F.len_at he1;cbv;obtain ⟨e2,he2⟩:=nm (row fI (List.replicate l.length 0))
 rw[show mks [.int .i64 0] (len e1) (len e1)=some e2 by rw[F.mks,show len e1=_ from la,he2];exact qS (f:=fI) (a:=0) rfl (by simp[fI]) hl];cbv
 refine aJ hP (σ:=List Int×List Int×List (List V)×Int) (fun s=>[(0,R e1 .sh),(2,R [] .nl),(3,R s.2.2.1 (.ow false)),(4,I s.2.2.2)])
  (fun s=>At s.2.2.2 s.2.1.length∧l=s.2.1++s.1∧s.2.2.1=row fI (s.2.1++List.replicate s.1.length 0)) (fun s=>s.1.length) (l,[],e2,0) rfl ⟨rfl,rfl,by simpa using he2⟩ ?_
 rintro ⟨suf,pre,eo,i⟩ ⟨hi,hl',heo⟩ ih
 simp only at hi hl' heo ih;cbv;cases suf with
 | nil=>
  rw[F.lt_f hi la (by simp[hl'])];cbv
  rw[←hr,heo,he1,hl'];simp
 | cons x suf=>
  rw[F.lt_t hi la (by simp[hl'])];cbv
  obtain ⟨ix,hix⟩:=nm (pre.length * 1)
  rw[show at' 1 e1 i=some (ix,[.int .i64 x]) by rw[hix];exact F.get hi he1 hl' (fun _=>rfl) (by decide)];cbv
  rw[show at' 1 eo i=some (ix,[.int .i64 0]) by rw[hix];exact F.get hi heo rfl (fun _=>rfl) (by decide)];cbv
  obtain ⟨eo',heo'⟩:=nm (row fI (pre++x::List.replicate suf.length 0))
  rw[show set eo ix [.int .i64 x]=some eo' by rw[F.set,heo,hix,heo'];exact wY (fun _=>rfl) rfl];cbv
  refine ih (suf,pre++[x],eo',add .i64 i 1) ⟨ao (F.inc hi (by simp[hl'] at hl;omega)) (by simp),by simp[hl'],by simp[heo']⟩ (by simp)
theorem Cz (x:Box) (w:x.Mid) {f0 f1:Fl} (q0:ac f0=true) (q1:ac f1=true):
  fix Tb md 58 [aG x.limit (row fI x.drops) (row fI x.strips) x.lists f0 f1]=some ⟨[aG x.limit (row fI x.drops) (row fI x.strips) x.lists (.ow false) (.ow false)],[],none⟩:=by
 refine bB (fn:=ir58) tb_58 rfl rfl (by decide) rfl ?_;simp only[aj,aV,List.map_cons,List.map_nil,ir58,ai q0,ai q1,List.head?_nil,reduceCtorEq,if_false,cb,aa,ae,bp,al,aG,af,aH]
 generalize hr:(⟨_,[],none⟩:Ret)=r
 obtain ⟨e1,he1⟩:=nm (row fI x.drops)
 obtain ⟨e2,he2⟩:=nm (row fI x.strips)
 rw[←he1,←he2] at hr ⊢;unfold Box.Mid at w;intro add sub mul arith eq ne lt le gt ge neg conv mn mx not beq len at' ln bd cut app allS isNil mks set o hP F ho;have c1:o 76 [R e1 (.sp 0 0)]=some ⟨[R e1 (.ow false)],[],none⟩:=by rw[ho,he1];exact gJ _ (by have:=w.1;omega) rfl
 have c2:o 76 [R e2 (.sp 0 0)]=some ⟨[R e2 (.ow false)],[],none⟩:=by rw[ho,he2];exact gJ _ (by have:=w.2;omega) rfl
 cbv;rw[c1];cbv;rw[c2];cbv;exact congrArg some hr
theorem mj (l:List (Box)) (w:l.length≤1073741824∧∀ y∈l,y.Mid) {f0:Fl} (q0:ac f0=true):
  fix Tb md 103 [R (row ar l) f0]=some ⟨[R (row ar l) (.ow false)],[],none⟩:=by
 have w1:=w.1;refine bB (fn:=ir103) tb_103 rfl rfl (by decide) rfl ?_;simp only[aj,aV,List.map_cons,List.map_nil,ir103,ai q0,List.head?_nil,reduceCtorEq,if_false,cb,aa,ae,bp,al,aG,af,aH]
 generalize hr:(⟨_,[],none⟩:Ret)=r
 obtain ⟨ea,hea⟩:=nm (row ar l)
 rw[←hea] at hr ⊢;intro add sub mul arith eq ne lt le gt ge neg conv mn mx not beq len at' ln bd cut app allS isNil mks set o hP F ho;have la:=F.len_at hea;cbv;obtain ⟨e0,he0⟩:=nm (row ar (List.replicate l.length (⟨0,[],[],false⟩:Box)))
 rw[show mks [.int .i64 0, .row () [], .row () [], .bool false] (len ea) (len ea)=some e0 by rw[F.mks,show len ea=_ from la,he0];exact qS (f:=ar) (a:=(⟨0,[],[],false⟩:Box)) rfl (by simp[ar]) (show l.length≤1099511627776 by omega)];cbv
 refine aJ hP (σ:=List (Box)×List (Box)×List (List V)×Int) (fun s=>[(0,R ea .sh),(2,R [] .nl),(3,R s.2.2.1 (.ow false)),(4,I s.2.2.2)])
  (fun s=>At s.2.2.2 s.2.1.length∧l=s.2.1++s.1∧s.2.2.1=row ar (s.2.1++List.replicate s.1.length (⟨0,[],[],false⟩:Box))) (fun s=>s.1.length) (l,[],e0,0) rfl ⟨rfl,rfl,by simpa using he0⟩ ?_
 rintro ⟨suf,pre,eo,i⟩ ⟨hi,hl',heo⟩ ih
 simp only at hi hl' heo ih;cbv;cases suf with
 | nil=>
  rw[F.lt_f hi la (by simp[hl'])];cbv
  rw[←hr,heo,hea,hl'];simp
 | cons x suf=>
  rw[F.lt_t hi la (by simp[hl'])];cbv
  obtain ⟨e1,he1⟩:=nm (row fI x.drops)
  obtain ⟨e2,he2⟩:=nm (row fI x.strips)
  obtain ⟨ix,hix⟩:=nm (pre.length * 4)
  rw[show at' 4 ea i=some (ix,[.int .i64 x.limit, .row () e1, .row () e2, .bool x.lists]) by rw[hix,he1,he2];exact F.get hi hea hl' (fun _=>rfl) (by decide)];cbv
  have c1:o 58 [aG x.limit e1 e2 x.lists (.sp 0 1) (.sp 0 2)]=some ⟨[aG x.limit e1 e2 x.lists (.ow false) (.ow false)],[],none⟩:=by rw[ho,he1,he2];exact Cz x (w.2 x (by rw[hl'];simp)) rfl rfl
  rw[c1];cbv;rw[show at' 4 eo i=some (ix,[.int .i64 0, .row () [], .row () [], .bool false]) by rw[hix];exact F.get hi heo rfl (fun _=>rfl) (by decide)];cbv
  obtain ⟨eo',heo'⟩:=nm (row ar (pre++x::List.replicate suf.length (⟨0,[],[],false⟩:Box)))
  rw[show set eo ix [.int .i64 x.limit, .row () e1, .row () e2, .bool x.lists]=some eo' by rw[F.set,heo,hix,heo',he1,he2];exact lR (fun _=>rfl) rfl];cbv
  refine ih (suf,pre++[x],eo',add .i64 i 1) ⟨ao (F.inc hi (by simp[hl'] at w1;omega)) (by simp),by simp[hl'],by simp[heo']⟩ (by simp)
theorem Kp (a b:List Int) (hl:a.length≤1099511627776) {f0 f1:Fl} (h0:ac f0=true) (h1:ac f1=true):fix Tb md 79 [R (row fI a) f0,R (row fI b) f1]=some ⟨[B (decide (a=b))],[],none⟩:=by
 refine bB (fn:=ir79) tb_79 rfl rfl (by decide) rfl ?_;simp only[aj,aV,List.map_cons,List.map_nil,ir79,ai h0,ai h1,List.head?_nil,reduceCtorEq,if_false,cb,aa,ae,bp,al,aG,af,aH]
 generalize hr:(⟨_,[],none⟩:Ret)=r
 obtain ⟨ea,hea⟩:=nm (row fI a)
 obtain ⟨eb,heb⟩:=nm (row fI b)
 rw[←hea,←heb];intro add sub mul arith eq ne lt le gt ge neg conv mn mx not beq len at' ln bd cut app allS isNil mks set o hP F ho;have la:=F.len_at hea;have lb:=F.len_at heb;cbv;by_cases hab:a.length=b.length
 ·rw[F.ne_f (by unfold At at la lb;omega)];cbv
  refine aJ hP (σ:=List Int×List Int×List Int×Int) (fun s=>[(0,R ea .sh),(1,R eb .sh),(4,B false),(5,I s.2.2.2)]) (fun s=>At s.2.2.2 s.1.length∧a=s.1++s.2.1∧b=s.1++s.2.2.1) (fun s=>s.2.1.length) ([],a,b,0) rfl ⟨rfl,rfl,rfl⟩ ?_
  rintro ⟨pre,sa,sb,i⟩ ⟨hi,ha,hb⟩ ih
  simp only at hi ha hb ih;cbv;have hlen:sa.length=sb.length:=by simp[ha,hb] at hab;exact hab
  match sa,sb,hlen,ha,hb with
  | [],[],_,ha,hb=>
   rw[F.lt_f hi la (by simp[ha])];cbv
   rw[←hr];simp[ha,hb]
  | x::sa,y::sb,_,ha,hb=>
   rw[F.lt_t hi la (by simp[ha])];cbv
   obtain ⟨ix,hix⟩:=nm (pre.length * 1)
   rw[show at' 1 ea i=some (ix,[.int .i64 x]) by rw[hix];exact F.get hi hea ha (fun _=>rfl) (by decide)];cbv
   rw[show at' 1 eb i=some (ix,[.int .i64 y]) by rw[hix];exact F.get hi heb hb (fun _=>rfl) (by decide)];cbv
   by_cases hxy:x=y
   ·rw[F.ne_f hxy];cbv;refine ih (pre++[x],sa,sb,add .i64 i 1) ⟨ao (F.inc hi (by simp[ha] at hl;omega)) (by simp),by simp[ha],by simp[hb,hxy]⟩ (by simp)
   ·rw[F.ne_t hxy];cbv;rw[←hr];simp[ha,hb,hxy]
 ·rw[F.ne_t (by unfold At at la lb;omega)];cbv
  rw[←hr];simp;intro e;exact hab (by rw[e])
theorem cM (a:List Int) (hl:a.length≤1099511627776) {f0 f1:Fl} (h0:ac f0=true) (h1:ac f1=true):fix Tb md 79 [R (row fI a) f0,R (row fI a) f1]=some ⟨[B true],[],none⟩:=by simpa using Kp a a hl h0 h1
theorem CA (x:Box) (w:x.Mid) {f0 f1:Fl} (q0:ac f0=true) (q1:ac f1=true) {g0 g1:Fl} (p0:ac g0=true) (p1:ac g1=true):
  fix Tb md 60 [aG x.limit (row fI x.drops) (row fI x.strips) x.lists f0 f1,aG x.limit (row fI x.drops) (row fI x.strips) x.lists g0 g1]=some ⟨[B true],[],none⟩:=by
 refine bB (fn:=ir60) tb_60 rfl rfl (by decide) rfl ?_;simp only[aj,aV,List.map_cons,List.map_nil,ir60,ai q0,ai q1,ai p0,ai p1,List.head?_nil,reduceCtorEq,if_false,cb,aa,ae,bp,al,aG,af,aH]
 generalize hr:(⟨_,[],none⟩:Ret)=r
 obtain ⟨e1,he1⟩:=nm (row fI x.drops)
 obtain ⟨e2,he2⟩:=nm (row fI x.strips)
 rw[←he1,←he2];unfold Box.Mid at w;intro add sub mul arith eq ne lt le gt ge neg conv mn mx not beq len at' ln bd cut app allS isNil mks set o hP F ho;have c1:o 79 [R e1 (.sp 0 0),R e1 (.sp 1 0)]=some ⟨[B true],[],none⟩:=by rw[ho,he1];exact cM _ (by have:=w.1;omega) rfl rfl
 have c2:o 79 [R e2 (.sp 0 0),R e2 (.sp 1 0)]=some ⟨[B true],[],none⟩:=by rw[ho,he2];exact cM _ (by have:=w.2;omega) rfl rfl
 cbv;rw[F.ne_f rfl];cbv;rw[c1];cbv;rw[show not true=false by rw[F.not];rfl];cbv
 rw[c2];cbv;rw[show not true=false by rw[F.not];rfl];cbv
 rw[show not (beq x.lists x.lists)=false by rw[F.not,F.beq];simp];cbv
 exact congrArg some hr
theorem ml (l:List (Box)) (w:l.length≤1073741824∧∀ y∈l,y.Mid) {f0 f1:Fl} (q0:ac f0=true) (q1:ac f1=true):
  fix Tb md 105 [R (row ar l) f0,R (row ar l) f1]=some ⟨[B true],[],none⟩:=by
 have w1:=w.1;refine bB (fn:=ir105) tb_105 rfl rfl (by decide) rfl ?_;simp only[aj,aV,List.map_cons,List.map_nil,ir105,ai q0,ai q1,List.head?_nil,reduceCtorEq,if_false,cb,aa,ae,bp,al,aG,af,aH]
 generalize hr:(⟨_,[],none⟩:Ret)=r
 obtain ⟨ea,hea⟩:=nm (row ar l)
 rw[←hea];intro add sub mul arith eq ne lt le gt ge neg conv mn mx not beq len at' ln bd cut app allS isNil mks set o hP F ho;have la:=F.len_at hea;cbv;rw[F.ne_f rfl];cbv;refine aJ hP (σ:=List (Box)×List (Box)×Int) (fun s=>[(0,R ea .sh),(1,R ea .sh),(4,B false),(5,I s.2.2)])
  (fun s=>At s.2.2 s.2.1.length∧l=s.2.1++s.1) (fun s=>s.1.length) (l,[],0) rfl ⟨rfl,rfl⟩ ?_
 rintro ⟨suf,pre,i⟩ ⟨hi,hl'⟩ ih
 simp only at hi hl' ih;cbv;cases suf with
 | nil=>
  rw[F.lt_f hi la (by simp[hl'])];cbv
  exact congrArg some hr
 | cons x suf=>
  rw[F.lt_t hi la (by simp[hl'])];cbv
  obtain ⟨e1,he1⟩:=nm (row fI x.drops)
  obtain ⟨e2,he2⟩:=nm (row fI x.strips)
  obtain ⟨ix,hix⟩:=nm (pre.length * 4)
  have a1:at' 4 ea i=some (ix,[.int .i64 x.limit, .row () e1, .row () e2, .bool x.lists]):=by rw[hix,he1,he2];exact F.get hi hea hl' (fun _=>rfl) (by decide)
  rw[a1];cbv
  try (rw[a1];cbv)
  have c1:o 60 [aG x.limit e1 e2 x.lists (.sp 0 1) (.sp 0 2),aG x.limit e1 e2 x.lists (.sp 1 1) (.sp 1 2)]=some ⟨[B true],[],none⟩:=by rw[ho,he1,he2];exact CA x (w.2 x (by rw[hl'];simp)) rfl rfl rfl rfl
  rw[c1];cbv;rw[show not true=false by rw[F.not];rfl];cbv
  refine ih (suf,pre++[x],add .i64 i 1) ⟨ao (F.inc hi (by simp[hl'] at w1;omega)) (by simp),by simp[hl']⟩ (by simp)
def AtK (x k:Int) (n:Nat):Prop:=x=k+(n:Int)
def Lim (k:Int) (n:Nat):Prop:=0≤k∧k+(n:Int)≤4611686018427387904
theorem AtK.zero {k:Int}:AtK k k 0:=by unfold AtK;simp
theorem AtK.one {x k:Int} {n:Nat} (h:AtK x k n):AtK (x+1) k (n+1):=by unfold AtK at *;omega
theorem AtK.plus {x k:Int} {n m:Nat} (h:AtK x k n):AtK (x+(m:Int)) k (n+m):=by unfold AtK at *;omega
theorem AtK.eq {x k:Int} {n m:Nat} (h:AtK x k n) (e:n=m):AtK x k m:=e▸h
theorem AtK.same {x k:Int} {n:Nat} (h:AtK x k n):x=k+(n:Int):=h
theorem AtK.lim {x k:Int} {n m q:Nat} (h:AtK x k n) (l:Lim k q) (e:n+m≤q):Lim x m:=by unfold AtK Lim at *;omega
theorem Lim.nn {k:Int} {n:Nat} (l:Lim k n):0≤k:=l.1
theorem AtK.inc {x k:Int} {n q:Nat} (h:AtK x k n) (l:Lim k q) (e:n≤q):IntKind.wrap .i64 (x+1)=x+1:=by unfold AtK Lim at *;exact aW (by omega) (by omega)
theorem Lim.le {k:Int} {n m:Nat} (l:Lim k n) (e:m≤n):Lim k m:=by unfold Lim at *;omega
theorem lY {α:Type} {c:α→Nat} {B:Nat}:∀ {l:List α},(∀ y∈l,c y≤B)→(l.map c).sum≤l.length * B
 | [],_=>by simp
 | x::l,h=>by
  have h1:=h x (by simp)
  have h2:=lY (l:=l) (fun y hy=>h y (by simp[hy]))
  simp only[List.map_cons,List.sum_cons,List.length_cons,Nat.succ_mul];omega
theorem Lim.of1 {n:Nat} (h:n≤4611686018427387903):Lim 1 n:=⟨by decide,by omega⟩
def mI:List Int→Int→List Int
 | [],_=>[]
 | _::l,k=>k::mI l (k+1)
theorem kB:∀ (l:List Int) (k:Int),(mI l k).length=l.length
 | [],_=>rfl
 | _::l,k=>by simp[mI,kB l (k+1)]
theorem Am:∀ (a b:List Int) (k x:Int),AtK x k a.length→mI (a++b) k=mI a k++mI b x
 | [],b,k,x,h=>by simp[AtK] at h;subst h;simp[mI]
 | y::a,b,k,x,h=>by
  simp only[List.cons_append,mI];rw[Am a b (k+1) x (by unfold AtK at *;simp at h;omega)]
theorem fk {α:Type} {pre suf:List α} {f:α→List V} {k:Nat} {x y:α} {j:Nat} {v:V} {ix:Nat} (hk:∀ a,(f a).length=k) (hj:j < k) (hy:f y=(f x).set j v) (hix:ix=pre.length * k):bh (row f (pre++x::suf)) (ix+j) [v]=some (row f (pre++y::suf)):=by
 have:=wZ (k:=k) [v] j (row f pre) (f x) (row f suf) (by intro a ha;obtain ⟨b,_,rfl⟩:=List.mem_map.1 ha;exact hk b) (hk x) (by simp;omega)
 rw[jc] at this;subst hix;rw[show row f (pre++x::suf)=row f pre++f x::row f suf by simp[row],this]
 have e:(f x).take j++[v]++(f x).drop (j+[v].length)=f y:=by
  rw[hy,List.set_eq_take_append_cons_drop,if_pos (by rw[hk];exact hj)];simp
 rw[e];simp[row]
theorem bV (l:List Int) (k:Int) (hk:Lim k l.length) (hl:l.length≤1099511627776):fix Tb md 1080 [R (row fI l) (.mp 0),I k]=some ⟨[I (k+(l.length:Int))],[.row () (row fI (mI l k))],none⟩:=by
 obtain ⟨t,ht⟩:=nm (k+(l.length:Int))
 obtain ⟨et,het⟩:=nm (row fI (mI l k))
 have hT:AtK t k l.length:=ht;rw[←ht,←het];clear ht;refine bB (fn:=ir1080) tb_1080 rfl rfl (by decide) rfl ?_
 generalize hr:(⟨_,[_],none⟩:Ret)=r
 obtain ⟨ea,hea⟩:=nm (row fI l)
 rw[←hea];intro add sub mul arith eq ne lt le gt ge neg conv mn mx not beq len at' ln bd cut app allS isNil mks set o hP F ho;have la:=F.len_at hea;cbv;refine aJ hP (σ:=List Int×List Int×List (List V)×Int×Int) (fun s=>[(0,R s.2.2.1 (.mp 0)),(1,I s.2.2.2.1),(4,I 0),(5,I s.2.2.2.2)])
  (fun s=>At s.2.2.2.2 s.2.1.length∧AtK s.2.2.2.1 k s.2.1.length∧l=s.2.1++s.1∧s.2.2.1=row fI (mI s.2.1 k++s.1)) (fun s=>s.1.length) (l,[],ea,k,0) rfl ⟨rfl,AtK.zero,rfl,by simpa [mI] using hea⟩ ?_
 rintro ⟨suf,pre,eo,x,i⟩ ⟨hi,hx,hl',heo⟩ ih
 simp only at hi hx hl' heo ih;have lo:=F.len_at heo;cbv;cases suf with
 | nil=>
  rw[F.lt_f hi lo (by simp[kB])];cbv
  rw[←hr,show x=t by rw[hx.same,hT.same,hl'];simp,heo,het,hl'];simp
 | cons y suf=>
  have hl3:pre.length+1≤l.length:=by rw[hl'];simp
  have a1:add .i64 x 1=x+1:=by rw[F.add,hx.inc hk (by omega)]
  rw[F.lt_t hi lo (by simp[kB])];cbv
  obtain ⟨ix,hix⟩:=nm (pre.length * 1)
  rw[show at' 1 eo i=some (ix,[.int .i64 y]) by rw[hix];have h:=F.get (f:=fI) (k:=1) (show At i (mI pre k).length by rw[kB];exact hi) heo rfl (fun _=>rfl) (by decide);rw[kB] at h;exact h];cbv
  obtain ⟨eo',heo'⟩:=nm (row fI (mI pre k++x::suf))
  rw[show set eo ix [.int .i64 x]=some eo' by rw[F.set,heo,hix,heo',←kB pre k];exact wY (fun _=>rfl) rfl];cbv
  rw[a1];refine ih (suf,pre++[y],eo',x+1,add .i64 i 1) ⟨ao (F.inc hi (by omega)) (by simp),hx.one.eq (by simp),by simp[hl'],?_⟩ (by simp)
  simp only;rw[heo',Am pre [y] k x hx];simp[mI]
theorem jT (k:Int):fix Tb md 1080 [R [] .nl,I k]=some ⟨[I k],[],none⟩:=by
 refine bB (fn:=ir1080) tb_1080 rfl rfl (by decide) rfl ?_
 generalize hr:(⟨_,[],none⟩:Ret)=r
 intro add sub mul arith eq ne lt le gt ge neg conv mn mx not beq len at' ln bd cut app allS isNil mks set o hP F ho;have la:At (len []) 0:=F.len_at (f:=fI) (l:=[]) rfl;have h0:lt 0 (len [])=false:=F.lt_f at0 la (Nat.le_refl 0);cbv;refine aJ hP (σ:=Unit) (fun _=>[(0,R [] .nl),(1,I k),(4,I 0),(5,I 0)]) (fun _=>True) (fun _=>0) () rfl trivial ?_
 rintro ⟨⟩ _ ih
 clear ih;cbv;rw[h0];cbv;exact congrArg some hr
def DT (x:Ext) (k:Int):Ext:=⟨k,mI x.body (k+1)⟩
def oA (x:Ext):Nat:=1+x.body.length
def ak:List Ext→Int→List Ext
 | [],_=>[]
 | x::l,k=>DT x k::ak l (k+(oA x:Int))
def bo (l:List Ext):Nat:=(l.map oA).sum
theorem dB:∀ (l:List Ext) (k:Int),(ak l k).length=l.length
 | [],_=>rfl
 | _::l,k=>by simp[ak,dB l _]
theorem qC:∀ (a b:List Ext) (k x:Int),AtK x k (bo a)→ak (a++b) k=ak a k++ak b x
 | [],b,k,x,h=>by simp[AtK,bo] at h;subst h;simp[ak]
 | y::a,b,k,x,h=>by
  simp only[List.cons_append,ak];rw[qC a b (k+(oA y:Int)) x (by unfold AtK at *;simp[bo] at h ⊢;omega)]
theorem Dc {x:Ext} (w:x.Mid):oA x≤2147483650:=by unfold Ext.Mid at w;unfold oA;omega
theorem zy {x:Ext} (w:x.Small):oA x≤2097154:=by unfold Ext.Small at w;unfold oA;omega
theorem uQ {l:List Ext} (w:l.length≤1073741824∧∀ y∈l,y.Mid):bo l≤2305843011361177600:=
 Nat.le_trans (lY fun y hy=>Dc (w.2 y hy)) (Nat.mul_le_mul_right _ w.1)
theorem mB {l:List Ext} (w:l.length≤1048576∧∀ y∈l,y.Small):bo l≤2199025352704:=
 Nat.le_trans (lY fun y hy=>zy (w.2 y hy)) (Nat.mul_le_mul_right _ w.1)
set_option maxHeartbeats 2000000 in
theorem wH (l:List Ext) (k:Int) (hk:Lim k (bo l)) (hl:l.length≤1099511627776) (w0:∀ y∈l,y.body.length≤1099511627776):fix Tb md 1201 [R (row ab l) (.mp 0),I k]=some ⟨[I (k+(bo l:Int))],[.row () (row ab (ak l k))],none⟩:=by
 obtain ⟨t,ht⟩:=nm (k+(bo l:Int))
 obtain ⟨et,het⟩:=nm (row ab (ak l k))
 have hT:AtK t k (bo l):=ht;rw[←ht,←het];clear ht;refine bB (fn:=ir1201) tb_1201 rfl rfl (by decide) rfl ?_
 generalize hr:(⟨_,[_],none⟩:Ret)=r
 obtain ⟨ea,hea⟩:=nm (row ab l)
 rw[←hea];intro add sub mul arith eq ne lt le gt ge neg conv mn mx not beq len at' ln bd cut app allS isNil mks set o hP F ho;cbv;refine aJ hP (σ:=List Ext×List Ext×List (List V)×Int×Int) (fun s=>[(0,R s.2.2.1 (.mp 0)),(1,I s.2.2.2.1),(4,I 0),(5,I s.2.2.2.2)])
  (fun s=>At s.2.2.2.2 s.2.1.length∧AtK s.2.2.2.1 k (bo s.2.1)∧l=s.2.1++s.1∧s.2.2.1=row ab (ak s.2.1 k++s.1)) (fun s=>s.1.length) (l,[],ea,k,0) rfl ⟨rfl,AtK.zero,rfl,by simpa [ak] using hea⟩ ?_
 rintro ⟨suf,pre,eo,z0,i⟩ ⟨hi,a0,hl',heo⟩ ih
 simp only at hi a0 hl' heo ih;have lo:=F.len_at heo;cbv;cases suf with
 | nil=>
  rw[F.lt_f hi lo (by simp[dB])];cbv
  rw[←hr,show z0=t by rw[a0.same,hT.same,hl'];simp,heo,het,hl'];simp
 | cons x suf=>
  have hl3:pre.length+1≤l.length:=by rw[hl'];simp
  have hc:bo l=bo pre+(oA x+bo suf):=by rw[hl'];simp[bo]
  have hcx:oA x=1+x.body.length:=rfl;obtain ⟨z1,hz1⟩:=nm (z0+1)
  have a1:AtK z1 k (bo pre+1):=hz1▸a0.one;have s1:add .i64 z0 1=z1:=by rw[F.add,a0.inc hk (by omega),hz1]
  obtain ⟨z2,hz2⟩:=nm (z1+(x.body.length:Int))
  have a2:AtK z2 k (bo pre+1+x.body.length):=hz2▸a1.plus;have m2:Lim z1 x.body.length:=a1.lim hk (by omega)
  have n2:0≤z2:=by have:=m2.nn;omega
  have hmx:DT x z0=(⟨z0,(mI x.body z1)⟩:Ext):=by simp only[DT,hz1,hz2]
  have hzn:z0+(oA x:Int)=z2:=by rw[hcx,a2.same,a0.same];omega
  have y0:x.body.length≤1099511627776:=w0 x (by rw[hl'];simp)
  obtain ⟨e1,he1⟩:=nm (row fI x.body)
  obtain ⟨g1,hg1⟩:=nm (row fI (mI x.body z1))
  rw[F.lt_t hi lo (by simp[dB])];cbv
  obtain ⟨ix,hix⟩:=nm (pre.length * 2)
  obtain ⟨eo1,heo1⟩:=nm (row ab (ak pre k++(⟨z0,x.body⟩:Ext)::suf))
  obtain ⟨eo2,heo2⟩:=nm (row ab (ak pre k++(⟨z0,(mI x.body z1)⟩:Ext)::suf))
  rw[show at' 2 eo i=some (ix,[.int .i64 x.tag, .row () e1]) by simp only[hix,he1,hg1];have h:=F.get (f:=ab) (k:=2) (show At i (ak pre k).length by rw[dB];exact hi) heo rfl (fun _=>rfl) (by decide);rw[dB] at h;exact h];cbv
  have q0:bh eo (ix+0) [.int .i64 z0]=some eo1:=by simp only[heo,heo1,he1,hg1];exact fk (k:=2) (fun _=>rfl) (by decide) (by simp[ab]) (by rw[hix,dB])
  first | rw[show set eo (ix+0) [.int .i64 z0]=some eo1 by rw[F.set];exact q0] | rw[show set eo (Nat.add ix 0) [.int .i64 z0]=some eo1 by rw[F.set];exact q0] | rw[show set eo ix [.int .i64 z0]=some eo1 by rw[F.set];exact q0] | trace_state
  cbv;rw[s1];rw[show at' 2 eo1 i=some (ix,[.int .i64 z0, .row () e1]) by simp only[hix,he1,hg1];have h:=F.get (f:=ab) (k:=2) (show At i (ak pre k).length by rw[dB];exact hi) heo1 rfl (fun _=>rfl) (by decide);rw[dB] at h;exact h];cbv
  have c1:o 1080 [R e1 (.mp 0),I z1]=some ⟨[I z2],[.row () g1],none⟩:=by rw[ho,he1,hg1,hz2];exact bV _ _ m2 y0
  rw[c1];cbv;have q1:bh eo1 (ix+1) [.row () g1]=some eo2:=by simp only[heo1,heo2,he1,hg1];exact fk (k:=2) (fun _=>rfl) (by decide) (by simp[ab]) (by rw[hix,dB])
  first | rw[show set eo1 (ix+1) [.row () g1]=some eo2 by rw[F.set];exact q1] | rw[show set eo1 (Nat.add ix 1) [.row () g1]=some eo2 by rw[F.set];exact q1] | rw[show set eo1 ix [.row () g1]=some eo2 by rw[F.set];exact q1] | trace_state
  cbv;refine ih (suf,pre++[x],eo2,z2,add .i64 i 1) ⟨ao (F.inc hi (by omega)) (by simp),a2.eq (by simp[bo,oA]<;>omega),by simp[hl'],?_⟩ (by simp)
  simp only;rw[heo2,qC pre [x] k z0 a0,←hmx];simp[ak]
theorem wI (k:Int):fix Tb md 1201 [R [] .nl,I k]=some ⟨[I k],[],none⟩:=by
 refine bB (fn:=ir1201) tb_1201 rfl rfl (by decide) rfl ?_
 generalize hr:(⟨_,[],none⟩:Ret)=r
 intro add sub mul arith eq ne lt le gt ge neg conv mn mx not beq len at' ln bd cut app allS isNil mks set o hP F ho;have la:At (len []) 0:=F.len_at (f:=ab) (l:=[]) rfl;have h0:lt 0 (len [])=false:=F.lt_f at0 la (Nat.le_refl 0);cbv;refine aJ hP (σ:=Unit) (fun _=>[(0,R [] .nl),(1,I k),(4,I 0),(5,I 0)]) (fun _=>True) (fun _=>0) () rfl trivial ?_
 rintro ⟨⟩ _ ih
 clear ih;cbv;rw[h0];cbv;exact congrArg some hr
def ag (x:Hello) (k:Int):Hello:=⟨mI x.versions k,ak x.exts (k+(x.versions.length:Int))⟩
def aw (x:Hello):Nat:=x.versions.length+bo x.exts
theorem fD {x:Hello} (w:x.Mid):aw x≤2305843016730000000:=by unfold Hello.Mid at w;have h0:=w.1;have h1:=uQ (show _ from w.2);unfold aw;omega
theorem bK {x:Hello} (w:x.Small):aw x≤2199100000000:=by unfold Hello.Small at w;have h0:=w.1;have h1:=mB (show _ from w.2);unfold aw;omega
theorem cr (x:Hello) (k:Int) (hk:Lim k (aw x)) (w:x.Mid):fix Tb md 1081 [aa (row fI x.versions) (row ab x.exts) (.mp 0) (.mp 1),I k]=some ⟨[I (k+(aw x:Int))],[.row () (row fI (ag x k).versions), .row () (row ab (ag x k).exts)],none⟩:=by
 have hn:aw x=x.versions.length+bo x.exts:=rfl;unfold Hello.Mid at w;have a0:AtK k k 0:=AtK.zero;obtain ⟨z1,hz1⟩:=nm (k+(x.versions.length:Int))
 have a1:AtK z1 k (0+x.versions.length):=hz1▸a0.plus;have m1:Lim k (x.versions.length):=a0.lim hk (by omega)
 have n1:0≤z1:=by have:=m1.nn;omega
 obtain ⟨z2,hz2⟩:=nm (z1+(bo x.exts:Int))
 have a2:AtK z2 k (0+x.versions.length+bo x.exts):=hz2▸a1.plus;have m2:Lim z1 (bo x.exts):=a1.lim hk (by omega)
 have n2:0≤z2:=by have:=m2.nn;omega
 rw[show k+(aw x:Int)=z2 by rw[a2.same,hn];simp]
 have x0:(ag x k).versions=mI x.versions k:=by simp only[ag,hz1,hz2]
 have x1:(ag x k).exts=ak x.exts z1:=by simp only[ag,hz1,hz2]
 rw[x0,x1];obtain ⟨g0,hg0⟩:=nm (row fI (mI x.versions k))
 obtain ⟨e0,he0⟩:=nm (row fI x.versions)
 obtain ⟨g1,hg1⟩:=nm (row ab (ak x.exts z1))
 obtain ⟨e1,he1⟩:=nm (row ab x.exts)
 rw[←hg0,←he0,←hg1,←he1];refine bB (fn:=ir1081) tb_1081 rfl rfl (by decide) rfl ?_
 generalize hr:(⟨_,[_,_],none⟩:Ret)=r
 intro add sub mul arith eq ne lt le gt ge neg conv mn mx not beq len at' ln bd cut app allS isNil mks set o hP F ho;have c1:o 1080 [R e0 (.mp 0),I k]=some ⟨[I z1],[.row () g0],none⟩:=by rw[ho,hz1,hg0,he0];exact bV _ _ m1 (Nat.le_trans (w.1) (by decide))
 have c2:o 1201 [R e1 (.mp 0),I z1]=some ⟨[I z2],[.row () g1],none⟩:=by rw[ho,hz2,hg1,he1];exact wH _ _ m2 (Nat.le_trans w.2.1 (by decide)) (fun y hy=>Nat.le_trans ((w.2.2 y hy)) (by decide))
 cbv;rw[c1];cbv;rw[c2];cbv;exact congrArg some hr
theorem gW (x:Hello) (k:Int) (hk:Lim k (aw x)) (w:x.Mid) (y1:x.exts=[]):fix Tb md 1081 [aa (row fI x.versions) (row ab x.exts) (.mp 0) .nl,I k]=some ⟨[I (k+(aw x:Int))],[.row () (row fI (ag x k).versions)],none⟩:=by
 have hn:aw x=x.versions.length+bo x.exts:=rfl;unfold Hello.Mid at w;have a0:AtK k k 0:=AtK.zero;obtain ⟨z1,hz1⟩:=nm (k+(x.versions.length:Int))
 have a1:AtK z1 k (0+x.versions.length):=hz1▸a0.plus;have m1:Lim k (x.versions.length):=a0.lim hk (by omega)
 have n1:0≤z1:=by have:=m1.nn;omega
 obtain ⟨z2,hz2⟩:=nm (z1+(bo x.exts:Int))
 have a2:AtK z2 k (0+x.versions.length+bo x.exts):=hz2▸a1.plus;have m2:Lim z1 (bo x.exts):=a1.lim hk (by omega)
 have n2:0≤z2:=by have:=m2.nn;omega
 rw[show k+(aw x:Int)=z2 by rw[a2.same,hn];simp]
 have x0:(ag x k).versions=mI x.versions k:=by simp only[ag,hz1,hz2]
 have x1:(ag x k).exts=ak x.exts z1:=by simp only[ag,hz1,hz2]
 rw[x0];obtain ⟨g0,hg0⟩:=nm (row fI (mI x.versions k))
 obtain ⟨e0,he0⟩:=nm (row fI x.versions)
 have e1:row ab x.exts=[]:=by rw[y1];rfl
 rw[←hg0,←he0,e1];refine bB (fn:=ir1081) tb_1081 rfl rfl (by decide) rfl ?_
 generalize hr:(⟨_,[_],none⟩:Ret)=r
 intro add sub mul arith eq ne lt le gt ge neg conv mn mx not beq len at' ln bd cut app allS isNil mks set o hP F ho;have c1:o 1080 [R e0 (.mp 0),I k]=some ⟨[I z1],[.row () g0],none⟩:=by rw[ho,hz1,hg0,he0];exact bV _ _ m1 (Nat.le_trans (w.1) (by decide))
 have c2:o 1201 [R [] .nl,I z1]=some ⟨[I z2],[],none⟩:=by rw[ho,show z2=z1 by rw[hz2,y1];simp[bo]];exact wI _
 cbv;rw[c1];cbv;rw[c2];cbv;exact congrArg some hr
theorem H7 (x:Hello) (k:Int) (hk:Lim k (aw x)) (w:x.Mid) (y0:x.versions=[]):fix Tb md 1081 [aa (row fI x.versions) (row ab x.exts) .nl (.mp 0),I k]=some ⟨[I (k+(aw x:Int))],[.row () (row ab (ag x k).exts)],none⟩:=by
 have hn:aw x=x.versions.length+bo x.exts:=rfl;unfold Hello.Mid at w;have a0:AtK k k 0:=AtK.zero;obtain ⟨z1,hz1⟩:=nm (k+(x.versions.length:Int))
 have a1:AtK z1 k (0+x.versions.length):=hz1▸a0.plus;have m1:Lim k (x.versions.length):=a0.lim hk (by omega)
 have n1:0≤z1:=by have:=m1.nn;omega
 obtain ⟨z2,hz2⟩:=nm (z1+(bo x.exts:Int))
 have a2:AtK z2 k (0+x.versions.length+bo x.exts):=hz2▸a1.plus;have m2:Lim z1 (bo x.exts):=a1.lim hk (by omega)
 have n2:0≤z2:=by have:=m2.nn;omega
 rw[show k+(aw x:Int)=z2 by rw[a2.same,hn];simp]
 have x0:(ag x k).versions=mI x.versions k:=by simp only[ag,hz1,hz2]
 have x1:(ag x k).exts=ak x.exts z1:=by simp only[ag,hz1,hz2]
 rw[x1];have e0:row fI x.versions=[]:=by rw[y0];rfl
 obtain ⟨g1,hg1⟩:=nm (row ab (ak x.exts z1))
 obtain ⟨e1,he1⟩:=nm (row ab x.exts)
 rw[e0,←hg1,←he1];refine bB (fn:=ir1081) tb_1081 rfl rfl (by decide) rfl ?_
 generalize hr:(⟨_,[_],none⟩:Ret)=r
 intro add sub mul arith eq ne lt le gt ge neg conv mn mx not beq len at' ln bd cut app allS isNil mks set o hP F ho;have c1:o 1080 [R [] .nl,I k]=some ⟨[I z1],[],none⟩:=by rw[ho,show z1=k by rw[hz1,y0];simp];exact jT _
 have c2:o 1201 [R e1 (.mp 0),I z1]=some ⟨[I z2],[.row () g1],none⟩:=by rw[ho,hz2,hg1,he1];exact wH _ _ m2 (Nat.le_trans w.2.1 (by decide)) (fun y hy=>Nat.le_trans ((w.2.2 y hy)) (by decide))
 cbv;rw[c1];cbv;rw[c2];cbv;exact congrArg some hr
theorem cE (x:Hello) (k:Int) (hk:Lim k (aw x)) (w:x.Mid) (y0:x.versions=[]) (y1:x.exts=[]):fix Tb md 1081 [aa (row fI x.versions) (row ab x.exts) .nl .nl,I k]=some ⟨[I (k+(aw x:Int))],[],none⟩:=by
 have hn:aw x=x.versions.length+bo x.exts:=rfl;unfold Hello.Mid at w;have a0:AtK k k 0:=AtK.zero;obtain ⟨z1,hz1⟩:=nm (k+(x.versions.length:Int))
 have a1:AtK z1 k (0+x.versions.length):=hz1▸a0.plus;have m1:Lim k (x.versions.length):=a0.lim hk (by omega)
 have n1:0≤z1:=by have:=m1.nn;omega
 obtain ⟨z2,hz2⟩:=nm (z1+(bo x.exts:Int))
 have a2:AtK z2 k (0+x.versions.length+bo x.exts):=hz2▸a1.plus;have m2:Lim z1 (bo x.exts):=a1.lim hk (by omega)
 have n2:0≤z2:=by have:=m2.nn;omega
 rw[show k+(aw x:Int)=z2 by rw[a2.same,hn];simp]
 have x0:(ag x k).versions=mI x.versions k:=by simp only[ag,hz1,hz2]
 have x1:(ag x k).exts=ak x.exts z1:=by simp only[ag,hz1,hz2]
 have e0:row fI x.versions=[]:=by rw[y0];rfl
 have e1:row ab x.exts=[]:=by rw[y1];rfl
 rw[e0,e1];refine bB (fn:=ir1081) tb_1081 rfl rfl (by decide) rfl ?_
 generalize hr:(⟨_,[],none⟩:Ret)=r
 intro add sub mul arith eq ne lt le gt ge neg conv mn mx not beq len at' ln bd cut app allS isNil mks set o hP F ho;have c1:o 1080 [R [] .nl,I k]=some ⟨[I z1],[],none⟩:=by rw[ho,show z1=k by rw[hz1,y0];simp];exact jT _
 have c2:o 1201 [R [] .nl,I z1]=some ⟨[I z2],[],none⟩:=by rw[ho,show z2=z1 by rw[hz2,y1];simp[bo]];exact wI _
 cbv;rw[c1];cbv;rw[c2];cbv;exact congrArg some hr
def Hv (x:Box) (k:Int):Box:=⟨k,mI x.drops (k+1),mI x.strips ((k+1)+(x.drops.length:Int)),decide (Int.tmod (((k+1)+(x.drops.length:Int))+(x.strips.length:Int)) 3=0)⟩
def sF (x:Box):Nat:=1+x.drops.length+x.strips.length+1
def dS:List Box→Int→List Box
 | [],_=>[]
 | x::l,k=>Hv x k::dS l (k+(sF x:Int))
def bA (l:List Box):Nat:=(l.map sF).sum
theorem cS:∀ (l:List Box) (k:Int),(dS l k).length=l.length
 | [],_=>rfl
 | _::l,k=>by simp[dS,cS l _]
theorem vl:∀ (a b:List Box) (k x:Int),AtK x k (bA a)→dS (a++b) k=dS a k++dS b x
 | [],b,k,x,h=>by simp[AtK,bA] at h;subst h;simp[dS]
 | y::a,b,k,x,h=>by
  simp only[List.cons_append,dS];rw[vl a b (k+(sF y:Int)) x (by unfold AtK at *;simp[bA] at h ⊢;omega)]
theorem Db {x:Box} (w:x.Mid):sF x≤2147483650:=by unfold Box.Mid at w;unfold sF;omega
theorem zx {x:Box} (w:x.Small):sF x≤2097154:=by unfold Box.Small at w;unfold sF;omega
theorem H5 {l:List Box} (w:l.length≤1073741824∧∀ y∈l,y.Mid):bA l≤2305843011361177600:=
 Nat.le_trans (lY fun y hy=>Db (w.2 y hy)) (Nat.mul_le_mul_right _ w.1)
theorem eE {l:List Box} (w:l.length≤1048576∧∀ y∈l,y.Small):bA l≤2199025352704:=
 Nat.le_trans (lY fun y hy=>zx (w.2 y hy)) (Nat.mul_le_mul_right _ w.1)
set_option maxHeartbeats 2000000 in
theorem na (l:List Box) (k:Int) (hk:Lim k (bA l)) (hl:l.length≤1099511627776) (w0:∀ y∈l,y.drops.length≤1099511627776) (w1:∀ y∈l,y.strips.length≤1099511627776):fix Tb md 1172 [R (row ar l) (.mp 0),I k]=some ⟨[I (k+(bA l:Int))],[.row () (row ar (dS l k))],none⟩:=by
 obtain ⟨t,ht⟩:=nm (k+(bA l:Int))
 obtain ⟨et,het⟩:=nm (row ar (dS l k))
 have hT:AtK t k (bA l):=ht;rw[←ht,←het];clear ht;refine bB (fn:=ir1172) tb_1172 rfl rfl (by decide) rfl ?_
 generalize hr:(⟨_,[_],none⟩:Ret)=r
 obtain ⟨ea,hea⟩:=nm (row ar l)
 rw[←hea];intro add sub mul arith eq ne lt le gt ge neg conv mn mx not beq len at' ln bd cut app allS isNil mks set o hP F ho;cbv;refine aJ hP (σ:=List Box×List Box×List (List V)×Int×Int) (fun s=>[(0,R s.2.2.1 (.mp 0)),(1,I s.2.2.2.1),(4,I 0),(5,I s.2.2.2.2)])
  (fun s=>At s.2.2.2.2 s.2.1.length∧AtK s.2.2.2.1 k (bA s.2.1)∧l=s.2.1++s.1∧s.2.2.1=row ar (dS s.2.1 k++s.1)) (fun s=>s.1.length) (l,[],ea,k,0) rfl ⟨rfl,AtK.zero,rfl,by simpa [dS] using hea⟩ ?_
 rintro ⟨suf,pre,eo,z0,i⟩ ⟨hi,a0,hl',heo⟩ ih
 simp only at hi a0 hl' heo ih;have lo:=F.len_at heo;cbv;cases suf with
 | nil=>
  rw[F.lt_f hi lo (by simp[cS])];cbv
  rw[←hr,show z0=t by rw[a0.same,hT.same,hl'];simp,heo,het,hl'];simp
 | cons x suf=>
  have hl3:pre.length+1≤l.length:=by rw[hl'];simp
  have hc:bA l=bA pre+(sF x+bA suf):=by rw[hl'];simp[bA]
  have hcx:sF x=1+x.drops.length+x.strips.length+1:=rfl;obtain ⟨z1,hz1⟩:=nm (z0+1)
  have a1:AtK z1 k (bA pre+1):=hz1▸a0.one;have s1:add .i64 z0 1=z1:=by rw[F.add,a0.inc hk (by omega),hz1]
  obtain ⟨z2,hz2⟩:=nm (z1+(x.drops.length:Int))
  have a2:AtK z2 k (bA pre+1+x.drops.length):=hz2▸a1.plus;have m2:Lim z1 x.drops.length:=a1.lim hk (by omega)
  have n2:0≤z2:=by have:=m2.nn;omega
  obtain ⟨z3,hz3⟩:=nm (z2+(x.strips.length:Int))
  have a3:AtK z3 k (bA pre+1+x.drops.length+x.strips.length):=hz3▸a2.plus;have m3:Lim z2 x.strips.length:=a2.lim hk (by omega)
  have n3:0≤z3:=by have:=m3.nn;omega
  obtain ⟨z4,hz4⟩:=nm (z3+1)
  have a4:AtK z4 k (bA pre+1+x.drops.length+x.strips.length+1):=hz4▸a3.one;have s4:add .i64 z3 1=z4:=by rw[F.add,a3.inc hk (by omega),hz4]
  have hmx:Hv x z0=(⟨z0,(mI x.drops z1),(mI x.strips z2),(decide (Int.tmod z3 3=0))⟩:Box):=by simp only[Hv,hz1,hz2,hz3,hz4]
  have hzn:z0+(sF x:Int)=z4:=by rw[hcx,a4.same,a0.same];omega
  have y0:x.drops.length≤1099511627776:=w0 x (by rw[hl'];simp)
  have y1:x.strips.length≤1099511627776:=w1 x (by rw[hl'];simp)
  obtain ⟨e1,he1⟩:=nm (row fI x.drops)
  obtain ⟨g1,hg1⟩:=nm (row fI (mI x.drops z1))
  obtain ⟨e2,he2⟩:=nm (row fI x.strips)
  obtain ⟨g2,hg2⟩:=nm (row fI (mI x.strips z2))
  obtain ⟨w,hw⟩:=nm (Int.tmod z3 3)
  obtain ⟨b3,hb3⟩:=nm (decide (Int.tmod z3 3=0))
  rw[F.lt_t hi lo (by simp[cS])];cbv
  obtain ⟨ix,hix⟩:=nm (pre.length * 4)
  obtain ⟨eo1,heo1⟩:=nm (row ar (dS pre k++(⟨z0,x.drops,x.strips,x.lists⟩:Box)::suf))
  obtain ⟨eo2,heo2⟩:=nm (row ar (dS pre k++(⟨z0,(mI x.drops z1),x.strips,x.lists⟩:Box)::suf))
  obtain ⟨eo3,heo3⟩:=nm (row ar (dS pre k++(⟨z0,(mI x.drops z1),(mI x.strips z2),x.lists⟩:Box)::suf))
  obtain ⟨eo4,heo4⟩:=nm (row ar (dS pre k++(⟨z0,(mI x.drops z1),(mI x.strips z2),(decide (Int.tmod z3 3=0))⟩:Box)::suf))
  rw[show at' 4 eo i=some (ix,[.int .i64 x.limit, .row () e1, .row () e2, .bool x.lists]) by simp only[hix,he1,he2,hg1,hg2,hb3];have h:=F.get (f:=ar) (k:=4) (show At i (dS pre k).length by rw[cS];exact hi) heo rfl (fun _=>rfl) (by decide);rw[cS] at h;exact h];cbv
  have q0:bh eo (ix+0) [.int .i64 z0]=some eo1:=by simp only[heo,heo1,he1,he2,hg1,hg2,hb3];exact fk (k:=4) (fun _=>rfl) (by decide) (by simp[ar]) (by rw[hix,cS])
  first | rw[show set eo (ix+0) [.int .i64 z0]=some eo1 by rw[F.set];exact q0] | rw[show set eo (Nat.add ix 0) [.int .i64 z0]=some eo1 by rw[F.set];exact q0] | rw[show set eo ix [.int .i64 z0]=some eo1 by rw[F.set];exact q0] | trace_state
  cbv;rw[s1];rw[show at' 4 eo1 i=some (ix,[.int .i64 z0, .row () e1, .row () e2, .bool x.lists]) by simp only[hix,he1,he2,hg1,hg2,hb3];have h:=F.get (f:=ar) (k:=4) (show At i (dS pre k).length by rw[cS];exact hi) heo1 rfl (fun _=>rfl) (by decide);rw[cS] at h;exact h];cbv
  have c1:o 1080 [R e1 (.mp 0),I z1]=some ⟨[I z2],[.row () g1],none⟩:=by rw[ho,he1,hg1,hz2];exact bV _ _ m2 y0
  rw[c1];cbv;have q1:bh eo1 (ix+1) [.row () g1]=some eo2:=by simp only[heo1,heo2,he1,he2,hg1,hg2,hb3];exact fk (k:=4) (fun _=>rfl) (by decide) (by simp[ar]) (by rw[hix,cS])
  first | rw[show set eo1 (ix+1) [.row () g1]=some eo2 by rw[F.set];exact q1] | rw[show set eo1 (Nat.add ix 1) [.row () g1]=some eo2 by rw[F.set];exact q1] | rw[show set eo1 ix [.row () g1]=some eo2 by rw[F.set];exact q1] | trace_state
  cbv;rw[show at' 4 eo2 i=some (ix,[.int .i64 z0, .row () g1, .row () e2, .bool x.lists]) by simp only[hix,he1,he2,hg1,hg2,hb3];have h:=F.get (f:=ar) (k:=4) (show At i (dS pre k).length by rw[cS];exact hi) heo2 rfl (fun _=>rfl) (by decide);rw[cS] at h;exact h];cbv
  have c2:o 1080 [R e2 (.mp 0),I z2]=some ⟨[I z3],[.row () g2],none⟩:=by rw[ho,he2,hg2,hz3];exact bV _ _ m3 y1
  rw[c2];cbv;have q2:bh eo2 (ix+2) [.row () g2]=some eo3:=by simp only[heo2,heo3,he1,he2,hg1,hg2,hb3];exact fk (k:=4) (fun _=>rfl) (by decide) (by simp[ar]) (by rw[hix,cS])
  first | rw[show set eo2 (ix+2) [.row () g2]=some eo3 by rw[F.set];exact q2] | rw[show set eo2 (Nat.add ix 2) [.row () g2]=some eo3 by rw[F.set];exact q2] | rw[show set eo2 ix [.row () g2]=some eo3 by rw[F.set];exact q2] | trace_state
  cbv;rw[show arith .rem .i64 z3 3=some (.int .i64 w) by rw[F.arith,hw];rfl];cbv
  rw[show at' 4 eo3 i=some (ix,[.int .i64 z0, .row () g1, .row () g2, .bool x.lists]) by simp only[hix,he1,he2,hg1,hg2,hb3];have h:=F.get (f:=ar) (k:=4) (show At i (dS pre k).length by rw[cS];exact hi) heo3 rfl (fun _=>rfl) (by decide);rw[cS] at h;exact h];cbv
  rw[show eq w 0=b3 by rw[F.eq,hb3,hw]]
  have q3:bh eo3 (ix+3) [.bool b3]=some eo4:=by simp only[heo3,heo4,he1,he2,hg1,hg2,hb3];exact fk (k:=4) (fun _=>rfl) (by decide) (by simp[ar]) (by rw[hix,cS])
  first | rw[show set eo3 (ix+3) [.bool b3]=some eo4 by rw[F.set];exact q3] | rw[show set eo3 (Nat.add ix 3) [.bool b3]=some eo4 by rw[F.set];exact q3] | rw[show set eo3 ix [.bool b3]=some eo4 by rw[F.set];exact q3] | trace_state
  cbv;rw[s4];refine ih (suf,pre++[x],eo4,z4,add .i64 i 1) ⟨ao (F.inc hi (by omega)) (by simp),a4.eq (by simp[bA,sF]<;>omega),by simp[hl'],?_⟩ (by simp)
  simp only;rw[heo4,vl pre [x] k z0 a0,←hmx];simp[dS]
theorem J9 (k:Int):fix Tb md 1172 [R [] .nl,I k]=some ⟨[I k],[],none⟩:=by
 refine bB (fn:=ir1172) tb_1172 rfl rfl (by decide) rfl ?_
 generalize hr:(⟨_,[],none⟩:Ret)=r
 intro add sub mul arith eq ne lt le gt ge neg conv mn mx not beq len at' ln bd cut app allS isNil mks set o hP F ho;have la:At (len []) 0:=F.len_at (f:=ar) (l:=[]) rfl;have h0:lt 0 (len [])=false:=F.lt_f at0 la (Nat.le_refl 0);cbv;refine aJ hP (σ:=Unit) (fun _=>[(0,R [] .nl),(1,I k),(4,I 0),(5,I 0)]) (fun _=>True) (fun _=>0) () rfl trivial ?_
 rintro ⟨⟩ _ ih
 clear ih;cbv;rw[h0];cbv;exact congrArg some hr
theorem pH (a b:List Int) (hl:a.length≤1099511627776) {f0 f1:Fl} (h0:ac f0=true) (h1:ac f1=true):fix Tb md 228 [R (row fI a) f0,R (row fI b) f1]=some ⟨[B (decide (a=b))],[],none⟩:=by
 refine bB (fn:=ir228) tb_228 rfl rfl (by decide) rfl ?_;simp only[aj,aV,List.map_cons,List.map_nil,ir228,ai h0,ai h1,List.head?_nil,reduceCtorEq,if_false,cb,aa,ae,bp,al,aG,af,aH]
 generalize hr:(⟨_,[],none⟩:Ret)=r
 obtain ⟨ea,hea⟩:=nm (row fI a)
 obtain ⟨eb,heb⟩:=nm (row fI b)
 rw[←hea,←heb];intro add sub mul arith eq ne lt le gt ge neg conv mn mx not beq len at' ln bd cut app allS isNil mks set o hP F ho;have la:=F.len_at hea;have lb:=F.len_at heb;cbv;by_cases hab:a.length=b.length
 ·rw[F.ne_f (by unfold At at la lb;omega)];cbv
  refine aJ hP (σ:=List Int×List Int×List Int×Int) (fun s=>[(0,R ea .sh),(1,R eb .sh),(4,B false),(5,I s.2.2.2)]) (fun s=>At s.2.2.2 s.1.length∧a=s.1++s.2.1∧b=s.1++s.2.2.1) (fun s=>s.2.1.length) ([],a,b,0) rfl ⟨rfl,rfl,rfl⟩ ?_
  rintro ⟨pre,sa,sb,i⟩ ⟨hi,ha,hb⟩ ih
  simp only at hi ha hb ih;cbv;have hlen:sa.length=sb.length:=by simp[ha,hb] at hab;exact hab
  match sa,sb,hlen,ha,hb with
  | [],[],_,ha,hb=>
   rw[F.lt_f hi la (by simp[ha])];cbv
   rw[←hr];simp[ha,hb]
  | x::sa,y::sb,_,ha,hb=>
   rw[F.lt_t hi la (by simp[ha])];cbv
   obtain ⟨ix,hix⟩:=nm (pre.length * 1)
   rw[show at' 1 ea i=some (ix,[.int .i64 x]) by rw[hix];exact F.get hi hea ha (fun _=>rfl) (by decide)];cbv
   rw[show at' 1 eb i=some (ix,[.int .i64 y]) by rw[hix];exact F.get hi heb hb (fun _=>rfl) (by decide)];cbv
   by_cases hxy:x=y
   ·rw[F.ne_f hxy];cbv;refine ih (pre++[x],sa,sb,add .i64 i 1) ⟨ao (F.inc hi (by simp[ha] at hl;omega)) (by simp),by simp[ha],by simp[hb,hxy]⟩ (by simp)
   ·rw[F.ne_t hxy];cbv;rw[←hr];simp[ha,hb,hxy]
 ·rw[F.ne_t (by unfold At at la lb;omega)];cbv
  rw[←hr];simp;intro e;exact hab (by rw[e])
def sel {α β:Type} (P:α→Bool) (g:α→β) (l:List α):List β:=(l.filter P).map g
theorem dz {α β:Type} {P:α→Bool} {g:α→β} {a:List α} {x:α} (h:P x=true):sel P g (a++[x])=sel P g a++[g x]:=by unfold sel;rw[List.filter_append,List.filter_cons,h];simp
theorem d6 {α β:Type} {P:α→Bool} {g:α→β} {a:List α} {x:α} (h:P x=false):sel P g (a++[x])=sel P g a:=by unfold sel;rw[List.filter_append,List.filter_cons,h];simp
theorem aI {α β:Type} {P:α→Bool} {g:α→β} {a:List α}:(sel P g a).length≤a.length:=by unfold sel;rw[List.length_map];exact List.length_filter_le _ _
def bq (l:List Int) (n:Int):Bool:=l.any fun y=>decide (y=n)
def idE (e:Ext):Ext:=e
def idI (n:Int):Int:=n
theorem cV {P:Ext→Bool} {l:List Ext}:sel P idE l=l.filter P:=by unfold sel idE;simp
theorem cj {P:Int→Bool} {l:List Int}:sel P idI l=l.filter P:=by unfold sel idI;simp
theorem jD (l:List Int) (n:Int) (hl:l.length≤1099511627776) {f0:Fl} (h0:ac f0=true):fix Tb md 285 [R (row fI l) f0,I n]=some ⟨[B (bq l n)],[],none⟩:=by
 obtain ⟨T,hT⟩:=nm (bq l n)
 rw[←hT];generalize hr:(⟨_,[],none⟩:Ret)=r
 obtain ⟨ea,hea⟩:=nm (row fI l)
 rw[←hea];refine cJ (fn:=ir285) tb_285 rfl rfl (by decide) rfl ?_;intro Q hQ;simp only[aj,aV,List.map_cons,List.map_nil,ir285,ai h0,List.head?_nil,reduceCtorEq,if_false,cb,aa,ae,bp,al,aG,af,aH]
 intro add sub mul arith eq ne lt le gt ge neg conv mn mx not beq len at' ln bd cut app allS isNil mks set o hP F ho;have la:=F.len_at hea;cbv;refine ah hP (σ:=List Int×List Int×Int) (fun s=>[(0,R ea .sh),(1,I n),(4,B false),(5,I s.2.2)]) (fun s=>At s.2.2 s.2.1.length∧l=s.2.1++s.1∧bq s.1 n=T) (fun s=>s.1.length) (l,[],0) rfl ⟨rfl,rfl,hT.symm⟩ ?_
 intro c1 Q1 hc1 hQ1;rintro ⟨suf,pre,i⟩ ⟨hi,hl',hb⟩ ih
 simp only at hi hl' hb ih;cbv;cases suf with
 | nil=>
  rw[F.lt_f hi la (by simp[hl'])];cbv
  rw[hQ1];cbv;rw[hQ];cbv;rw[←hr,←hb];rfl
 | cons x suf=>
  obtain ⟨v,hv⟩:=nm (decide (x=n))
  have hT':T=(v||bq suf n):=by rw[←hb,hv];rfl
  obtain ⟨ix,hix⟩:=nm (pre.length * 1)
  rw[F.lt_t hi la (by simp[hl'])];cbv
  rw[show at' 1 ea i=some (ix,[.int .i64 x]) by rw[hix];exact F.get hi hea hl' (fun _=>rfl) (by decide)];cbv
  rw[show eq x n=v by rw[F.eq,hv]];cbv
  refine both (fun d=>?_) (fun d=>?_)<;>rw[d]<;>cbv
  ·rw[hQ1];cbv;rw[hQ];cbv;rw[←hr,hT',d];rfl
  ·refine ih (suf,pre++[x],add .i64 i 1) ⟨ao (F.inc hi (by simp[hl'] at hl;omega)) (by simp),by simp[hl'],?_⟩ (by simp)
   rw[hT',d];rfl
def bz {α:Type} (p:α→Bool):List α→Int→Int
 | [],_=> -1
 | x::l,i=>if p x=true then i else bz p l (i+1)
theorem d8 {α:Type} (p:α→Bool):∀ (l:List α) (i:Int),0≤i→decide (0≤bz p l i)=l.any p
 | [],i,h=>by simp[bz]
 | x::l,i,h=>by
  unfold bz;rw[List.any_cons];by_cases hx:p x=true
  ·rw[if_pos hx,hx];simpa using h
  ·rw[if_neg hx,d8 p l (i+1) (by omega)];simp at hx;simp[hx]
theorem vd {α:Type} {p:α→Bool}:∀ {l:List α} {i:Int},l.any p=false→bz p l i= -1
 | [],i,_=>rfl
 | x::l,i,h=>by
  rw[List.any_cons,Bool.or_eq_false_iff] at h;unfold bz;rw[if_neg (by rw[h.1];decide),vd h.2]
def ie (t:Int) (e:Ext):Bool:=decide (e.tag=t)
def dE (l:List Ext) (t:Int):Int:=bz (ie t) l 0
theorem tf {α:Type} {p:α→Bool}:∀ {pre:List α} {x:α} {suf:List α} {i:Int},p x=true→(pre.any p=false→bz p (pre++x::suf) i=i+(pre.length:Int))∧(pre.any p=true→bz p (pre++x::suf) i < i+(pre.length:Int))
 | [],x,suf,i,hx=>by simp[bz,hx]
 | y::pre,x,suf,i,hx=>by
  obtain ⟨h1,h2⟩:=tf (pre:=pre) (suf:=suf) (i:=i+1) hx
  rw[List.cons_append,List.any_cons];unfold bz;by_cases hy:p y=true
  ·rw[if_pos hy,hy];simp;omega
  ·rw[if_neg hy];simp at hy;rw[hy,Bool.false_or];constructor
   ·intro q;rw[h1 q];simp;omega
   ·intro q;have:=h2 q;simp;omega
theorem Fo {α:Type} {p:α→Bool} {pre:List α} {x:α} {suf:List α} {i:Int} (hx:p x=true) (hi:At i pre.length):decide (bz p (pre++x::suf) 0 < i)=pre.any p:=by
 unfold At at hi;obtain ⟨h1,h2⟩:=tf (pre:=pre) (suf:=suf) (i:=0) hx
 cases h:pre.any p with
 | false=>rw[h1 h,hi];simp
 | true=>have:=h2 h;rw[hi];simp;omega
theorem vB (l:List Ext) (t:Int) (hl:l.length≤1099511627776) {f0:Fl} (h0:ac f0=true):fix Tb md 286 [R (row ab l) f0,I t]=some ⟨[I (dE l t)],[],none⟩:=by
 obtain ⟨T,hT⟩:=nm (dE l t)
 rw[←hT];generalize hr:(⟨_,[],none⟩:Ret)=r
 obtain ⟨ea,hea⟩:=nm (row ab l)
 rw[←hea];refine cJ (fn:=ir286) tb_286 rfl rfl (by decide) rfl ?_;intro Q hQ;simp only[aj,aV,List.map_cons,List.map_nil,ir286,ai h0,List.head?_nil,reduceCtorEq,if_false,cb,aa,ae,bp,al,aG,af,aH]
 intro add sub mul arith eq ne lt le gt ge neg conv mn mx not beq len at' ln bd cut app allS isNil mks set o hP F ho;have la:=F.len_at hea;cbv;refine ah hP (σ:=List Ext×List Ext×Int) (fun s=>[(0,R ea .sh),(1,I t),(4,I 0),(5,I s.2.2)]) (fun s=>At s.2.2 s.2.1.length∧l=s.2.1++s.1∧(s.2.1.any (ie t))=false) (fun s=>s.1.length) (l,[],0) rfl ⟨rfl,rfl,rfl⟩ ?_
 intro c1 Q1 hc1 hQ1;rintro ⟨suf,pre,i⟩ ⟨hi,hl',hb⟩ ih
 simp only at hi hl' hb ih;cbv;cases suf with
 | nil=>
  rw[F.lt_f hi la (by simp[hl'])];cbv
  rw[hQ1];cbv;rw[hQ];cbv;rw[←hr,hT,show dE l t= -1 from vd (by rw[hl',List.append_nil];exact hb)]
 | cons x suf=>
  obtain ⟨v,hv⟩:=nm (ie t x)
  have hT':v=true→T=i:=fun q=>by
   rw[hT,hl'];unfold At at hi;rw[show dE (pre++x::suf) t=0+(pre.length:Int) from (tf (hv▸q)).1 hb,hi];simp
  rw[F.lt_t hi la (by simp[hl'])];cbv
  obtain ⟨ix,hix⟩:=nm (pre.length * 2)
  obtain ⟨e1,he1⟩:=nm (row fI x.body)
  rw[show at' 2 ea i=some (ix,[.int .i64 x.tag, .row () e1]) by rw[hix,he1];exact F.get hi hea hl' (fun _=>rfl) (by decide)];cbv
  rw[show eq x.tag t=v by rw[F.eq,hv];rfl];cbv
  refine both (fun d=>?_) (fun d=>?_)<;>rw[d]<;>cbv
  ·rw[hQ1];cbv;rw[hQ];cbv;rw[←hr,hT' d]
  ·refine ih (suf,pre++[x],add .i64 i 1) ⟨ao (F.inc hi (by simp[hl'] at hl;omega)) (by simp),by simp[hl'],?_⟩ (by simp)
   simp only;rw[List.any_append,hb,List.any_cons,←hv,d];rfl
end Go.Vm
