/- What the functions answer. -/
import Derived.Test.YtfidmkhcipcnmaaGreatGDTab
import Derived.Test.YtfidmkhcipcnmaaGreatGDFA
import Derived.Test.YtfidmkhcipcnmaaGreatGDFB
import Derived.Test.YtfidmkhcipcnmaaGreatGDFC
import Derived.Test.YtfidmkhcipcnmaaGreatGDFD
import Derived.Test.YtfidmkhcipcnmaaGreatGDFF
import Derived.Test.YtfidmkhcipcnmaaGreatGDFH
import Derived.Test.YtfidmkhcipcnmaaGreatGDFI
import Derived.Test.YtfidmkhcipcnmaaGreatGDFL
import Derived.Test.YtfidmkhcipcnmaaGreatGDFM
set_option maxHeartbeats 4000000
set_option maxRecDepth 10000
set_option linter.unusedVariables false
set_option linter.unusedSimpArgs false
namespace Go.Vm
theorem D7 (a:Answer) (hl:a.exts.length≤1099511627776) (w:∀ y∈a.exts,y.body.length≤1099511627776) {f0:Fl} (h0:ac f0=true):fix Tb md 152 [ae a.version (row ab a.exts) f0]=some ⟨[R (row fI (cT a)) (.ow false)],[],none⟩∨(cT a=[]∧fix Tb md 152 [ae a.version (row ab a.exts) f0]=some ⟨[R [] .nl],[],none⟩):=by
 obtain ⟨u,hu⟩:=nm (fN a.version a.exts)
 cases hu2:u with
 | true=>
  rw[hu2] at hu;have hok:bI a.exts=true:=by unfold fN at hu;cases h:bI a.exts with | true=>rfl | false=>rw[h,Bool.and_false] at hu;exact Bool.noConfusion hu
  refine .inl ?_
  obtain ⟨et,het⟩:=nm (row fI (cT a))
  rw[←het];generalize hr:(⟨_,[],none⟩:Ret)=r
  obtain ⟨ea,hea⟩:=nm (row ab a.exts)
  rw[←hea];obtain ⟨ex,hex⟩:=nm (row fI (iG a.exts))
  have hlen:=kP hok;refine cJ (fn:=ir152) tb_152 rfl rfl (by decide) rfl ?_;intro Q hQ;simp only[aj,aV,List.map_cons,List.map_nil,ir152,ai h0,List.head?_nil,reduceCtorEq,if_false,cb,aa,ae,bp,al,aG,af,aH]
  intro add sub mul arith eq ne lt le gt ge neg conv mn mx not beq len at' ln bd cut app allS isNil mks set o hP F ho;have c1:o 118 [ae a.version ea (.sp 0 1)]=some ⟨[B true],[],none⟩:=by rw[ho,hu,hea];exact Bo _ _ hl w rfl
  have c2:o 294 [R ea (.sp 0 0)]=some ⟨[R ex (.ow false),B true],[],none⟩:=by rw[ho,hea,hex];exact GV _ hok rfl
  have q1:app 1 [[.int .i64 a.version]] ex=some et:=by
   have h:=F.app' (f:=fI) (k:=1) (e1:=[[.int .i64 a.version]]) (l1:=[a.version]) rfl hex (fun _=>rfl) (by simp;omega)
   rw[h,het,cT,←hu,if_pos rfl];rfl
  have q2:allS ex=true:=F.scal hex (fun _=>rfl)
  cbv;rw[c1];cbv;rw[show not true=false by rw[F.not];rfl];cbv
  rw[c2];cbv;rw[q2];cbv;rw[q1];cbv;rw[hQ];cbv;exact congrArg some hr
 | false=>
  rw[hu2] at hu;refine .inr ⟨by rw[cT,←hu];rfl,?_⟩
  generalize hr:(⟨_,[],none⟩:Ret)=r
  obtain ⟨ea,hea⟩:=nm (row ab a.exts)
  rw[←hea];refine cJ (fn:=ir152) tb_152 rfl rfl (by decide) rfl ?_;intro Q hQ;simp only[aj,aV,List.map_cons,List.map_nil,ir152,ai h0,List.head?_nil,reduceCtorEq,if_false,cb,aa,ae,bp,al,aG,af,aH]
  intro add sub mul arith eq ne lt le gt ge neg conv mn mx not beq len at' ln bd cut app allS isNil mks set o hP F ho;have c1:o 118 [ae a.version ea (.sp 0 1)]=some ⟨[B false],[],none⟩:=by rw[ho,hu,hea];exact Bo _ _ hl w rfl
  cbv;rw[c1];cbv;rw[show not false=true by rw[F.not];rfl];cbv
  rw[hQ];cbv;exact congrArg some hr
theorem vp (a b:List Int):decide ((sel (br b) idI a).length=0)=a.all (bq b):=by
 rw[cj];induction a with
 | nil=>rfl
 | cons x a ih=>
  rw[List.filter_cons,List.all_cons,br];cases h:bq b x with
  | true=>simpa using ih
  | false=>simp
theorem G0 (t:Int):fix Tb md 337 [I t]=some ⟨[B (kD t)],[],none⟩:=by
 obtain ⟨a,ha⟩:=nm (inR t 0 255)
 obtain ⟨n,hn⟩:=nm (Int.tmod t 16)
 obtain ⟨b,hb⟩:=nm (decide (n=10))
 rw[show kD t=(a&&b) by rw[ha,hb,hn];rfl]
 generalize hr:(⟨_,[],none⟩:Ret)=r
 refine cJ (fn:=ir337) tb_337 rfl rfl (by decide) rfl ?_;intro Q hQ;simp only[aj,aV,List.map_cons,List.map_nil,ir337,List.head?_nil,reduceCtorEq,if_false,cb,aa,ae,bp,al,aG,af,aH]
 intro add sub mul arith eq ne lt le gt ge neg conv mn mx not beq len at' ln bd cut app allS isNil mks set o hP F ho;have c1:o 232 [I t,I 0,I 255]=some ⟨[B a],[],none⟩:=by rw[ho,ha];exact fF ..
 have g1:arith .rem .i64 t 16=some (.int .i64 n):=by rw[F.arith,hn];rfl
 have g2:eq n 10=b:=by rw[F.eq,hb]
 cbv;rw[c1];cbv;refine both (fun d=>?_) (fun d=>?_)<;>rw[d]<;>cbv
 ·rw[g1];cbv;rw[hQ];cbv;rw[g2,←hr,d];rfl
 ·rw[hQ];cbv;rw[←hr,d];rfl
theorem I2 (l:List Int) (hl:l.length≤1099511627776) {f0:Fl} (h0:ac f0=true):fix Tb md 223 [R (row fI l) f0]=some ⟨[B (l.any kD)],[],none⟩:=by
 obtain ⟨v,hv⟩:=nm (l.any kD)
 rw[←hv];generalize hr:(⟨_,[],none⟩:Ret)=r
 obtain ⟨ea,hea⟩:=nm (row fI l)
 rw[←hea];refine cJ (fn:=ir223) tb_223 rfl rfl (by decide) rfl ?_;intro Q hQ;simp only[aj,aV,List.map_cons,List.map_nil,ir223,ai h0,List.head?_nil,reduceCtorEq,if_false,cb,aa,ae,bp,al,aG,af,aH]
 intro add sub mul arith eq ne lt le gt ge neg conv mn mx not beq len at' ln bd cut app allS isNil mks set o hP F ho;have c1:o 336 [R ea (.sp 0 0),⟨.val,[⟨.fn 337 [], .sh⟩]⟩]=some ⟨[B v],[],none⟩:=by rw[ho,hv,hea];exact FJ 337 rfl kD l hl (fun x _=>G0 x) rfl
 cbv;rw[c1];cbv;rw[hQ];cbv;exact congrArg some hr
theorem Js (l:List Ext) (hl:l.length≤1073741824) {f0:Fl} (h0:ac f0=true):fix Tb md 303 [R (row ab l) f0]=some ⟨[B ((tags l).any kD)],[],none⟩:=by
 obtain ⟨v,hv⟩:=nm ((tags l).any kD)
 rw[←hv];have ht:(tags l).length≤l.length:=aI;generalize hr:(⟨_,[],none⟩:Ret)=r
 obtain ⟨ea,hea⟩:=nm (row ab l)
 rw[←hea];obtain ⟨et,het⟩:=nm (row fI (tags l))
 refine cJ (fn:=ir303) tb_303 rfl rfl (by decide) rfl ?_;intro Q hQ;simp only[aj,aV,List.map_cons,List.map_nil,ir303,ai h0,List.head?_nil,reduceCtorEq,if_false,cb,aa,ae,bp,al,aG,af,aH]
 intro add sub mul arith eq ne lt le gt ge neg conv mn mx not beq len at' ln bd cut app allS isNil mks set o hP F ho;have c1:o 179 [R ea (.sp 0 0)]=some ⟨[R et (.ow false)],[],none⟩:=by rw[ho,het,hea];exact nc _ hl rfl
 have c2:o 223 [R et (.sp 0 0)]=some ⟨[B v],[],none⟩:=by rw[ho,hv,het];exact I2 _ (by omega) rfl
 cbv;rw[c1];cbv;rw[c2];cbv;rw[hQ];cbv;exact congrArg some hr
theorem DC (h:Hello) (a:Answer):ju h a=(aC h&&fN a.version a.exts&&bq h.versions a.version&&decide ((sel (br (tags h.exts)) idI (tags a.exts)).length=0)&& !(tags a.exts).any kD):=by
 rw[vp];have e:a.exts.all (okT h)=((tags a.exts).all (bq (tags h.exts))&& !(tags a.exts).any kD):=by
  rw[pU a.exts];induction a.exts with
  | nil=>rfl
  | cons y l ih=>
   rw[List.all_cons,ih,List.map_cons,List.all_cons,List.any_cons,okT,uW];cases bq (tags h.exts) y.tag<;>cases kD y.tag<;>simp
 rw[ju,e];cases aC h<;>cases fN a.version a.exts<;>cases bq h.versions a.version<;>simp
theorem Ec (h:Hello) (a:Answer) (mh:h.Mid) (ma:a.Mid) {f0 f1 f2:Fl} (q0:ac f0=true) (q1:ac f1=true) (q2:ac f2=true):fix Tb md 161 [aa (row fI h.versions) (row ab h.exts) f0 f1,ae a.version (row ab a.exts) f2]=some ⟨[B (ju h a)],[],none⟩:=by
 unfold Hello.Mid at mh;unfold Answer.Mid at ma;obtain ⟨u1,hu1⟩:=nm (aC h)
 obtain ⟨u2,hu2⟩:=nm (fN a.version a.exts)
 obtain ⟨u3,hu3⟩:=nm (bq h.versions a.version)
 obtain ⟨u4,hu4⟩:=nm (decide ((sel (br (tags h.exts)) idI (tags a.exts)).length=0))
 obtain ⟨u5,hu5⟩:=nm ((tags a.exts).any kD)
 rw[DC,←hu1,←hu2,←hu3,←hu4,←hu5];generalize hr:(⟨_,[],none⟩:Ret)=r
 obtain ⟨dv,hdv⟩:=nm (row fI h.versions)
 obtain ⟨dx,hdx⟩:=nm (row ab h.exts)
 obtain ⟨ex,hex⟩:=nm (row ab a.exts)
 rw[←hdv,←hdx,←hex];obtain ⟨th,hth⟩:=nm (row fI (tags h.exts))
 obtain ⟨ta,hta⟩:=nm (row fI (tags a.exts))
 obtain ⟨ez,hez⟩:=nm (row fI (sel (br (tags h.exts)) idI (tags a.exts)))
 have tl1:(tags h.exts).length≤h.exts.length:=aI;have tl2:(tags a.exts).length≤a.exts.length:=aI;have wh:∀ y∈h.exts,y.body.length≤1099511627776:=fun y hy=>Nat.le_trans (show y.body.length≤1073741824 from mh.2.2 y hy) (by decide)
 have wa:∀ y∈a.exts,y.body.length≤1099511627776:=fun y hy=>Nat.le_trans (show y.body.length≤1073741824 from ma.2 y hy) (by decide)
 refine cJ (fn:=ir161) tb_161 rfl rfl (by decide) rfl ?_;intro Q hQ;simp only[aj,aV,List.map_cons,List.map_nil,ir161,ai q0,ai q1,ai q2,List.head?_nil,reduceCtorEq,if_false,cb,aa,ae,bp,al,aG,af,aH]
 intro add sub mul arith eq ne lt le gt ge neg conv mn mx not beq len at' ln bd cut app allS isNil mks set o hP F ho;have lz:=F.len_at hez;have c1:o 113 [aa dv dx (.sp 0 0) (.sp 0 1)]=some ⟨[B u1],[],none⟩:=by rw[ho,hu1,hdv,hdx];exact gu _ (by omega) (by omega) wh rfl rfl
 have c2:o 118 [ae a.version ex (.sp 0 1)]=some ⟨[B u2],[],none⟩:=by rw[ho,hu2,hex];exact Bo _ _ (by omega) wa rfl
 have c3:o 302 [R dv (.sp 0 0),I a.version]=some ⟨[B u3],[],none⟩:=by rw[ho,hu3,hdv];exact og _ _ (by omega) rfl
 have c4:o 179 [R ex (.sp 0 0)]=some ⟨[R ta (.ow false)],[],none⟩:=by rw[ho,hta,hex];exact nc _ (by omega) rfl
 have c5:o 179 [R dx (.sp 0 0)]=some ⟨[R th (.ow false)],[],none⟩:=by rw[ho,hth,hdx];exact nc _ (by omega) rfl
 have c6:o 287 [R ta (.sp 0 0),R th (.sp 1 0)]=some ⟨[R ez (.ow false)],[],none⟩:=by rw[ho,hez,hth,hta];exact tW _ _ (by omega) (by omega) rfl rfl
 have c7:o 303 [R ex (.sp 0 0)]=some ⟨[B u5],[],none⟩:=by rw[ho,hu5,hex];exact Js _ (by omega) rfl
 have g1:eq (len ez) 0=u4:=by rw[F.eq_n lz (k:=0) (m:=0) rfl,hu4]
 cbv;rw[c1];cbv;refine both (fun d1=>?_) (fun d1=>?_)<;>rw[d1]<;>cbv
 rotate_left
 ·rw[hQ];cbv;rw[←hr,d1];rfl
 rw[c2];cbv;refine both (fun d2=>?_) (fun d2=>?_)<;>rw[d2]<;>cbv
 rotate_left
 ·rw[hQ];cbv;rw[←hr,d1,d2];rfl
 rw[c3];cbv;refine both (fun d3=>?_) (fun d3=>?_)<;>rw[d3]<;>cbv
 rotate_left
 ·rw[hQ];cbv;rw[←hr,d1,d2,d3];rfl
 rw[c4];cbv;rw[c5];cbv;rw[c6];cbv;rw[g1];cbv;refine both (fun d4=>?_) (fun d4=>?_)<;>rw[d4]<;>cbv
 rotate_left
 ·rw[hQ];cbv;rw[←hr,d1,d2,d3,d4];rfl
 rw[c7];cbv;rw[hQ];cbv;rw[←hr,d1,d2,d3,d4,F.not];rfl
theorem yq (h:Hello) (mh:h.Mid) {f0 f1:Fl} (q0:ac f0=true) (q1:ac f1=true):fix Tb md 163 [aa (row fI h.versions) (row ab h.exts) f0 f1]=some ⟨[R (row fI (cq h)) (.ow false)],[],none⟩∨(cq h=[]∧fix Tb md 163 [aa (row fI h.versions) (row ab h.exts) f0 f1]=some ⟨[R [] .nl],[],none⟩):=by
 have mh':=mh;unfold Hello.Mid at mh';have hvl:=mh'.1;have hxl:=mh'.2.1;have wh:∀ y∈h.exts,y.body.length≤1099511627776:=fun y hy=>Nat.le_trans (show y.body.length≤1073741824 from mh'.2.2 y hy) (by decide)
 have k1:=gu h (by omega) (by omega) wh (f0:= .sp 0 0) (f1:= .sp 0 1) rfl rfl
 cases hi:aC h with
 | false=>
  rw[hi] at k1;have hb:cq h=[]:=by unfold cq;rw[hi];rfl
  refine .inr ⟨hb,?_⟩
  generalize hr:(⟨_,[],none⟩:Ret)=r
  obtain ⟨dv,hdv⟩:=nm (row fI h.versions)
  obtain ⟨dx,hdx⟩:=nm (row ab h.exts)
  rw[←hdv,←hdx] at k1 ⊢;refine cJ (fn:=ir163) tb_163 rfl rfl (by decide) rfl ?_;intro Q hQ;simp only[aj,aV,List.map_cons,List.map_nil,ir163,ai q0,ai q1,List.head?_nil,reduceCtorEq,if_false,cb,aa,ae,bp,al,aG,af,aH]
  intro add sub mul arith eq ne lt le gt ge neg conv mn mx not beq len at' ln bd cut app allS isNil mks set o hP F ho;rw[←ho] at k1;cbv;rw[k1];cbv;rw[show not false=true by rw[F.not];rfl];cbv
  rw[hQ];cbv;exact congrArg some hr
 | true=>
  rw[hi] at k1;have hok:=s8 hi;have hlen:=kP hok;have hb:cq h=(h.versions.length:Int)::h.versions++iG h.exts:=by unfold cq;rw[hi];rfl
  refine .inl ?_
  rw[hb];obtain ⟨n,hn⟩:=nm ((h.versions.length:Int))
  obtain ⟨et,het⟩:=nm (row fI (n::h.versions++iG h.exts))
  rw[←hn,←het];generalize hr:(⟨_,[],none⟩:Ret)=r
  obtain ⟨dv,hdv⟩:=nm (row fI h.versions)
  obtain ⟨dx,hdx⟩:=nm (row ab h.exts)
  rw[←hdv,←hdx] at k1 ⊢;obtain ⟨ex,hex⟩:=nm (row fI (iG h.exts))
  refine cJ (fn:=ir163) tb_163 rfl rfl (by decide) rfl ?_;intro Q hQ;simp only[aj,aV,List.map_cons,List.map_nil,ir163,ai q0,ai q1,List.head?_nil,reduceCtorEq,if_false,cb,aa,ae,bp,al,aG,af,aH]
  intro add sub mul arith eq ne lt le gt ge neg conv mn mx not beq len at' ln bd cut app allS isNil mks set o hP F ho;rw[←ho] at k1;have c2:o 294 [R dx (.sp 0 0)]=some ⟨[R ex (.ow false),B true],[],none⟩:=by rw[ho,hdx,hex];exact GV _ hok rfl
  have g1:len dv=n:=by rw[hn];exact F.len_at hdv
  cbv;rw[k1];cbv;rw[show not true=false by rw[F.not];rfl];cbv
  rw[c2];cbv;rw[g1];cbv;have c3:o 304 [R [[.row () [[.int .i64 n]]],[.row () dv],[.row () ex]] (.sp 0 0)]=some ⟨[R et (.ow false)],[],none⟩:=by
   rw[ho,het,hdv,hex];have:=GY [[n],h.versions,iG h.exts] (by simp) (by simp;omega) (by simp) (f0:= .sp 0 0) rfl
   simpa [row,fR,fI] using this
  rw[c3];cbv;rw[hQ];cbv;exact congrArg some hr
theorem BC (l b:List Int) (hl:l.length≤1073741824) (hb':b.length≤1073741824) {f0 f1:Fl} (h0:ac f0=true) (h1:ac f1=true):fix Tb md 180 [R (row fI l) f0,R (row fI b) f1]=some ⟨[R (row fI (sel (bq b) idI l)) (.ow false)],[],none⟩:=by
 obtain ⟨et,het⟩:=nm (row fI (sel (bq b) idI l))
 rw[←het];generalize hr:(⟨_,[],none⟩:Ret)=r
 obtain ⟨ea,hea⟩:=nm (row fI l)
 obtain ⟨eb,heb⟩:=nm (row fI b)
 rw[←hea,←heb];refine cJ (fn:=ir180) tb_180 rfl rfl (by decide) rfl ?_;intro Q hQ;simp only[aj,aV,List.map_cons,List.map_nil,ir180,ai h0,ai h1,List.head?_nil,reduceCtorEq,if_false,cb,aa,ae,bp,al,aG,af,aH]
 intro add sub mul arith eq ne lt le gt ge neg conv mn mx not beq len at' ln bd cut app allS isNil mks set o hP F ho;have la:=F.len_at hea;cbv;refine ah hP (σ:=List Int×List Int×List (List V)×Int×Option (Int)) (fun s=>match s.2.2.2.2 with | none=>[(0,R ea .sh),(1,R eb .sh),(4,R [] .nl),(5,R s.2.2.1 (.ow false)),(9,R ea .sh),(10,I (len ea)),(11,I s.2.2.2.1)] | some j=>[(0,R ea .sh),(1,R eb .sh),(4,R [] .nl),(5,R s.2.2.1 (.ow false)),(7,I j),(9,R ea .sh),(10,I (len ea)),(11,I s.2.2.2.1)]) (fun s=>At s.2.2.2.1 s.2.1.length∧l=s.2.1++s.1∧s.2.2.1=row fI (sel (bq b) idI s.2.1)) (fun s=>s.1.length) (l,[],[],0,none) rfl ⟨rfl,rfl,rfl⟩ ?_
 intro c1 Q1 hc1 hQ1;rintro ⟨suf,pre,eo,i,j⟩ ⟨hi,hl',hb⟩ ih
 simp only at hi hl' hb ih;rcases j with _ | _
 all_goals
  cbv;cases suf with
  | nil=>
   rw[F.lt_f hi la (by simp[hl'])];cbv
   rw[hQ1];cbv;rw[hQ];cbv;rw[←hr,het,hb,hl',List.append_nil]
  | cons x suf=>
   obtain ⟨ix,hix⟩:=nm (pre.length * 1)
   have hpre:pre.length≤1073741824:=by rw[hl'] at hl;simp at hl;omega
   have hs:(sel (bq b) idI pre).length≤pre.length:=aI;have hi':At (add .i64 i 1) (pre++[x]).length:=ao (F.inc hi (by omega)) (by simp)
   have hl2:l=(pre++[x])++suf:=by rw[hl'];simp
   have hmem:x∈l:=by rw[hl'];simp
   have p0:at' 1 ea i=some (ix,[.int .i64 x]):=by rw[hix];exact F.get hi hea hl' (fun _=>rfl) (by decide)
   obtain ⟨v,hv⟩:=nm (bq b x)
   have c2:o 302 [R eb (.sp 0 0),I x]=some ⟨[B v],[],none⟩:=by rw[ho,hv,heb];exact og _ _ (by omega) rfl
   rw[F.lt_t hi la (by simp[hl'])];cbv
   rw[p0];cbv;rw[c2];cbv;refine both (fun d=>?_) (fun d=>?_)<;>rw[d]<;>cbv
   ·rw[show allS [[.int .i64 x]]=true by rw[F.allS];rfl];cbv
    obtain ⟨eo',heo'⟩:=nm (row fI (sel (bq b) idI pre++[idI x]))
    rw[show app 1 eo [[.int .i64 x]]=some eo' by rw[heo'];exact F.push hb (fun _=>rfl) rfl (by omega)];cbv
    refine ih (suf,pre++[x],eo',add .i64 i 1,some x) ⟨hi',hl2,by simp only;rw[heo',dz (by rw[←hv,d])]⟩ (by simp)
   ·refine ih (suf,pre++[x],eo,add .i64 i 1,some x) ⟨hi',hl2,by simp only;rw[hb,d6 (by rw[←hv,d])]⟩ (by simp)
theorem D0 (a b:List Int) (ha:a.length≤1073741824) (hb:b.length≤1073741824) {f0 f1:Fl} (q0:ac f0=true) (q1:ac f1=true):fix Tb md 111 [R (row fI a) f0,R (row fI b) f1]=some ⟨[I (fM a b)],[],none⟩:=by
 obtain ⟨u,hu⟩:=nm (aK a)
 obtain ⟨v,hv⟩:=nm (aK b)
 obtain ⟨l,hl⟩:=nm (qf a b)
 obtain ⟨T,hT⟩:=nm (fM a b)
 rw[←hT];have hT':T=if u&&v then l.foldl mxI 0 else 0:=by
  rw[hT,hu,hv,hl];cases hva:aK a with
  | false=>unfold fM;rw[hva];rfl
  | true=>rw[De hva];unfold fM;rw[hva]
 clear hT;have hll:l.length≤1073741824:=by rw[hl];exact Nat.le_trans aI ha
 generalize hr:(⟨_,[],none⟩:Ret)=r
 obtain ⟨ea,hea⟩:=nm (row fI a)
 obtain ⟨eb,heb⟩:=nm (row fI b)
 rw[←hea,←heb];obtain ⟨el,hel⟩:=nm (row fI l)
 refine cJ (fn:=ir111) tb_111 rfl rfl (by decide) rfl ?_;intro Q hQ;simp only[aj,aV,List.map_cons,List.map_nil,ir111,ai q0,ai q1,List.head?_nil,reduceCtorEq,if_false,cb,aa,ae,bp,al,aG,af,aH]
 intro add sub mul arith eq ne lt le gt ge neg conv mn mx not beq len at' ln bd cut app allS isNil mks set o hP F ho;have ll:=F.len_at hel;have c1:o 180 [R ea (.sp 0 0),R eb (.sp 1 0)]=some ⟨[R el (.ow false)],[],none⟩:=by rw[ho,hel,hl,hea,heb];exact BC _ _ ha hb rfl rfl
 have c2:o 255 [R ea (.sp 0 0)]=some ⟨[B u],[],none⟩:=by rw[ho,hu,hea];exact tU _ (by omega) rfl
 have c3:o 255 [R eb (.sp 0 0)]=some ⟨[B v],[],none⟩:=by rw[ho,hv,heb];exact tU _ (by omega) rfl
 cbv;rw[c2];cbv;refine both (fun d1=>?_) (fun d1=>?_)<;>rw[d1]<;>cbv
 ·rw[hQ];cbv;rw[←hr,hT',F.not_t d1];rfl
 rw[c3];cbv;refine both (fun d2=>?_) (fun d2=>?_)<;>rw[d2]<;>cbv
 ·rw[hQ];cbv;rw[←hr,hT',F.not_f d1,F.not_t d2];rfl
 rw[c1];cbv;have hT2:T=l.foldl mxI 0:=by rw[hT',F.not_f d1,F.not_f d2];rfl
 refine ah hP (σ:=List Int×List Int×Int×Int×Option Int) (fun s=>match s.2.2.2.2 with
  | none=>[(0,R ea .sh),(1,R eb .sh),(4,I 0),(5,I s.2.2.1),(18,R el (.ow false)),(19,I (len el)),(20,I s.2.2.2.1)]
  | some j=>[(0,R ea .sh),(1,R eb .sh),(4,I 0),(5,I s.2.2.1),(7,I j),(18,R el (.ow false)),(19,I (len el)),(20,I s.2.2.2.1)]) (fun s=>At s.2.2.2.1 s.2.1.length∧l=s.2.1++s.1∧s.1.foldl mxI s.2.2.1=T) (fun s=>s.1.length) (l,[],0,0,none) rfl ⟨rfl,rfl,hT2.symm⟩ ?_
 intro c9 Q1 hc9 hQ1;rintro ⟨suf,pre,d,i,j⟩ ⟨hi,hl',hb⟩ ih
 simp only at hi hl' hb ih;rcases j with _ | _
 all_goals
  cbv;cases suf with
  | nil=>
   rw[F.lt_f hi ll (by simp[hl'])];cbv
   rw[hQ1];cbv;rw[hQ];cbv;rw[←hr,←hb];rfl
  | cons x suf=>
   have hpl:pre.length≤1073741824:=by rw[hl'] at hll;simp at hll;omega
   rw[List.foldl_cons] at hb;obtain ⟨ix,hix⟩:=nm (pre.length * 1)
   have p0:at' 1 el i=some (ix,[.int .i64 x]):=by rw[hix];exact F.get hi hel hl' (fun _=>rfl) (by decide)
   obtain ⟨d',hd'⟩:=nm (mxI d x)
   have g2:mx d x=d':=by rw[F.mx,hd'];rfl
   rw[F.lt_t hi ll (by simp[hl'])];cbv
   rw[p0];cbv;rw[g2];cbv;rw[←hd'] at hb;refine ih (suf,pre++[x],d',add .i64 i 1,some x) ⟨ao (F.inc hi (by omega)) (by simp),by simp[hl'],hb⟩ (by simp)
theorem JO (n:Int):fix Tb md 356 [I n]=some ⟨[B (!kD n)],[],none⟩:=by
 obtain ⟨v,hv⟩:=nm (kD n)
 rw[←hv];generalize hr:(⟨_,[],none⟩:Ret)=r
 refine cJ (fn:=ir356) tb_356 rfl rfl (by decide) rfl ?_;intro Q hQ;simp only[aj,aV,List.map_cons,List.map_nil,ir356,List.head?_nil,reduceCtorEq,if_false,cb,aa,ae,bp,al,aG,af,aH]
 intro add sub mul arith eq ne lt le gt ge neg conv mn mx not beq len at' ln bd cut app allS isNil mks set o hP F ho;have c1:o 337 [I n]=some ⟨[B v],[],none⟩:=by rw[ho,hv];exact G0 ..
 cbv;rw[c1];cbv;rw[hQ];cbv;rw[←hr,F.not]
theorem Jv (l:List Ext) (hl:l.length≤1073741824) (w:∀ y∈l,y.body.length≤1099511627776) {f0:Fl} (h0:ac f0=true):fix Tb md 308 [R (row ab l) f0]=some ⟨[R (row ab (sel iI idE l)) (.ow false)],[],none⟩:=by
 obtain ⟨et,het⟩:=nm (row ab (sel iI idE l))
 rw[←het];generalize hr:(⟨_,[],none⟩:Ret)=r
 obtain ⟨ea,hea⟩:=nm (row ab l)
 rw[←hea];refine cJ (fn:=ir308) tb_308 rfl rfl (by decide) rfl ?_;intro Q hQ;simp only[aj,aV,List.map_cons,List.map_nil,ir308,ai h0,List.head?_nil,reduceCtorEq,if_false,cb,aa,ae,bp,al,aG,af,aH]
 intro add sub mul arith eq ne lt le gt ge neg conv mn mx not beq len at' ln bd cut app allS isNil mks set o hP F ho;have c1:o 264 [R ea (.sp 0 0),⟨.val,[⟨.fn 356 [], .sh⟩]⟩]=some ⟨[R et (.ow false)],[],none⟩:=by
  rw[ho,het,hea];exact BH 356 rfl (fun n=> !kD n) l hl w (fun x _=>JO x.tag) rfl
 cbv;rw[c1];cbv;rw[hQ];cbv;exact congrArg some hr
theorem JP (n:Int) (b:List Int) (hb:b.length≤1099511627776):fix Tb md 357 [I n,⟨.val,[⟨.ptr () [.row () (row fI b)], .sh⟩]⟩]=some ⟨[B (bq b n)],[],none⟩:=by
 obtain ⟨v,hv⟩:=nm (bq b n)
 rw[←hv];generalize hr:(⟨_,[],none⟩:Ret)=r
 obtain ⟨eb,heb⟩:=nm (row fI b)
 rw[←heb];refine cJ (fn:=ir357) tb_357 rfl rfl (by decide) rfl ?_;intro Q hQ;simp only[aj,aV,List.map_cons,List.map_nil,ir357,List.head?_nil,reduceCtorEq,if_false,cb,aa,ae,bp,al,aG,af,aH]
 intro add sub mul arith eq ne lt le gt ge neg conv mn mx not beq len at' ln bd cut app allS isNil mks set o hP F ho;have c1:o 302 [R eb (.sp 0 0),I n]=some ⟨[B v],[],none⟩:=by rw[ho,hv,heb];exact og _ _ hb rfl
 cbv;rw[c1];cbv;rw[hQ];cbv;exact congrArg some hr
theorem Jw (l:List Ext) (b:List Int) (hl:l.length≤1073741824) (hb':b.length≤1073741824) (w:∀ y∈l,y.body.length≤1099511627776) {f0 f1:Fl} (h0:ac f0=true) (h1:ac f1=true):fix Tb md 309 [R (row ab l) f0,R (row fI b) f1]=some ⟨[R (row ab (sel (kW b) idE l)) (.ow false)],[],none⟩:=by
 obtain ⟨et,het⟩:=nm (row ab (sel (kW b) idE l))
 rw[←het];generalize hr:(⟨_,[],none⟩:Ret)=r
 obtain ⟨ea,hea⟩:=nm (row ab l)
 obtain ⟨eb,heb⟩:=nm (row fI b)
 rw[←hea,←heb];refine cJ (fn:=ir309) tb_309 rfl rfl (by decide) rfl ?_;intro Q hQ;simp only[aj,aV,List.map_cons,List.map_nil,ir309,ai h0,ai h1,List.head?_nil,reduceCtorEq,if_false,cb,aa,ae,bp,al,aG,af,aH]
 intro add sub mul arith eq ne lt le gt ge neg conv mn mx not beq len at' ln bd cut app allS isNil mks set o hP F ho;have c1:o 264 [R ea (.sp 0 0),⟨.val,[⟨.fn 357 [.ptr () [.row () eb]], .sh⟩]⟩]=some ⟨[R et (.ow false)],[],none⟩:=by
  rw[ho,het,hea,heb];exact pI 357 rfl _ (fun n=>bq b n) l hl w (fun x _=>JP x.tag b (by omega)) rfl
 cbv;rw[c1];cbv;rw[hQ];cbv;exact congrArg some hr
theorem Ej (vs tg:List Int) (h:Hello) (hv:vs.length≤1073741824) (ht:tg.length≤1073741824) (mh:h.Mid) {f0 f1 f2 f3:Fl} (q0:ac f0=true) (q1:ac f1=true) (q2:ac f2=true) (q3:ac f3=true) (r:Ret)
  (rA':fO vs h=true→(⟨[ae (caV vs tg h).version (row ab (caV vs tg h).exts) (.ow false),B true],[],none⟩:Ret)=r) (rC':fO vs h=false→(⟨[ae 0 [] .nl,B false],[],none⟩:Ret)=r):
  fix Tb md 169 [R (row fI vs) f0,R (row fI tg) f1,aa (row fI h.versions) (row ab h.exts) f2 f3]=some r:=by
 have mh':=mh;unfold Hello.Mid at mh';have hvl:=mh'.1;have hxl:=mh'.2.1;have wh:∀ y∈h.exts,y.body.length≤1099511627776:=fun y hy=>Nat.le_trans (show y.body.length≤1073741824 from mh'.2.2 y hy) (by decide)
 obtain ⟨u,hu⟩:=nm (aC h)
 obtain ⟨n,hn⟩:=nm (fM vs h.versions)
 obtain ⟨K,hK⟩:=nm (sel (kW tg) idE h.exts)
 obtain ⟨Z,hZ⟩:=nm (sel iI idE K)
 have hKl:K.length≤1073741824:=by rw[hK];exact Nat.le_trans aI hxl
 have wK:∀ y∈K,y.body.length≤1099511627776:=fun y hy=>wh y (by rw[hK,cV] at hy;exact (List.mem_filter.1 hy).1)
 have hok:fO vs h=(u&& !decide (n=0)):=by rw[hu,hn];rfl
 have rA:u=true→decide (n=0)=false→(⟨[ae n (row ab Z) (.ow false),B true],[],none⟩:Ret)=r:=fun q1 q2=>by
  have hk:fO vs h=true:=by rw[hok,q1,q2];rfl
  rw[←rA' hk,show caV vs tg h=⟨n,Z⟩ by rw[caV,hk,if_pos rfl,hn,hZ,hK];rfl]
 have rC:u=false∨decide (n=0)=true→(⟨[ae 0 [] .nl,B false],[],none⟩:Ret)=r:=fun q=>rC' (by rcases q with q | q<;>rw[hok,q]<;>simp)
 clear rA' rC' hok;obtain ⟨ev,hev⟩:=nm (row fI vs)
 obtain ⟨et,het⟩:=nm (row fI tg)
 obtain ⟨dv,hdv⟩:=nm (row fI h.versions)
 obtain ⟨dx,hdx⟩:=nm (row ab h.exts)
 rw[←hev,←het,←hdv,←hdx];obtain ⟨ek,hek⟩:=nm (row ab K)
 obtain ⟨ez,hez⟩:=nm (row ab Z)
 rw[←hez] at rA;refine cJ (fn:=ir169) tb_169 rfl rfl (by decide) rfl ?_;intro Q hQ;simp only[aj,aV,List.map_cons,List.map_nil,ir169,ai q0,ai q1,ai q2,ai q3,List.head?_nil,reduceCtorEq,if_false,cb,aa,ae,bp,al,aG,af,aH]
 intro add sub mul arith eq ne lt le gt ge neg conv mn mx not beq len at' ln bd cut app allS isNil mks set o hP F ho;have c1:o 111 [R ev (.sp 0 0),R dv (.sp 1 0)]=some ⟨[I n],[],none⟩:=by rw[ho,hn,hev,hdv];exact D0 _ _ hv hvl rfl rfl
 have c2:o 113 [aa dv dx (.sp 0 0) (.sp 0 1)]=some ⟨[B u],[],none⟩:=by rw[ho,hu,hdv,hdx];exact gu _ (by omega) (by omega) wh rfl rfl
 have c3:o 309 [R dx (.sp 0 0),R et (.sp 1 0)]=some ⟨[R ek (.ow false)],[],none⟩:=by rw[ho,hek,hK,hdx,het];exact Jw _ _ hxl ht wh rfl rfl
 have c4:o 308 [R ek (.sp 0 0)]=some ⟨[R ez (.ow false)],[],none⟩:=by rw[ho,hez,hZ,hek];exact Jv _ hKl wK rfl
 have g1:eq n 0=decide (n=0):=F.eq ..;cbv;rw[c1];cbv;rw[c2];cbv;refine both (fun d1=>?_) (fun d1=>?_)<;>rw[d1]<;>cbv
 ·rw[hQ];cbv;exact congrArg some (rC (.inl (F.not_t d1)))
 refine both (fun d2=>?_) (fun d2=>?_)<;>rw[d2]<;>cbv
 ·rw[hQ];cbv;exact congrArg some (rC (.inr (by rw[←g1,d2])))
 rw[c3];cbv;rw[c4];cbv;rw[hQ];cbv;exact congrArg some (rA (F.not_f d1) (by rw[←g1,d2]))
theorem Aq (vs tg:List Int) (h:Hello) (hv:vs.length≤1073741824) (ht:tg.length≤1073741824) (mh:h.Mid) {f0 f1 f2 f3:Fl} (q0:ac f0=true) (q1:ac f1=true) (q2:ac f2=true) (q3:ac f3=true) (q:fO vs h=true):
  fix Tb md 169 [R (row fI vs) f0,R (row fI tg) f1,aa (row fI h.versions) (row ab h.exts) f2 f3]=some ⟨[ae (caV vs tg h).version (row ab (caV vs tg h).exts) (.ow false),B true],[],none⟩:=
 Ej vs tg h hv ht mh q0 q1 q2 q3 _ (fun _=>rfl) (fun e=>by rw[q] at e;cases e)
theorem Ar (vs tg:List Int) (h:Hello) (hv:vs.length≤1073741824) (ht:tg.length≤1073741824) (mh:h.Mid) {f0 f1 f2 f3:Fl} (q0:ac f0=true) (q1:ac f1=true) (q2:ac f2=true) (q3:ac f3=true) (q:fO vs h=false):
  fix Tb md 169 [R (row fI vs) f0,R (row fI tg) f1,aa (row fI h.versions) (row ab h.exts) f2 f3]=some ⟨[ae 0 [] .nl,B false],[],none⟩:=
 Ej vs tg h hv ht mh q0 q1 q2 q3 _ (fun e=>by rw[q] at e;cases e) (fun _=>rfl)
theorem IX (vs tg:List Int) (h:Hello) (hv:vs.length≤1073741824) (ht:tg.length≤1073741824) (mh:h.Mid) {f0 f1 f2 f3:Fl} (q0:ac f0=true) (q1:ac f1=true) (q2:ac f2=true) (q3:ac f3=true):
  fix Tb md 169 [R (row fI vs) f0,R (row fI tg) f1,aa (row fI h.versions) (row ab h.exts) f2 f3]=some ⟨[ae (caV vs tg h).version (row ab (caV vs tg h).exts) (.ow false),B (fO vs h)],[],none⟩∨
  ((caV vs tg h).exts=[]∧fix Tb md 169 [R (row fI vs) f0,R (row fI tg) f1,aa (row fI h.versions) (row ab h.exts) f2 f3]=some ⟨[ae (caV vs tg h).version [] .nl,B (fO vs h)],[],none⟩):=by
 cases q:fO vs h with
 | true=>exact .inl (Aq vs tg h hv ht mh q0 q1 q2 q3 q)
 | false=>
  rw[show caV vs tg h=⟨0,[]⟩ by rw[caV,q];rfl]
  exact .inr ⟨rfl,Ar vs tg h hv ht mh q0 q1 q2 q3 q⟩
theorem Ed (h:Hello) (mh:h.Mid) {f0 f1:Fl} (q0:ac f0=true) (q1:ac f1=true) (q:aC h=true):fix Tb md 163 [aa (row fI h.versions) (row ab h.exts) f0 f1]=some ⟨[R (row fI (cq h)) (.ow false)],[],none⟩:=by
 rcases yq h mh q0 q1 with k | ⟨k,_⟩
 ·exact k
 ·unfold cq at k;rw[q] at k;simp at k
theorem D8 (a:Answer) (hl:a.exts.length≤1099511627776) (w:∀ y∈a.exts,y.body.length≤1099511627776) {f0:Fl} (h0:ac f0=true) (q:fN a.version a.exts=true):fix Tb md 152 [ae a.version (row ab a.exts) f0]=some ⟨[R (row fI (cT a)) (.ow false)],[],none⟩:=by
 rcases D7 a hl w h0 with k | ⟨k,_⟩
 ·exact k
 ·exact absurd k (A1 q)
theorem EA (h seen:Hello) (vs tg:List Int) (k:Int) (es:List Edit) (mh:h.Mid) (ms:seen.Mid) (hv:vs.length≤1073741824) (ht:tg.length≤1073741824) (he:es.length≤1073741824) {f0 f1 f2 f3 f4 f5 f6:Fl} (q0:ac f0=true) (q1:ac f1=true) (q2:ac f2=true) (q3:ac f3=true) (q4:ac f4=true) (q5:ac f5=true) (q6:ac f6=true) (r:Ret)
  (rA:gz h seen vs tg k es=true→(⟨[al true (dlG vs tg seen es).version (row fI (tags (dlG vs tg seen es).exts)) (.ow false)],[],none⟩:Ret)=r) (rC:gz h seen vs tg k es=false→(⟨[al false 0 [] .nl],[],none⟩:Ret)=r):
  fix Tb md 254 [aa (row fI h.versions) (row ab h.exts) f0 f1,aa (row fI seen.versions) (row ab seen.exts) f2 f3,R (row fI vs) f4,R (row fI tg) f5,I k,R (row bH es) f6]=some r:=by
 cases hca:fO vs seen with
 | false=>
  have hok:gz h seen vs tg k es=false:=by unfold gz;rw[hca];rfl
  replace rC:=rC hok
  clear rA;have k1:=Ar vs tg seen hv ht ms (f0:= .sp 0 0) (f1:= .sp 1 0) (f2:= .sp 2 0) (f3:= .sp 2 1) rfl rfl rfl rfl hca;obtain ⟨ev,hev⟩:=nm (row fI vs)
  obtain ⟨et,het⟩:=nm (row fI tg)
  obtain ⟨dv,hdv⟩:=nm (row fI h.versions)
  obtain ⟨dx,hdx⟩:=nm (row ab h.exts)
  obtain ⟨sv,hsv⟩:=nm (row fI seen.versions)
  obtain ⟨sx,hsx⟩:=nm (row ab seen.exts)
  obtain ⟨ee,hee⟩:=nm (row bH es)
  rw[←hev,←het,←hsv,←hsx] at k1;rw[←hev,←het,←hdv,←hdx,←hsv,←hsx,←hee];refine cJ (fn:=ir254) tb_254 rfl rfl (by decide) rfl ?_;intro Q hQ;simp only[aj,aV,List.map_cons,List.map_nil,ir254,ai q0,ai q1,ai q2,ai q3,ai q4,ai q5,ai q6,List.head?_nil,reduceCtorEq,if_false,cb,aa,ae,bp,al,aG,af,aH]
  intro add sub mul arith eq ne lt le gt ge neg conv mn mx not beq len at' ln bd cut app allS isNil mks set o hP F ho;rw[←ho] at k1;cbv;rw[k1];cbv;rw[show not false=true by rw[F.not];rfl];cbv
  rw[hQ];cbv;exact congrArg some rC
 | true=>
  obtain ⟨S,hS⟩:=nm (caV vs tg seen)
  obtain ⟨G,hG⟩:=nm (dlG vs tg seen es)
  have hGS:es.foldl fV S=G:=by rw[hS,hG];rfl
  have mS:S.Mid:=by rw[hS];exact lh ms
  have mG:G.Mid:=by rw[←hGS];exact sg es mS
  have aS:fN S.version S.exts=true:=by rw[hS];exact A4 hca
  have iS:=xB hca;have k1:=Aq vs tg seen hv ht ms (f0:= .sp 0 0) (f1:= .sp 1 0) (f2:= .sp 2 0) (f3:= .sp 2 1) rfl rfl rfl rfl hca;rw[←hS] at k1;obtain ⟨fin,hfin⟩:=nm (dlF k vs tg seen)
  obtain ⟨u,hu⟩:=nm (ju h G)
  obtain ⟨v,hv_⟩:=nm (mr k [cq h,cT G] 1 fin)
  have hok:gz h seen vs tg k es=(u&&v):=by unfold gz;rw[hca,Bool.true_and,←hG,←hfin,←hu,←hv_]
  rw[hok] at rA rC;rw[←hG] at rA;have wS:∀ y∈S.exts,y.body.length≤1099511627776:=fun y hy=>Nat.le_trans (show y.body.length≤1073741824 from mS.2 y hy) (by decide)
  have wG:∀ y∈G.exts,y.body.length≤1099511627776:=fun y hy=>Nat.le_trans (show y.body.length≤1073741824 from mG.2 y hy) (by decide)
  have lS:S.exts.length≤1073741824:=mS.1;have lG:G.exts.length≤1073741824:=mG.1;have bS:(cT S).length≤48:=Nat.le_trans (kI S) (by decide)
  have bG:(cT G).length≤48:=Nat.le_trans (kI G) (by decide)
  have k2:=Ed seen ms (f0:= .sp 0 0) (f1:= .sp 0 1) rfl rfl iS;have k3:=D8 S (by omega) wS (f0:= .sp 0 1) rfl aS
  have k4:=Bu k [cq seen,cT S] 1 (vW (eI seen) bS) (f0:= .sp 1 0) rfl;rw[show kQ k [cq seen,cT S] 1=fin by rw[hfin,hS];rfl] at k4
  have k5:=Ec h G mh mG (f0:= .sp 0 0) (f1:= .sp 0 1) (f2:= .sp 1 1) rfl rfl rfl;rw[←hu] at k5;have k6:=fun q:u=true=>Ed h mh (f0:= .sp 0 0) (f1:= .sp 0 1) rfl rfl (sS (hu▸q)).1
  have k7:=fun q:u=true=>D8 G (by omega) wG (f0:= .sp 0 1) rfl (sS (hu▸q)).2
  have k8:=Bv k [cq h,cT G] 1 fin (vW (eI h) bG) (f0:= .sp 1 0) rfl;rw[←hv_] at k8;have k9:=nc G.exts (by omega) (f0:= .sp 0 0) rfl
  rw[show sel eY Ext.tag G.exts=tags G.exts from rfl] at k9
  obtain ⟨ev,hev⟩:=nm (row fI vs)
  obtain ⟨et,het⟩:=nm (row fI tg)
  obtain ⟨dv,hdv⟩:=nm (row fI h.versions)
  obtain ⟨dx,hdx⟩:=nm (row ab h.exts)
  obtain ⟨sv,hsv⟩:=nm (row fI seen.versions)
  obtain ⟨sx,hsx⟩:=nm (row ab seen.exts)
  obtain ⟨ee,hee⟩:=nm (row bH es)
  obtain ⟨eS,heS⟩:=nm (row ab S.exts)
  obtain ⟨eG,heG⟩:=nm (row ab G.exts)
  obtain ⟨eT,heT⟩:=nm (row fI (tags G.exts))
  obtain ⟨b1,hb1⟩:=nm (row fI (cq seen))
  obtain ⟨b2,hb2⟩:=nm (row fI (cT S))
  obtain ⟨b3,hb3⟩:=nm (row fI (cq h))
  obtain ⟨b4,hb4⟩:=nm (row fI (cT G))
  rw[←hev,←het,←hsv,←hsx,←heS] at k1;rw[←hsv,←hsx,←hb1] at k2;rw[←heS,←hb2] at k3;simp only[row,fR,List.map_cons,List.map_nil] at k4 k8;rw[show List.map fI (cq seen)=b1 from hb1.symm,show List.map fI (cT S)=b2 from hb2.symm] at k4
  rw[show List.map fI (cq h)=b3 from hb3.symm,show List.map fI (cT G)=b4 from hb4.symm] at k8
  rw[←hdv,←hdx,←heG] at k5;rw[←hdv,←hdx,←hb3] at k6;rw[←heG,←hb4] at k7;rw[←heG,←heT] at k9;rw[←heT] at rA;rw[←hev,←het,←hdv,←hdx,←hsv,←hsx,←hee];refine cJ (fn:=ir254) tb_254 rfl rfl (by decide) rfl ?_;intro Q hQ;simp only[aj,aV,List.map_cons,List.map_nil,ir254,ai q0,ai q1,ai q2,ai q3,ai q4,ai q5,ai q6,List.head?_nil,reduceCtorEq,if_false,cb,aa,ae,bp,al,aG,af,aH]
  intro add sub mul arith eq ne lt le gt ge neg conv mn mx not beq len at' ln bd cut app allS isNil mks set o hP F ho;have le:=F.len_at hee;rw[←ho] at k1 k2 k3 k4 k5 k6 k7 k8 k9;cbv;rw[k1];cbv;rw[show not true=false by rw[F.not];rfl];cbv
  refine ah hP (σ:=List Edit×List Edit×Answer×Int×List (List V)×Int×Option (Int×Int)) (fun s=>match s.2.2.2.2.2.2 with
   | none=>[(0,aa dv dx .sh .sh),(1,aa sv sx .sh .sh),(2,R ev .sh),(3,R et .sh),(4,I k),(5,R ee .sh),(6,⟨.ptr 75 0,[]⟩),(7,⟨.ptr 76 0,[]⟩),(12,⟨.ptr 81 0,[]⟩),(13,⟨.ptr 82 0,[]⟩),(14,B true),(15,⟨.ptr 84 0,[]⟩),(30,R ee .sh),(31,I (len ee)),(32,I s.2.2.2.2.2.1),(75,⟨.box (),[⟨.row () dv, .sh⟩,⟨.row () dx, .sh⟩]⟩),(76,⟨.box (),[⟨.row () sv, .sh⟩,⟨.row () sx, .sh⟩]⟩),(81,⟨.box (),[⟨.bool false, .sc⟩,⟨.int .i64 0, .sc⟩,⟨.row () [], .nl⟩]⟩),(82,⟨.box (),[⟨.int .i64 S.version, .sc⟩,⟨.row () eS, .fr⟩]⟩),(84,⟨.box (),[⟨.int .i64 s.2.2.2.1, .sc⟩,⟨.row () s.2.2.2.2.1, .ow false⟩]⟩)]
   | some j=>[(0,aa dv dx .sh .sh),(1,aa sv sx .sh .sh),(2,R ev .sh),(3,R et .sh),(4,I k),(5,R ee .sh),(6,⟨.ptr 75 0,[]⟩),(7,⟨.ptr 76 0,[]⟩),(12,⟨.ptr 81 0,[]⟩),(13,⟨.ptr 82 0,[]⟩),(14,B true),(15,⟨.ptr 84 0,[]⟩),(17,⟨.ptr 86 0,[]⟩),(30,R ee .sh),(31,I (len ee)),(32,I s.2.2.2.2.2.1),(75,⟨.box (),[⟨.row () dv, .sh⟩,⟨.row () dx, .sh⟩]⟩),(76,⟨.box (),[⟨.row () sv, .sh⟩,⟨.row () sx, .sh⟩]⟩),(81,⟨.box (),[⟨.bool false, .sc⟩,⟨.int .i64 0, .sc⟩,⟨.row () [], .nl⟩]⟩),(82,⟨.box (),[⟨.int .i64 S.version, .sc⟩,⟨.row () eS, .fr⟩]⟩),(84,⟨.box (),[⟨.int .i64 s.2.2.2.1, .sc⟩,⟨.row () s.2.2.2.2.1, .ow false⟩]⟩),(86,⟨.box (),[⟨.int .i64 j.1, .sc⟩,⟨.int .i64 j.2, .sc⟩]⟩)]) (fun s=>At s.2.2.2.2.2.1 s.2.1.length∧es=s.2.1++s.1∧s.1.foldl fV s.2.2.1=G∧s.2.2.1.Mid∧s.2.2.2.1=s.2.2.1.version∧s.2.2.2.2.1=row ab s.2.2.1.exts) (fun s=>s.1.length) (es,[],S,S.version,eS,0,none) rfl ⟨rfl,rfl,hGS,mS,rfl,heS⟩ ?_
  intro c9 Q1 hc9 hQ1;rintro ⟨suf,pre,a,ver,ex,i,j⟩ ⟨hi,hl',hb,ma,hver,hex⟩ ih
  simp only at hi hl' hb ma hver hex ih;rcases j with _ | ⟨j1,j2⟩
  all_goals
   cbv;cases suf with
   | nil=>
    have hpp:es=pre:=by rw[hl',List.append_nil]
    have haG:a=G:=hb;rw[haG] at hver hex;rw[←heG] at hex;rw[F.lt_f hi le (by simp[hl'])];cbv
    rw[hQ1];cbv;rw[hver,hex];rw[k2];cbv;rw[k3];cbv;rw[k4];cbv;rw[k5];cbv;refine both (fun d1=>?_) (fun d1=>?_)<;>rw[d1]<;>cbv
    ·rw[hQ];cbv;exact congrArg some (rC (by rw[F.not_t d1];rfl))
    have hu1:=F.not_f d1;rw[k6 hu1];cbv;rw[k7 hu1];cbv;rw[k8];cbv;refine both (fun d2=>?_) (fun d2=>?_)<;>rw[d2]<;>cbv
    ·rw[hQ];cbv;exact congrArg some (rC (by rw[hu1,F.not_t d2];rfl))
    rw[k9];cbv;rw[hQ];cbv;exact congrArg some (rA (by rw[hu1,F.not_f d2];rfl))
   | cons x suf=>
    rw[List.foldl_cons] at hb;have hpl:pre.length≤1073741824:=by rw[hl'] at he;simp at he;omega
    obtain ⟨ix,hix⟩:=nm (pre.length * 2)
    have p0:at' 2 ee i=some (ix,[.int .i64 x.kind, .int .i64 x.n]):=by rw[hix];exact F.get hi hee hl' (fun _=>rfl) (by decide)
    obtain ⟨a',ha'⟩:=nm (fV a x)
    have ma':a'.Mid:=by rw[ha'];exact nJ ma
    have la:=ma.1;have k0:=Gz a x la (fun y hy=>Nat.le_trans (show y.body.length≤1073741824 from ma.2 y hy) (by decide)) (f0:= .sp 0 1) rfl
    rw[←ha'] at k0 hb;obtain ⟨ver',hver'⟩:=nm (a'.version)
    obtain ⟨ex',hex'⟩:=nm (row ab a'.exts)
    rw[←hver',←hex',←hver,←hex,←ho] at k0;rw[F.lt_t hi le (by simp[hl'])];cbv
    rw[p0];cbv;rw[k0];cbv;exact ih (suf,pre++[x],a',ver',ex',add .i64 i 1,some (x.kind,x.n)) ⟨ao (F.inc hi (by omega)) (by simp),by rw[hl'];simp,hb,ma',hver',hex'⟩ (by simp)
theorem Ez (h:Hello) (path:List Box) (vs tg:List Int) (k:Int) (mh:h.Mid) (pl:path.length≤1073741824) (pm:∀ y∈path,y.Mid) (hv:vs.length≤1073741824) (ht:tg.length≤1073741824) {f0 f1 f2 f3 f4:Fl} (q0:ac f0=true) (q1:ac f1=true) (q2:ac f2=true) (q3:ac f3=true) (q4:ac f4=true) (r:Ret)
  (rA:lj h path vs tg k=true→(⟨[al true (caV vs tg (ppV path h)).version (row fI (tags (caV vs tg (ppV path h)).exts)) (.ow false)],[],none⟩:Ret)=r) (rC:lj h path vs tg k=false→(⟨[al false 0 [] .nl],[],none⟩:Ret)=r):
  fix Tb md 211 [aa (row fI h.versions) (row ab h.exts) f0 f1,R (row ar path) f2,R (row fI vs) f3,R (row fI tg) f4,I k]=some r:=by
 obtain ⟨fv,gv,hf,k1⟩:=HF.of2 (P:=fun vv xx f g=>fix Tb md 182 [R (row ar path) (.sp 0 0),aa (row fI h.versions) (row ab h.exts) (.sp 1 0) (.sp 1 1)]=some ⟨[aa vv xx f g,B (dZ path h)],[],none⟩) (tT path h pl pm mh (f0:= .sp 0 0) (f1:= .sp 1 0) (f2:= .sp 1 1) rfl rfl rfl)
 obtain ⟨seen,hseen⟩:=nm (ppV path h)
 have ms:seen.Mid:=by rw[hseen];exact iq mh
 obtain ⟨w,hw⟩:=nm (dZ path h)
 have hok:lj h path vs tg k=(w&&gz h seen vs tg k []):=by rw[hw,hseen];rfl
 rw[hok] at rA rC;rw[←hseen] at rA;rw[←hw,←hseen] at k1;clear hok;obtain ⟨x,hx⟩:∃ x:SU,(gz h seen vs tg k []=true→al true (caV vs tg seen).version (row fI (tags (caV vs tg seen).exts)) (.ow false)=x)∧(gz h seen vs tg k []=false→al false 0 [] .nl=x):=by
  cases q:gz h seen vs tg k [] with
  | true=>exact ⟨_,fun _=>rfl,fun e=>by cases e⟩
  | false=>exact ⟨_,fun e=>(by cases e),fun _=>rfl⟩
 have k2:=fun (a b:Fl) (qa:ac a=true) (qb:ac b=true)=>EA h seen vs tg k [] mh ms hv ht (by simp) (f0:= .sp 0 0) (f1:= .sp 0 1) (f2:=a) (f3:=b) (f4:= .sp 2 0) (f5:= .sp 3 0) (f6:= .nl) rfl rfl qa qb rfl rfl rfl ⟨[x],[],none⟩ (fun e=>by rw[←hx.1 e];rfl) (fun e=>by rw[←hx.2 e])
 cases hd:gz h seen vs tg k [] with
 | true=>
  rw[←hx.1 hd] at k2;rw[hd,Bool.and_true] at rA rC;clear hx;obtain ⟨ev,hev⟩:=nm (row fI vs)
  obtain ⟨et,het⟩:=nm (row fI tg)
  obtain ⟨dv,hdv⟩:=nm (row fI h.versions)
  obtain ⟨dx,hdx⟩:=nm (row ab h.exts)
  obtain ⟨sv,hsv⟩:=nm (row fI seen.versions)
  obtain ⟨sx,hsx⟩:=nm (row ab seen.exts)
  obtain ⟨ep,hep⟩:=nm (row ar path)
  obtain ⟨ex,hex⟩:=nm (row fI (tags (caV vs tg seen).exts))
  obtain ⟨ve,hve⟩:=nm ((caV vs tg seen).version)
  rw[←hex,←hve] at k2 rA;rw[←hep,←hdv,←hdx,←hsv,←hsx] at k1;rw[←hev,←het,←hdv,←hdx,←hsv,←hsx,show row bH ([]:List Edit)=[] from rfl] at k2
  rw[←hev,←het,←hdv,←hdx,←hep];have k2':=k2 (inA fv 1 0) (inA gv 1 1) (hf.inl 1 0) (hf.inr 1 1)
  replace hf:=HF.fl hf
  rcases hf with ⟨rfl,rfl⟩ | ⟨rfl,rfl⟩ | ⟨rfl,rfl⟩
  all_goals
   simp only[inA] at k2';refine cJ (fn:=ir211) tb_211 rfl rfl (by decide) rfl ?_;intro Q hQ;simp only[aj,aV,List.map_cons,List.map_nil,ir211,ai q0,ai q1,ai q2,ai q3,ai q4,List.head?_nil,reduceCtorEq,if_false,cb,aa,ae,bp,al,aG,af,aH]
   intro add sub mul arith eq ne lt le gt ge neg conv mn mx not beq len at' ln bd cut app allS isNil mks set o hP F ho;rw[←ho] at k1 k2';cbv;rw[k1];cbv;refine both (fun d1=>?_) (fun d1=>?_)<;>rw[d1]<;>cbv
   ·rw[hQ];cbv;exact congrArg some (rC (F.not_t d1))
   rw[k2'];cbv;rw[hQ];cbv;exact congrArg some (rA (F.not_f d1))
 | false=>
  rw[←hx.2 hd] at k2;rw[hd,Bool.and_false] at rA rC;clear hx;obtain ⟨ev,hev⟩:=nm (row fI vs)
  obtain ⟨et,het⟩:=nm (row fI tg)
  obtain ⟨dv,hdv⟩:=nm (row fI h.versions)
  obtain ⟨dx,hdx⟩:=nm (row ab h.exts)
  obtain ⟨sv,hsv⟩:=nm (row fI seen.versions)
  obtain ⟨sx,hsx⟩:=nm (row ab seen.exts)
  obtain ⟨ep,hep⟩:=nm (row ar path)
  rw[←hep,←hdv,←hdx,←hsv,←hsx] at k1;rw[←hev,←het,←hdv,←hdx,←hsv,←hsx,show row bH ([]:List Edit)=[] from rfl] at k2
  rw[←hev,←het,←hdv,←hdx,←hep];have k2':=k2 (inA fv 1 0) (inA gv 1 1) (hf.inl 1 0) (hf.inr 1 1)
  replace hf:=HF.fl hf
  rcases hf with ⟨rfl,rfl⟩ | ⟨rfl,rfl⟩ | ⟨rfl,rfl⟩
  all_goals
   simp only[inA] at k2';refine cJ (fn:=ir211) tb_211 rfl rfl (by decide) rfl ?_;intro Q hQ;simp only[aj,aV,List.map_cons,List.map_nil,ir211,ai q0,ai q1,ai q2,ai q3,ai q4,List.head?_nil,reduceCtorEq,if_false,cb,aa,ae,bp,al,aG,af,aH]
   intro add sub mul arith eq ne lt le gt ge neg conv mn mx not beq len at' ln bd cut app allS isNil mks set o hP F ho;rw[←ho] at k1 k2';cbv;rw[k1];cbv;refine both (fun d1=>?_) (fun d1=>?_)<;>rw[d1]<;>cbv
   ·rw[hQ];cbv;exact congrArg some (rC rfl)
   rw[k2'];cbv;rw[hQ];cbv;exact congrArg some (rC rfl)
theorem Ey (h:Hello) (path:List Box) (vs tg:List Int) (k:Int) (mh:h.Mid) (pl:path.length≤1073741824) (pm:∀ y∈path,y.Mid) (hv:vs.length≤1073741824) (ht:tg.length≤1073741824) {f0 f1 f2 f3 f4:Fl} (q0:ac f0=true) (q1:ac f1=true) (q2:ac f2=true) (q3:ac f3=true) (q4:ac f4=true):
  fix Tb md 211 [aa (row fI h.versions) (row ab h.exts) f0 f1,R (row ar path) f2,R (row fI vs) f3,R (row fI tg) f4,I k]=some ⟨[al (doV h path vs tg k).ok (doV h path vs tg k).version (row fI (doV h path vs tg k).tags) (tF (lj h path vs tg k))],[],none⟩:=by
 cases q:lj h path vs tg k with
 | true=>
  refine Ez h path vs tg k mh pl pm hv ht q0 q1 q2 q3 q4 _ (fun _=>?_) (fun e=>by rw[q] at e;cases e)
  rw[doV,q];rfl
 | false=>
  rw[show doV h path vs tg k=⟨false,0,[]⟩ by rw[doV,q];rfl]
  exact Ez h path vs tg k mh pl pm hv ht q0 q1 q2 q3 q4 _ (fun e=>by rw[q] at e;cases e) (fun _=>rfl)
theorem sK {h:Hello} {path:List Box} {vs tg:List Int} {k:Int} (q:lj h path vs tg k=false):(doV h path vs tg k).tags=[]:=by unfold doV;rw[q];rfl
theorem Fq (h:Hello) (path:List Box) (vs tg:List Int) (k:Int) (mh:h.Mid) (pl:path.length≤1073741824) (pm:∀ y∈path,y.Mid) (hv:vs.length≤1073741824) (ht:tg.length≤1073741824) {f0 f1 f2 f3 f4:Fl} (q0:ac f0=true) (q1:ac f1=true) (q2:ac f2=true) (q3:ac f3=true) (q4:ac f4=true):
  ((fix Tb md 210 [aa (row fI h.versions) (row ab h.exts) f0 f1,R (row ar path) f2,R (row fI vs) f3,R (row fI tg) f4,I k]=some ⟨[al (doV h path vs tg k).ok (doV h path vs tg k).version (row fI (doV h path vs tg k).tags) (.ow false)],[],none⟩)∧(fix Tb md 211 [aa (row fI h.versions) (row ab h.exts) f0 f1,R (row ar path) f2,R (row fI vs) f3,R (row fI tg) f4,I k]=some ⟨[al (doV h path vs tg k).ok (doV h path vs tg k).version (row fI (doV h path vs tg k).tags) (.ow false)],[],none⟩))∨
  (((doV h path vs tg k).tags=[]∧fix Tb md 210 [aa (row fI h.versions) (row ab h.exts) f0 f1,R (row ar path) f2,R (row fI vs) f3,R (row fI tg) f4,I k]=some ⟨[al (doV h path vs tg k).ok (doV h path vs tg k).version [] .nl],[],none⟩)∧((doV h path vs tg k).tags=[]∧fix Tb md 211 [aa (row fI h.versions) (row ab h.exts) f0 f1,R (row ar path) f2,R (row fI vs) f3,R (row fI tg) f4,I k]=some ⟨[al (doV h path vs tg k).ok (doV h path vs tg k).version [] .nl],[],none⟩)):=by
 have p:=Eu h path vs tg k mh pl pm hv ht q0 q1 q2 q3 q4;have q:=Ey h path vs tg k mh pl pm hv ht q0 q1 q2 q3 q4;cases e:lj h path vs tg k with
 | true=>rw[e] at p q;exact .inl ⟨p,q⟩
 | false=>rw[e,sK e] at p q;exact .inr ⟨⟨sK e,p⟩,sK e,q⟩
theorem Bt (a b:Hello) (hvv:a.versions.length≤1099511627776) (hl:a.exts.length≤1099511627776) (w:∀ y∈a.exts,y.body.length≤1099511627776) {f0 f1 g0 g1:Fl} (q0:ac f0=true) (q1:ac f1=true) (p0:ac g0=true) (p1:ac g1=true):
  fix Tb md 130 [aa (row fI a.versions) (row ab a.exts) f0 f1,aa (row fI b.versions) (row ab b.exts) g0 g1]=some ⟨[B (decide (a=b))],[],none⟩:=by
 obtain ⟨u,hu⟩:=nm (decide (a.versions=b.versions))
 obtain ⟨v,hv⟩:=nm (decide (a.exts=b.exts))
 rw[show decide (a=b)=(u&&v) by rw[hu,hv];simp only[Hello.eq_iff];by_cases k1:a.versions=b.versions<;>by_cases k2:a.exts=b.exts<;>simp[k1,k2]]
 generalize hr:(⟨_,[],none⟩:Ret)=r
 obtain ⟨d0,hd0⟩:=nm (row fI a.versions)
 obtain ⟨e0,he0⟩:=nm (row fI b.versions)
 obtain ⟨d1,hd1⟩:=nm (row ab a.exts)
 obtain ⟨e1,he1⟩:=nm (row ab b.exts)
 rw[←hd0,←he0,←hd1,←he1];refine cJ (fn:=ir130) tb_130 rfl rfl (by decide) rfl ?_;intro Q hQ;simp only[aj,aV,List.map_cons,List.map_nil,ir130,ai q0,ai q1,ai p0,ai p1,List.head?_nil,reduceCtorEq,if_false,cb,aa,ae,bp,al,aG,af,aH]
 intro add sub mul arith eq ne lt le gt ge neg conv mn mx not beq len at' ln bd cut app allS isNil mks set o hP F ho;have c1:o 228 [R d0 (.sp 0 0),R e0 (.sp 1 0)]=some ⟨[B u],[],none⟩:=by rw[ho,hu,hd0,he0];exact pH _ _ hvv rfl rfl
 have c2:o 272 [R d1 (.sp 0 0),R e1 (.sp 1 0)]=some ⟨[B v],[],none⟩:=by rw[ho,hv,hd1,he1];exact GQ _ _ hl w rfl rfl
 cbv;rw[c1];cbv;refine both (fun d1=>?_) (fun d1=>?_)<;>rw[d1]<;>cbv
 ·rw[c2];cbv;rw[hQ];cbv;rw[←hr,d1];rfl
 ·rw[hQ];cbv;rw[←hr,d1];rfl
theorem Em (h:Hello) (path:List Box) (mh:h.Mid) (pl:path.length≤1073741824) (pm:∀ y∈path,y.Mid) {f0 f1 f2:Fl} (q0:ac f0=true) (q1:ac f1=true) (q2:ac f2=true):fix Tb md 192 [aa (row fI h.versions) (row ab h.exts) f0 f1,R (row ar path) f2]=some ⟨[B (pw h path)],[],none⟩:=by
 obtain ⟨w,hw⟩:=nm (dZ path h)
 obtain ⟨v,hv⟩:=nm (decide (ppV path h=h))
 rw[show pw h path=(w&&v) by rw[hw,hv];rfl]
 generalize hr:(⟨_,[],none⟩:Ret)=r
 have vm:(ppV path h).Mid:=iq mh;unfold Hello.Mid at vm;have vm1:(ppV path h).versions.length≤1099511627776:=by omega
 have vm2:(ppV path h).exts.length≤1099511627776:=by omega
 have vm3:∀ y∈(ppV path h).exts,y.body.length≤1099511627776:=fun y hy=>Nat.le_trans (show y.body.length≤1073741824 from vm.2.2 y hy) (by decide)
 have hk:=yw path h pl pm mh (f0:= .sp 0 0) (f1:= .sp 1 0) (f2:= .sp 1 1) rfl rfl rfl;rw[←hw] at hk;obtain ⟨ep,hep⟩:=nm (row ar path)
 obtain ⟨ev,hev⟩:=nm (row fI h.versions)
 obtain ⟨ex,hex⟩:=nm (row ab h.exts)
 obtain ⟨V1,hV1⟩:=nm (row fI (ppV path h).versions)
 obtain ⟨X1,hX1⟩:=nm (row ab (ppV path h).exts)
 rw[←hep,←hev,←hex,←hV1,←hX1] at hk;rw[←hep,←hev,←hex];refine cJ (fn:=ir192) tb_192 rfl rfl (by decide) rfl ?_;intro Q hQ;simp only[aj,aV,List.map_cons,List.map_nil,ir192,ai q0,ai q1,ai q2,List.head?_nil,reduceCtorEq,if_false,cb,aa,ae,bp,al,aG,af,aH]
 intro add sub mul arith eq ne lt le gt ge neg conv mn mx not beq len at' ln bd cut app allS isNil mks set o hP F ho;cbv;rcases hk with hk | ⟨n1,hk⟩ | ⟨n1,n2,hk⟩
 ·have c3:o 196 [R ep (.sp 0 0),aa ev ex (.sp 1 0) (.sp 1 1)]=some ⟨[aa V1 X1 (.ow false) (.ow false),B w],[],none⟩:=by rw[ho];exact hk
  have c4:o 130 [aa V1 X1 (.sp 0 0) (.sp 0 1),aa ev ex (.sp 1 0) (.sp 1 1)]=some ⟨[B v],[],none⟩:=by
   have h9:=Bt (ppV path h) h vm1 vm2 vm3 (f0:= .sp 0 0) (f1:= .sp 0 1) (g0:= .sp 1 0) (g1:= .sp 1 1) rfl rfl rfl rfl;rw[←hV1,←hX1,←hv,←hev,←hex] at h9;rw[ho];exact h9
  rw[c3];cbv;refine both (fun d=>?_) (fun d=>?_)<;>rw[d]<;>cbv
  ·rw[c4];cbv;rw[hQ];cbv;rw[←hr,d];rfl
  ·rw[hQ];cbv;rw[←hr,d];rfl
 ·have c3:o 196 [R ep (.sp 0 0),aa ev ex (.sp 1 0) (.sp 1 1)]=some ⟨[aa V1 [] (.ow false) (.nl),B w],[],none⟩:=by rw[ho];exact hk
  have c4:o 130 [aa V1 [] (.sp 0 0) (.nl),aa ev ex (.sp 1 0) (.sp 1 1)]=some ⟨[B v],[],none⟩:=by
   have h9:=Bt (ppV path h) h vm1 vm2 vm3 (f0:= .sp 0 0) (f1:= .nl) (g0:= .sp 1 0) (g1:= .sp 1 1) rfl rfl rfl rfl;rw[←hV1,n1,show row ab ([]:List Ext)=[] from rfl,←hv,←hev,←hex] at h9
   rw[ho];exact h9
  rw[c3];cbv;refine both (fun d=>?_) (fun d=>?_)<;>rw[d]<;>cbv
  ·rw[c4];cbv;rw[hQ];cbv;rw[←hr,d];rfl
  ·rw[hQ];cbv;rw[←hr,d];rfl
 ·have c3:o 196 [R ep (.sp 0 0),aa ev ex (.sp 1 0) (.sp 1 1)]=some ⟨[aa [] [] (.nl) (.nl),B w],[],none⟩:=by rw[ho];exact hk
  have c4:o 130 [aa [] [] (.nl) (.nl),aa ev ex (.sp 1 0) (.sp 1 1)]=some ⟨[B v],[],none⟩:=by
   have h9:=Bt (ppV path h) h vm1 vm2 vm3 (f0:= .nl) (f1:= .nl) (g0:= .sp 1 0) (g1:= .sp 1 1) rfl rfl rfl rfl;rw[n1,n2,show row fI ([]:List Int)=[] from rfl,show row ab ([]:List Ext)=[] from rfl,←hv,←hev,←hex] at h9
   rw[ho];exact h9
  rw[c3];cbv;refine both (fun d=>?_) (fun d=>?_)<;>rw[d]<;>cbv
  ·rw[c4];cbv;rw[hQ];cbv;rw[←hr,d];rfl
  ·rw[hQ];cbv;rw[←hr,d];rfl
theorem HR (l:List Int) (hl:l.length≤1099511627776) {f0:Fl} (h0:ac f0=true):fix Tb md 75 [R (row fI l) f0]=some ⟨[aa (row fI l) [] (.ow false) .nl],[],none⟩:=by
 refine bB (fn:=ir75) tb_75 rfl rfl (by decide) rfl ?_;simp only[aj,aV,List.map_cons,List.map_nil,ir75,ai h0,List.head?_nil,reduceCtorEq,if_false,cb,aa,ae,bp,al,aG,af,aH]
 generalize hr:(⟨_,[],none⟩:Ret)=r
 obtain ⟨ea,hea⟩:=nm (row fI l)
 rw[←hea] at hr ⊢;intro add sub mul arith eq ne lt le gt ge neg conv mn mx not beq len at' ln bd cut app allS isNil mks set o hP F ho;cbv;rw[show allS ea=true from F.scal hea (fun _=>rfl)];cbv
 rw[F.app_nil hea (fun _=>rfl) hl];cbv
 exact congrArg some hr
theorem Eg (path:List Box) (versions:List Int) (pl:path.length≤1073741824) (pm:∀ y∈path,y.Mid) (hv:versions.length≤1073741824) {f0 f1:Fl} (q0:ac f0=true) (q1:ac f1=true):fix Tb md 166 [R (row ar path) f0,R (row fI versions) f1]=some ⟨[B (iop path versions)],[],none⟩:=by
 obtain ⟨u,hu⟩:=nm (aK versions)
 obtain ⟨w,hw⟩:=nm (dZ path ⟨versions.take 1,[]⟩)
 rw[show iop path versions=(u&&w) by rw[hu,hw];rfl]
 generalize hr:(⟨_,[],none⟩:Ret)=r
 have rA:u=true→(⟨[B w],[],none⟩:Ret)=r:=fun h=>by rw[←hr,h];rfl
 have rC:u=false→(⟨[B false],[],none⟩:Ret)=r:=fun h=>by rw[←hr,h];rfl
 clear hr;have hk:=yw path ⟨versions.take 1,[]⟩ pl pm ⟨by simp;omega,by simp,by simp⟩ (f0:= .sp 0 0) (f1:= .sp 1 0) (f2:= .nl) rfl rfl rfl
 rw[show row ab (⟨versions.take 1,[]⟩:Hello).exts=[] from rfl,show (⟨versions.take 1,[]⟩:Hello).versions=versions.take 1 from rfl,←hw] at hk
 obtain ⟨ep,hep⟩:=nm (row ar path)
 obtain ⟨ev,hev⟩:=nm (row fI versions)
 obtain ⟨e1,he1⟩:=nm (row fI (versions.take 1))
 rw[←hep,←he1] at hk;rw[←hep,←hev];obtain ⟨V1,hV1⟩:=nm (row fI (ppV path ⟨versions.take 1,[]⟩).versions)
 obtain ⟨X1,hX1⟩:=nm (row ab (ppV path ⟨versions.take 1,[]⟩).exts)
 rw[←hV1,←hX1] at hk;refine cJ (fn:=ir166) tb_166 rfl rfl (by decide) rfl ?_;intro Q hQ;simp only[aj,aV,List.map_cons,List.map_nil,ir166,ai q0,ai q1,List.head?_nil,reduceCtorEq,if_false,cb,aa,ae,bp,al,aG,af,aH]
 intro add sub mul arith eq ne lt le gt ge neg conv mn mx not beq len at' ln bd cut app allS isNil mks set o hP F ho;have c1:o 257 [R ev (.sp 0 0)]=some ⟨[B u],[],none⟩:=by rw[ho,hu,hev];exact tV _ (by omega) rfl
 have c2:o 75 [R e1 (.sp 0 0)]=some ⟨[aa e1 [] (.ow false) .nl],[],none⟩:=by rw[ho,he1];exact HR _ (by simp;omega) rfl
 obtain ⟨one,hone⟩:=nm (1)
 have p1:u=true→bd (ln ev) 1=some one:=fun h=>by
  rw[hu] at h;unfold aK at h;simp only[Bool.and_eq_true,decide_eq_true_eq] at h;rw[F.ln' hev,hone];exact F.bd' (show At 1 1 from rfl) h.2
 have p2:cut 1 ev one 0=some e1:=by rw[F.cut' hev (fun _=>rfl),he1,hone];rfl
 cbv;rw[c1];cbv;refine both (fun d1=>?_) (fun d1=>?_)<;>rw[d1]<;>cbv
 ·rw[hQ];cbv;exact congrArg some (rC (F.not_t d1))
 have p1':=p1 (F.not_f d1);rw[p1'];cbv;rw[p2];cbv;rw[c2];cbv;rcases hk with hk | ⟨n1,hk⟩ | ⟨n1,n2,hk⟩
 ·have c3:o 196 [R ep (.sp 0 0),aa e1 [] (.sp 1 0) .nl]=some ⟨[aa V1 X1 (.ow false) (.ow false),B w],[],none⟩:=by rw[ho];exact hk
  rw[c3];cbv;rw[hQ];cbv;exact congrArg some (rA (F.not_f d1))
 ·have c3:o 196 [R ep (.sp 0 0),aa e1 [] (.sp 1 0) .nl]=some ⟨[aa V1 [] (.ow false) .nl,B w],[],none⟩:=by rw[ho];exact hk
  rw[c3];cbv;rw[hQ];cbv;exact congrArg some (rA (F.not_f d1))
 ·have c3:o 196 [R ep (.sp 0 0),aa e1 [] (.sp 1 0) .nl]=some ⟨[aa [] [] .nl .nl,B w],[],none⟩:=by rw[ho];exact hk
  rw[c3];cbv;rw[hQ];cbv;exact congrArg some (rA (F.not_f d1))
end Go.Vm
