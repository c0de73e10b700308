/- What the functions answer. -/
import Derived.Test.YtfidmkhcipcnmaaGreatGDTab
import Derived.Test.YtfidmkhcipcnmaaGreatGDFA
import Derived.Test.YtfidmkhcipcnmaaGreatGDFB
import Derived.Test.YtfidmkhcipcnmaaGreatGDFC
set_option maxHeartbeats 4000000
set_option maxRecDepth 10000
set_option linter.unusedVariables false
set_option linter.unusedSimpArgs false
namespace Go.Vm
theorem JQ (x:Int) (xs:List Int) (hl:(x::xs).length≤1099511627776) {f0:Fl} (h0:ac f0=true):fix Tb md 358 [R (row fI (x::xs)) f0]=some ⟨[I (tJ x xs)],[],none⟩:=by
 obtain ⟨T,hT⟩:=nm (tJ x xs)
 rw[←hT];generalize hr:(⟨_,[],none⟩:Ret)=r
 obtain ⟨l,hl0⟩:=nm (x::xs)
 rw[←hl0] at hl ⊢;obtain ⟨ea,hea⟩:=nm (row fI l)
 rw[←hea];refine cJ (fn:=ir358) tb_358 rfl rfl (by decide) rfl ?_;intro Q hQ;simp only[aj,aV,List.map_cons,List.map_nil,ir358,ai h0,List.head?_nil,reduceCtorEq,if_false,cb,aa,ae,bp,al,aG,af,aH]
 intro add sub mul arith eq ne lt le gt ge neg conv mn mx not beq len at' ln bd cut app allS isNil mks set o hP F ho;have la:=F.len_at hea;have g0:lt (len ea) 1=false:=by rw[F.lt_n la (k:=1) (m:=1) rfl,hl0];simp
 obtain ⟨ix0,hix0⟩:=nm (([]:List Int).length * 1)
 have p00:at' 1 ea 0=some (ix0,[.int .i64 x]):=by rw[hix0];exact F.get (pre:=[]) (i:=0) (show At 0 0 from rfl) hea hl0 (fun _=>rfl) (by decide)
 cbv;rw[g0];cbv;rw[p00];cbv;refine ah hP (σ:=List Int×List Int×Int×Int) (fun s=>[(0,R ea .sh),(2,I 0),(3,I s.2.2.1),(4,I s.2.2.2)]) (fun s=>At s.2.2.2 s.2.1.length∧l=s.2.1++s.1∧tJ s.2.2.1 s.1=T) (fun s=>s.1.length) (xs,[x],x,1) rfl ⟨rfl,hl0,hT.symm⟩ ?_
 intro c1 Q1 hc1 hQ1;rintro ⟨suf,pre,m,i⟩ ⟨hi,hl',hb⟩ ih
 simp only at hi hl' hb ih;cbv;cases suf with
 | nil=>
  rw[F.lt_f hi la (by simp[hl'])];cbv
  rw[hQ1];cbv;rw[hQ];cbv;rw[←hr,←hb];rfl
 | cons y suf=>
  obtain ⟨ix,hix⟩:=nm (pre.length * 1)
  have p0:at' 1 ea i=some (ix,[.int .i64 y]):=by rw[hix];exact F.get hi hea hl' (fun _=>rfl) (by decide)
  rw[F.lt_t hi la (by simp[hl'])];cbv
  rw[p0];cbv;refine ih (suf,pre++[y],mx m y,add .i64 i 1) ⟨ao (F.inc hi (by simp[hl'] at hl;omega)) (by simp),by simp[hl'],?_⟩ (by simp)
  simp only;rw[F.mx];exact hb
theorem JR (x:Ext) (b:Box) (hd:b.drops.length≤1099511627776) (hs:b.strips.length≤1099511627776) {f0:Fl} (h0:ac f0=true):fix Tb md 359 [cb x.tag (row fI x.body) f0,⟨.val,[⟨.ptr () [.int .i64 b.limit, .row () (row fI b.drops), .row () (row fI b.strips), .bool b.lists], .sh⟩]⟩]=some ⟨[B (lost b x)],[],none⟩:=by
 obtain ⟨d,hd_⟩:=nm (bq b.drops x.tag)
 obtain ⟨s,hs_⟩:=nm (bq b.strips x.tag)
 obtain ⟨q,hq⟩:=nm (inR x.tag 1 3)
 obtain ⟨lb,hlb⟩:=nm (b.lists)
 rw[show lost b x=(d||(lb&& !s&& !q)) by rw[hd_,hs_,hq,hlb];rfl,←hlb]
 generalize hr:(⟨_,[],none⟩:Ret)=r
 obtain ⟨ex,hex⟩:=nm (row fI x.body)
 obtain ⟨ed,hed⟩:=nm (row fI b.drops)
 obtain ⟨es,hes⟩:=nm (row fI b.strips)
 rw[←hex,←hed,←hes];refine cJ (fn:=ir359) tb_359 rfl rfl (by decide) rfl ?_;intro Q hQ;simp only[aj,aV,List.map_cons,List.map_nil,ir359,ai h0,List.head?_nil,reduceCtorEq,if_false,cb,aa,ae,bp,al,aG,af,aH]
 intro add sub mul arith eq ne lt le gt ge neg conv mn mx not beq len at' ln bd cut app allS isNil mks set o hP F ho;have c1:o 302 [R ed (.sp 0 0),I x.tag]=some ⟨[B d],[],none⟩:=by rw[ho,hd_,hed];exact og _ _ hd rfl
 have c2:o 302 [R es (.sp 0 0),I x.tag]=some ⟨[B s],[],none⟩:=by rw[ho,hs_,hes];exact og _ _ hs rfl
 have c3:o 232 [I x.tag,I 1,I 3]=some ⟨[B q],[],none⟩:=by rw[ho,hq];exact fF ..
 have nb:∀ b,not b= !b:=F.not;cbv;rw[c1];cbv;refine both (fun e1=>?_) (fun e1=>?_)<;>rw[e1]<;>cbv
 ·rw[hQ];cbv;rw[←hr,e1];rfl
 refine both (fun e2=>?_) (fun e2=>?_)<;>rw[e2]<;>cbv
 ·rw[c2];cbv;refine both (fun e3=>?_) (fun e3=>?_)<;>rw[e3]<;>cbv
  ·rw[c3];cbv;rw[hQ];cbv;rw[←hr,nb q,e1,e2,F.not_t e3];rfl
  ·rw[hQ];cbv;rw[←hr,e1,e2,F.not_f e3];rfl
 ·rw[hQ];cbv;rw[←hr,e1,e2];rfl
theorem Jx (b:Box) (h:Hello) (hb:0≤b.limit) (hh:aK h.versions=true) (hd:b.drops.length≤1099511627776) (hs:b.strips.length≤1099511627776) (hv:h.versions.length≤1099511627776) (hx:h.exts.length≤1099511627776) {f0 f1 f2 f3:Fl} (q0:ac f0=true) (q1:ac f1=true) (q2:ac f2=true) (q3:ac f3=true):fix Tb md 310 [aG b.limit (row fI b.drops) (row fI b.strips) b.lists f0 f1,aa (row fI h.versions) (row ab h.exts) f2 f3]=some ⟨[B (rP b h||h.exts.any (lost b))],[],none⟩:=by
 obtain ⟨T,hT⟩:=nm (h.exts.any (lost b))
 obtain ⟨w,hw⟩:=nm (jz h.versions)
 obtain ⟨t1,ht1⟩:=nm (decide (0 < b.limit))
 obtain ⟨t2,ht2⟩:=nm (decide (b.limit < w))
 rw[show (rP b h||h.exts.any (lost b))=(t1&&t2||T) by rw[ht1,ht2,hw,hT];rfl]
 generalize hr:(⟨_,[],none⟩:Ret)=r
 obtain ⟨ed,hed⟩:=nm (row fI b.drops)
 obtain ⟨es,hes⟩:=nm (row fI b.strips)
 obtain ⟨ev,hev⟩:=nm (row fI h.versions)
 obtain ⟨ex,hex⟩:=nm (row ab h.exts)
 have k1:fix Tb md 358 [R ev (.sp 0 0)]=some ⟨[I w],[],none⟩:=by
  rw[hev,hw];cases hvs:h.versions with
  | nil=>rw[hvs] at hh;exact absurd hh (by decide)
  | cons x xs=>rw[hvs] at hh hv;rw[←Fy hh];exact JQ x xs hv rfl
 rw[←hed,←hes,←hev,←hex];refine cJ (fn:=ir310) tb_310 rfl rfl (by decide) rfl ?_;intro Q hQ;simp only[aj,aV,List.map_cons,List.map_nil,ir310,ai q0,ai q1,ai q2,ai q3,List.head?_nil,reduceCtorEq,if_false,cb,aa,ae,bp,al,aG,af,aH]
 intro add sub mul arith eq ne lt le gt ge neg conv mn mx not beq len at' ln bd cut app allS isNil mks set o hP F ho;have c1:o 358 [R ev (.sp 0 0)]=some ⟨[I w],[],none⟩:=by rw[ho];exact k1
 have c2:o 288 [R ex (.sp 0 0),⟨.val,[⟨.fn 359 [.ptr () [.int .i64 b.limit, .row () ed, .row () es, .bool b.lists]], .sh⟩]⟩]=some ⟨[B T],[],none⟩:=by
  rw[ho,hT,hex,hed,hes];exact BK 359 rfl _ (lost b) h.exts hx (fun y _=>JR y b hd hs rfl) rfl
 have g1:ne b.limit 0=t1:=by
  rw[F.ne,ht1];by_cases hz:b.limit=0
  ·simp[hz]
  ·simp[hz];omega
 have g2:gt w b.limit=t2:=by rw[F.gt,ht2]
 cbv;rw[g1];cbv;refine both (fun d1=>?_) (fun d1=>?_)<;>rw[d1]<;>cbv
 ·rw[c1];cbv;rw[g2];cbv;refine both (fun d2=>?_) (fun d2=>?_)<;>rw[d2]<;>cbv
  ·rw[hQ];cbv;rw[←hr,d1,d2];rfl
  ·rw[c2];cbv;rw[hQ];cbv;rw[←hr,d1,d2];rfl
 ·rw[c2];cbv;rw[hQ];cbv;rw[←hr,d1];rfl
theorem Jy (n:Int) (b:Box) (hs:b.strips.length≤1099511627776):fix Tb md 311 [I n,⟨.val,[⟨.ptr () [.int .i64 b.limit, .row () (row fI b.drops), .row () (row fI b.strips), .bool b.lists], .sh⟩]⟩]=some ⟨[B (!bq b.strips n)],[],none⟩:=by
 obtain ⟨v,hv⟩:=nm (bq b.strips n)
 rw[←hv];generalize hr:(⟨_,[],none⟩:Ret)=r
 obtain ⟨ed,hed⟩:=nm (row fI b.drops)
 obtain ⟨es,hes⟩:=nm (row fI b.strips)
 rw[←hed,←hes];refine cJ (fn:=ir311) tb_311 rfl rfl (by decide) rfl ?_;intro Q hQ;simp only[aj,aV,List.map_cons,List.map_nil,ir311,List.head?_nil,reduceCtorEq,if_false,cb,aa,ae,bp,al,aG,af,aH]
 intro add sub mul arith eq ne lt le gt ge neg conv mn mx not beq len at' ln bd cut app allS isNil mks set o hP F ho;have c1:o 302 [R es (.sp 0 0),I n]=some ⟨[B v],[],none⟩:=by rw[ho,hv,hes];exact og _ _ hs rfl
 cbv;rw[c1];cbv;rw[hQ];cbv;rw[←hr,F.not]
theorem JV (limit:Int) (drops strips:List Int) (lists:Bool) (hd:drops.length≤1099511627776) (hs:strips.length≤1099511627776) {f0 f1:Fl} (h0:ac f0=true) (h1:ac f1=true):
  fix Tb md 69 [aG limit (row fI drops) (row fI strips) lists f0 f1]=some ⟨[B (mc limit drops strips)],[],none⟩:=by
 refine bB (fn:=ir69) tb_69 rfl rfl (by decide) rfl ?_;simp only[aj,aV,List.map_cons,List.map_nil,ir69,ai h0,ai h1,List.head?_nil,reduceCtorEq,if_false,cb,aa,ae,bp,al,aG,af,aH]
 generalize hr:(⟨_,[],none⟩:Ret)=r
 obtain ⟨ed,hed⟩:=nm (row fI drops)
 obtain ⟨es,hes⟩:=nm (row fI strips)
 rw[←hed,←hes];obtain ⟨v1,hv1⟩:=nm (inR limit 0 9)
 obtain ⟨v2,hv2⟩:=nm (bytes drops)
 obtain ⟨v3,hv3⟩:=nm (bytes strips)
 intro add sub mul arith eq ne lt le gt ge neg conv mn mx not beq len at' ln bd cut app allS isNil mks set o hP F ho;have ld:=F.len_at hed;have ls:=F.len_at hes;have c1:o 232 [I limit,I 0,I 9]=some ⟨[B v1],[],none⟩:=by rw[ho,hv1];exact fF ..
 have c2:o 233 [R ed (.sp 0 0),I 0,I 255]=some ⟨[B v2],[],none⟩:=by rw[ho,hv2,hed];exact yx _ _ _ hd rfl
 have c3:o 233 [R es (.sp 0 0),I 0,I 255]=some ⟨[B v3],[],none⟩:=by rw[ho,hv3,hes];exact yx _ _ _ hs rfl
 cbv
 repeat' (first | (rw[c1];cbv) | (rw[c2];cbv) | (rw[c3];cbv) | (refine both (fun c=>?_) (fun c=>?_)<;>(try rw[c])<;>(try cbv)))
 all_goals (clear hP c1 c2 c3 ho;unfold At at ld ls;try simp only[F.eq,F.ne,F.le,F.lt,F.ge,F.gt,F.not,F.beq,ld,ls] at *;clear F;subst hr)
 all_goals (simp_all[mc]<;>(intros;omega))
theorem qG (b:Box) (h:Hello) (bd1:b.drops.length≤1073741824) (bs1:b.strips.length≤1073741824) (mh:h.Mid) {f0 f1 f2 f3:Fl} (q0:ac f0=true) (q1:ac f1=true) (q2:ac f2=true) (q3:ac f3=true) (r:Ret) (rA:fS b h=true→(⟨[aa (row fI h.versions) (row ab (sel (bv b.strips) idE h.exts)) (.ow false) (.ow false),B true],[],none⟩:Ret)=r) (rC:fS b h=false→(⟨[aa [] [] .nl .nl,B false],[],none⟩:Ret)=r):fix Tb md 174 [aG b.limit (row fI b.drops) (row fI b.strips) b.lists f0 f1,aa (row fI h.versions) (row ab h.exts) f2 f3]=some r:=by
 have mh':=mh;unfold Hello.Mid at mh';have wh:∀ y∈h.exts,y.body.length≤1099511627776:=fun y hy=>Nat.le_trans (show y.body.length≤1073741824 from mh'.2.2 y hy) (by decide)
 obtain ⟨u1,hu1⟩:=nm (mc b.limit b.drops b.strips)
 obtain ⟨u2,hu2⟩:=nm (aC h)
 obtain ⟨u3,hu3⟩:=nm ((rP b h||h.exts.any (lost b)))
 have hp:fS b h=(u1&&u2&& !u3):=by rw[hu1,hu2,hu3,fS];simp[Bool.and_assoc]
 rw[hp] at rA rC;have k3:u1=true→u2=true→fix Tb md 310 [aG b.limit (row fI b.drops) (row fI b.strips) b.lists (.sp 0 1) (.sp 0 2),aa (row fI h.versions) (row ab h.exts) (.sp 1 0) (.sp 1 1)]=some ⟨[B u3],[],none⟩:=fun e1 e2=>by
  rw[hu3];rw[hu1] at e1;rw[hu2] at e2;refine Jx b h ?_ ?_ (by omega) (by omega) (by omega) (by omega) rfl rfl rfl rfl
  ·unfold mc at e1;simp only[Bool.and_eq_true] at e1;have:=e1.1.1.1.1;unfold inR at this;simp at this;exact this.1
  ·unfold aC at e2;simp only[Bool.and_eq_true] at e2;exact e2.1
 obtain ⟨ed,hed⟩:=nm (row fI b.drops)
 obtain ⟨es,hes⟩:=nm (row fI b.strips)
 obtain ⟨ev,hev⟩:=nm (row fI h.versions)
 obtain ⟨ex,hex⟩:=nm (row ab h.exts)
 obtain ⟨ez,hez⟩:=nm (row ab (sel (bv b.strips) idE h.exts))
 rw[←hev,←hez] at rA;rw[←hed,←hes,←hev,←hex] at k3 ⊢;refine cJ (fn:=ir174) tb_174 rfl rfl (by decide) rfl ?_;intro Q hQ;simp only[aj,aV,List.map_cons,List.map_nil,ir174,ai q0,ai q1,ai q2,ai q3,List.head?_nil,reduceCtorEq,if_false,cb,aa,ae,bp,al,aG,af,aH]
 intro add sub mul arith eq ne lt le gt ge neg conv mn mx not beq len at' ln bd cut app allS isNil mks set o hP F ho;have c1:o 69 [aG b.limit ed es b.lists (.sp 0 1) (.sp 0 2)]=some ⟨[B u1],[],none⟩:=by rw[ho,hu1,hed,hes];exact JV _ _ _ _ (by omega) (by omega) rfl rfl
 have c2:o 113 [aa ev ex (.sp 0 0) (.sp 0 1)]=some ⟨[B u2],[],none⟩:=by rw[ho,hu2,hev,hex];exact gu _ (by omega) (by omega) wh rfl rfl
 have c3:u1=true→u2=true→o 310 [aG b.limit ed es b.lists (.sp 0 1) (.sp 0 2),aa ev ex (.sp 1 0) (.sp 1 1)]=some ⟨[B u3],[],none⟩:=by rw[ho];exact k3
 have c4:o 299 [R ev (.sp 0 0)]=some ⟨[R ev (.ow false)],[],none⟩:=by rw[ho,hev];exact EG _ (by omega) rfl
 have c5:o 264 [R ex (.sp 0 0),⟨.val,[⟨.fn 311 [.ptr () [.int .i64 b.limit, .row () ed, .row () es, .bool b.lists]], .sh⟩]⟩]=some ⟨[R ez (.ow false)],[],none⟩:=by
  rw[ho,hez,hex,hed,hes];exact pI 311 rfl _ (fun n=> !bq b.strips n) h.exts mh'.2.1 wh (fun x _=>Jy x.tag b (by omega)) rfl
 cbv;rw[c1];cbv;refine both (fun d1=>?_) (fun d1=>?_)<;>rw[d1]<;>cbv
 ·rw[hQ];cbv;exact congrArg some (rC (by rw[F.not_t d1];rfl))
 rw[c2];cbv;refine both (fun d2=>?_) (fun d2=>?_)<;>rw[d2]<;>cbv
 ·rw[hQ];cbv;exact congrArg some (rC (by rw[F.not_f d1,F.not_t d2];rfl))
 have c3':=c3 (F.not_f d1) (F.not_f d2);rw[c3'];cbv;refine both (fun d3=>?_) (fun d3=>?_)<;>rw[d3]<;>cbv
 ·rw[hQ];cbv;exact congrArg some (rC (by rw[F.not_f d1,F.not_f d2,d3];rfl))
 rw[c4];cbv;rw[c5];cbv;rw[hQ];cbv;exact congrArg some (rA (by rw[F.not_f d1,F.not_f d2,d3];rfl))
theorem GG (b:Box) (h:Hello) (bd1:b.drops.length≤1073741824) (bs1:b.strips.length≤1073741824) (mh:h.Mid) {f0 f1 f2 f3:Fl} (q0:ac f0=true) (q1:ac f1=true) (q2:ac f2=true) (q3:ac f3=true):
  fix Tb md 174 [aG b.limit (row fI b.drops) (row fI b.strips) b.lists f0 f1,aa (row fI h.versions) (row ab h.exts) f2 f3]=some ⟨[aa (row fI (pbV b h).versions) (row ab (pbV b h).exts) (.ow false) (.ow false),B (fS b h)],[],none⟩∨
  ((pbV b h).versions=[]∧(pbV b h).exts=[]∧fix Tb md 174 [aG b.limit (row fI b.drops) (row fI b.strips) b.lists f0 f1,aa (row fI h.versions) (row ab h.exts) f2 f3]=some ⟨[aa [] [] .nl .nl,B (fS b h)],[],none⟩):=by
 have hmain:=fun r a c=>qG b h bd1 bs1 mh q0 q1 q2 q3 r a c
 unfold pbV;cases ho:fS b h with
 | false=>exact .inr ⟨rfl,rfl,hmain _ (fun q=>by rw[ho] at q;cases q) (fun _=>rfl)⟩
 | true=>exact .inl (hmain _ (fun _=>rfl) (fun q=>by rw[ho] at q;cases q))
theorem JH (n:Int):fix Tb md 347 [I n]=some ⟨[B true],[],none⟩:=by
 generalize hr:(⟨_,[],none⟩:Ret)=r
 refine cJ (fn:=ir347) tb_347 rfl rfl (by decide) rfl ?_;intro Q hQ;simp only[aj,aV,List.map_cons,List.map_nil,ir347,List.head?_nil,reduceCtorEq,if_false,cb,aa,ae,bp,al,aG,af,aH]
 intro add sub mul arith eq ne lt le gt ge neg conv mn mx not beq len at' ln bd cut app allS isNil mks set o hP F ho;cbv;rw[hQ];cbv;exact congrArg some hr
theorem EC (l:List Ext) (hl:l.length≤1073741824) (w:∀ y∈l,y.body.length≤1099511627776) {f0:Fl} (h0:ac f0=true):fix Tb md 266 [R (row ab l) f0]=some ⟨[R (row ab l) (.ow false)],[],none⟩:=by
 obtain ⟨ea,hea⟩:=nm (row ab l)
 rw[←hea];generalize hr:(⟨_,[],none⟩:Ret)=r
 refine cJ (fn:=ir266) tb_266 rfl rfl (by decide) rfl ?_;intro Q hQ;simp only[aj,aV,List.map_cons,List.map_nil,ir266,ai h0,List.head?_nil,reduceCtorEq,if_false,cb,aa,ae,bp,al,aG,af,aH]
 intro add sub mul arith eq ne lt le gt ge neg conv mn mx not beq len at' ln bd cut app allS isNil mks set o hP F ho;have c1:o 264 [R ea (.sp 0 0),⟨.val,[⟨.fn 347 [], .sh⟩]⟩]=some ⟨[R ea (.ow false)],[],none⟩:=by
  rw[ho,hea];have h:=BH 347 rfl (fun _=>true) l hl w (fun x _=>JH x.tag) (f0:= .sp 0 0) rfl
  rw[show sel (jY fun _=>true) idE l=l by rw[cV];exact List.filter_eq_self.2 (fun _ _=>rfl)] at h
  exact h
 cbv;rw[c1];cbv;rw[hQ];cbv;exact congrArg some hr
theorem EB (h:Hello) (mh:h.Mid) {f0 f1:Fl} (q0:ac f0=true) (q1:ac f1=true):fix Tb md 261 [aa (row fI h.versions) (row ab h.exts) f0 f1]=some ⟨[aa (row fI h.versions) (row ab h.exts) (.ow false) (.ow false)],[],none⟩:=by
 have mh':=mh;unfold Hello.Mid at mh';obtain ⟨ev,hev⟩:=nm (row fI h.versions)
 obtain ⟨ex,hex⟩:=nm (row ab h.exts)
 rw[←hev,←hex];generalize hr:(⟨_,[],none⟩:Ret)=r
 refine cJ (fn:=ir261) tb_261 rfl rfl (by decide) rfl ?_;intro Q hQ;simp only[aj,aV,List.map_cons,List.map_nil,ir261,ai q0,ai q1,List.head?_nil,reduceCtorEq,if_false,cb,aa,ae,bp,al,aG,af,aH]
 intro add sub mul arith eq ne lt le gt ge neg conv mn mx not beq len at' ln bd cut app allS isNil mks set o hP F ho;have c1:o 266 [R ex (.sp 0 0)]=some ⟨[R ex (.ow false)],[],none⟩:=by rw[ho,hex];exact EC _ mh'.2.1 (fun y hy=>Nat.le_trans (show y.body.length≤1073741824 from mh'.2.2 y hy) (by decide)) rfl
 cbv;rw[show allS ev=true from F.scal hev (fun _=>rfl)];cbv
 rw[F.app_nil hev (fun _=>rfl) (Nat.le_trans mh'.1 (by decide))];cbv
 rw[c1];cbv;rw[hQ];cbv;exact congrArg some hr
def dU:List Box→Hello→Hello×Bool
 | [],h=>(h,true)
 | b::bs,h=>if fS b h then dU bs (pbV b h) else (⟨[],[]⟩,false)
def pp (path:List Box) (h:Hello):Hello×Bool:=if aC h&&decide (path.length≤4) then dU path h else (⟨[],[]⟩,false)
def ppV (path:List Box) (h:Hello):Hello:=(pp path h).1
def dZ (path:List Box) (h:Hello):Bool:=(pp path h).2
theorem yD:∀ (path:List Box) {h:Hello},h.Mid→(dU path h).1.Mid
 | [],_,m=>m
 | b::bs,h,m=>by
  unfold dU;split
  ·exact yD bs (lP m)
  ·exact ⟨by simp,by simp,by simp⟩
theorem iq {path:List Box} {h:Hello} (m:h.Mid):(ppV path h).Mid:=by
 unfold ppV pp;split
 ·exact yD path m
 ·exact ⟨by simp,by simp,by simp⟩
theorem t5:∀ (path:List Box) (h:Hello),(dU path h).2=true∨dU path h=(⟨[],[]⟩,false)
 | [],_=> .inl rfl
 | b::bs,h=>by
  unfold dU;split
  ·exact t5 bs _
  ·exact .inr rfl
theorem yF (path:List Box) (h:Hello):(pp path h).2=true∨pp path h=(⟨[],[]⟩,false):=by
 unfold pp;split
 ·exact t5 _ _
 ·exact .inr rfl
theorem Hy (path:List Box) (h:Hello) (pl:path.length≤1073741824) (pm:∀ y∈path,y.Mid) (mh:h.Mid) {f0 f1 f2:Fl} (q0:ac f0=true) (q1:ac f1=true) (q2:ac f2=true) (r:Ret) (rA:∀ z,pp path h=(z,true)→(⟨[aa (row fI z.versions) (row ab z.exts) (.ow false) (.ow false),B true],[],none⟩:Ret)=r) (rC:pp path h=(⟨[],[]⟩,false)→(⟨[aa [] [] .nl .nl,B false],[],none⟩:Ret)=r):
  fix Tb md 182 [R (row ar path) f0,aa (row fI h.versions) (row ab h.exts) f1 f2]=some r:=by
 have mh':=mh;unfold Hello.Mid at mh';have wh:∀ y∈h.exts,y.body.length≤1099511627776:=fun y hy=>Nat.le_trans (show y.body.length≤1073741824 from mh'.2.2 y hy) (by decide)
 obtain ⟨T,hT⟩:=nm (dU path h)
 obtain ⟨u,hu⟩:=nm (aC h)
 obtain ⟨k4,hk4⟩:=nm (decide (path.length≤4))
 have hp:pp path h=if (u&&k4)=true then T else (⟨[],[]⟩,false):=by rw[hu,hk4,hT];rfl
 rw[hp] at rA rC;clear hp;obtain ⟨ep,hep⟩:=nm (row ar path)
 obtain ⟨dv,hdv⟩:=nm (row fI h.versions)
 obtain ⟨dx,hdx⟩:=nm (row ab h.exts)
 rw[←hep,←hdv,←hdx];refine cJ (fn:=ir182) tb_182 rfl rfl (by decide) rfl ?_;intro Q hQ;simp only[aj,aV,List.map_cons,List.map_nil,ir182,ai q0,ai q1,ai q2,List.head?_nil,reduceCtorEq,if_false,cb,aa,ae,bp,al,aG,af,aH]
 intro add sub mul arith eq ne lt le gt ge neg conv mn mx not beq len at' ln bd cut app allS isNil mks set o hP F ho;have lp:=F.len_at hep;have c1:o 113 [aa dv dx (.sp 0 0) (.sp 0 1)]=some ⟨[B u],[],none⟩:=by rw[ho,hu,hdv,hdx];exact gu _ (by omega) (by omega) wh rfl rfl
 have g1:gt (len ep) 4=not k4:=by rw[F.gt_n lp (k:=4) (m:=4) rfl,F.not,hk4,Bool.eq_iff_iff];simp only[decide_eq_true_eq,Bool.not_eq_true',decide_eq_false_iff_not];omega
 have c2:o 261 [aa dv dx (.sp 0 0) (.sp 0 1)]=some ⟨[aa dv dx (.ow false) (.ow false)],[],none⟩:=by rw[ho,hdv,hdx];exact EB h mh rfl rfl
 cbv;rw[c1];cbv;refine both (fun d1=>?_) (fun d1=>?_)<;>rw[d1]<;>cbv
 ·rw[hQ];cbv;exact congrArg some (rC (by rw[F.not_t d1];rfl))
 rw[g1];cbv;refine both (fun d2=>?_) (fun d2=>?_)<;>rw[d2]<;>cbv
 ·rw[hQ];cbv;exact congrArg some (rC (by rw[F.not_t d2,Bool.and_false];rfl))
 rw[F.not_f d1,F.not_f d2,Bool.true_and,if_pos rfl] at rA rC;rw[c2];cbv;refine ah hP (σ:=List Box×List Box×Int×Option (Hello×List (List V)×List (List V))) (fun s=>match s.2.2.2 with
   | none=>[(0,R ep .sh),(1,aa dv dx .sh .sh),(3,⟨.ptr 43 0,[]⟩),(4,⟨.ptr 44 0,[]⟩),(5,B false),(6,⟨.ptr 46 0,[]⟩),(7,B false),(8,I s.2.2.1),(43,⟨.box (),[⟨.row () dv, .sh⟩,⟨.row () dx, .sh⟩]⟩),(44,⟨.box (),[⟨.row () [], .nl⟩,⟨.row () [], .nl⟩]⟩),(46,⟨.box (),[⟨.row () [], .nl⟩,⟨.row () [], .nl⟩]⟩)]
   | some j=>[(0,R ep .sh),(1,aa dv dx .sh .sh),(3,⟨.ptr 43 0,[]⟩),(4,⟨.ptr 44 0,[]⟩),(5,B false),(6,⟨.ptr 46 0,[]⟩),(7,B true),(8,I s.2.2.1),(43,⟨.box (),[⟨.row () dv, .sh⟩,⟨.row () dx, .sh⟩]⟩),(44,⟨.box (),[⟨.row () [], .nl⟩,⟨.row () [], .nl⟩]⟩),(46,⟨.box (),[⟨.row () j.2.1, .ow false⟩,⟨.row () j.2.2, .ow false⟩]⟩)]) (fun s=>At s.2.2.1 s.2.1.length∧path=s.2.1++s.1∧(match s.2.2.2 with | none=>T=(⟨[],[]⟩,false) | some j=>dU s.1 j.1=T∧j.1.Mid∧j.2.1=row fI j.1.versions∧j.2.2=row ab j.1.exts)) (fun s=>s.1.length) (path,[],0,some (h,dv,dx)) rfl ⟨rfl,rfl,hT.symm,mh,hdv,hdx⟩ ?_
 intro c9 Q1 hc9 hQ1;rintro ⟨suf,pre,i,e⟩ ⟨hi,hl',hz⟩ ih
 simp only at hi hl' hz ih;cases e with
 | none=>
  cbv;cases suf with
  | nil=>
   rw[F.lt_f hi lp (by simp[hl'])];cbv
   rw[hQ1];cbv;rw[hQ];cbv;exact congrArg some (rC hz)
  | cons x suf=>
   rw[F.lt_t hi lp (by simp[hl'])];cbv
   rw[hQ1];cbv;rw[hQ];cbv;exact congrArg some (rC hz)
 | some j=>
  obtain ⟨cur,ev,ex⟩:=j
  obtain ⟨z1,z2,z3,z4⟩:=hz
  simp only at z1 z2 z3 z4;have z2':=z2;unfold Hello.Mid at z2';cases suf with
  | nil=>
   cbv;rw[F.lt_f hi lp (by simp[hl'])];cbv
   rw[hQ1];cbv;rw[hQ];cbv;rw[z3,z4];exact congrArg some (rA cur (by rw[←z1];rfl))
  | cons x suf=>
   obtain ⟨ix,hix⟩:=nm (pre.length * 4)
   obtain ⟨e1,he1⟩:=nm (row fI x.drops)
   obtain ⟨e2,he2⟩:=nm (row fI x.strips)
   have hx:=pm x (by rw[hl'];simp)
   unfold Box.Mid at hx;have hi':At (add .i64 i 1) (pre++[x]).length:=ao (F.inc hi (by rw[hl'] at pl;simp at pl;omega)) (by simp)
   have hl2:path=(pre++[x])++suf:=by rw[hl'];simp
   have p0:at' 4 ep i=some (ix,[.int .i64 x.limit, .row () e1, .row () e2, .bool x.lists]):=by rw[hix,he1,he2];exact F.get hi hep hl' (fun _=>rfl) (by decide)
   cases hok:fS x cur with
   | true=>
    obtain ⟨nx,hnx⟩:=nm (row ab (sel (bv x.strips) idE cur.exts))
    have hV:pbV x cur=⟨cur.versions,sel (bv x.strips) idE cur.exts⟩:=by rw[pbV,hok];rfl
    have c3:o 174 [aG x.limit e1 e2 x.lists (.sp 0 1) (.sp 0 2),aa ev ex (.sp 1 0) (.sp 1 1)]=some ⟨[aa ev nx (.ow false) (.ow false),B true],[],none⟩:=by
     rw[ho,he1,he2,z3,z4,hnx];exact qG x cur (by omega) (by omega) z2 rfl rfl rfl rfl _ (fun _=>rfl) (fun q=>by rw[hok] at q;cases q)
    cbv;rw[F.lt_t hi lp (by simp[hl'])];cbv
    rw[p0];cbv;rw[c3];cbv;refine ih (suf,pre++[x],add .i64 i 1,some (pbV x cur,ev,nx)) ⟨hi',hl2,?_,lP z2,?_,?_⟩ (by simp)
    ·simp only;rw[←z1,dU,hok,if_pos rfl]
    ·simp only;rw[hV,z3]
    ·simp only;rw[hV,hnx]
   | false=>
    have c3:o 174 [aG x.limit e1 e2 x.lists (.sp 0 1) (.sp 0 2),aa ev ex (.sp 1 0) (.sp 1 1)]=some ⟨[aa [] [] .nl .nl,B false],[],none⟩:=by
     rw[ho,he1,he2,z3,z4];exact qG x cur (by omega) (by omega) z2 rfl rfl rfl rfl _ (fun q=>by rw[hok] at q;cases q) (fun _=>rfl)
    cbv;rw[F.lt_t hi lp (by simp[hl'])];cbv
    rw[p0];cbv;rw[c3];cbv;refine ih (suf,pre++[x],add .i64 i 1,none) ⟨hi',hl2,?_⟩ (by simp)
    simp only;rw[←z1,dU,hok];rfl
theorem tT (path:List Box) (h:Hello) (pl:path.length≤1073741824) (pm:∀ y∈path,y.Mid) (mh:h.Mid) {f0 f1 f2:Fl} (q0:ac f0=true) (q1:ac f1=true) (q2:ac f2=true):
  fix Tb md 182 [R (row ar path) f0,aa (row fI h.versions) (row ab h.exts) f1 f2]=some ⟨[aa (row fI (ppV path h).versions) (row ab (ppV path h).exts) (.ow false) (.ow false),B (dZ path h)],[],none⟩∨
  ((ppV path h).versions=[]∧(ppV path h).exts=[]∧fix Tb md 182 [R (row ar path) f0,aa (row fI h.versions) (row ab h.exts) f1 f2]=some ⟨[aa [] [] .nl .nl,B (dZ path h)],[],none⟩):=by
 have hmain:=fun r a c=>Hy path h pl pm mh q0 q1 q2 r a c
 unfold ppV dZ;rcases hq:pp path h with ⟨z,k⟩
 rcases yF path h with h1 | h1
 ·rw[hq] at h1;simp only at h1;subst h1;exact .inl (hmain _ (fun z' q=>by rw[hq] at q;cases q;rfl) (fun q=>by rw[hq] at q;cases q))
 ·rw[hq] at h1;cases h1
  exact .inr ⟨rfl,rfl,hmain _ (fun z' q=>by rw[hq] at q;cases q) (fun _=>rfl)⟩
def pw (h:Hello) (path:List Box):Bool:=dZ path h&&decide (ppV path h=h)
theorem yu (h:Hello) (path:List Box) (mh:h.Mid) (pl:path.length≤1073741824) (pm:∀ y∈path,y.Mid) {f0 f1 f2:Fl} (q0:ac f0=true) (q1:ac f1=true) (q2:ac f2=true):fix Tb md 185 [aa (row fI h.versions) (row ab h.exts) f0 f1,R (row ar path) f2]=some ⟨[B (pw h path)],[],none⟩:=by
 obtain ⟨w,hw⟩:=nm (dZ path h)
 obtain ⟨v,hv⟩:=nm (decide (ppV path h=h))
 rw[show pw h path=(w&&v) by rw[hw,hv];rfl]
 generalize hr:(⟨_,[],none⟩:Ret)=r
 have vm:(ppV path h).Mid:=iq mh;unfold Hello.Mid at vm;have vm1:(ppV path h).versions.length≤1099511627776:=by omega
 have vm2:(ppV path h).exts.length≤1099511627776:=by omega
 have vm3:∀ y∈(ppV path h).exts,y.body.length≤1099511627776:=fun y hy=>Nat.le_trans (show y.body.length≤1073741824 from vm.2.2 y hy) (by decide)
 have hk:=tT path h pl pm mh (f0:= .sp 0 0) (f1:= .sp 1 0) (f2:= .sp 1 1) rfl rfl rfl;rw[←hw] at hk;obtain ⟨ep,hep⟩:=nm (row ar path)
 obtain ⟨ev,hev⟩:=nm (row fI h.versions)
 obtain ⟨ex,hex⟩:=nm (row ab h.exts)
 obtain ⟨V1,hV1⟩:=nm (row fI (ppV path h).versions)
 obtain ⟨X1,hX1⟩:=nm (row ab (ppV path h).exts)
 rw[←hep,←hev,←hex,←hV1,←hX1] at hk;rw[←hep,←hev,←hex];refine cJ (fn:=ir185) tb_185 rfl rfl (by decide) rfl ?_;intro Q hQ;simp only[aj,aV,List.map_cons,List.map_nil,ir185,ai q0,ai q1,ai q2,List.head?_nil,reduceCtorEq,if_false,cb,aa,ae,bp,al,aG,af,aH]
 intro add sub mul arith eq ne lt le gt ge neg conv mn mx not beq len at' ln bd cut app allS isNil mks set o hP F ho;cbv;rcases hk with hk | ⟨n1,n2,hk⟩
 ·have c3:o 182 [R ep (.sp 0 0),aa ev ex (.sp 1 0) (.sp 1 1)]=some ⟨[aa V1 X1 (.ow false) (.ow false),B w],[],none⟩:=by rw[ho];exact hk
  have c4:o 131 [aa V1 X1 (.sp 0 0) (.sp 0 1),aa ev ex (.sp 1 0) (.sp 1 1)]=some ⟨[B v],[],none⟩:=by
   have h9:=pG (ppV path h) h vm1 vm2 vm3 (f0:= .sp 0 0) (f1:= .sp 0 1) (g0:= .sp 1 0) (g1:= .sp 1 1) rfl rfl rfl rfl;rw[←hV1,←hX1,←hv,←hev,←hex] at h9;rw[ho];exact h9
  rw[c3];cbv;refine both (fun d=>?_) (fun d=>?_)<;>rw[d]<;>cbv
  ·rw[c4];cbv;rw[hQ];cbv;rw[←hr,d];rfl
  ·rw[hQ];cbv;rw[←hr,d];rfl
 ·have c3:o 182 [R ep (.sp 0 0),aa ev ex (.sp 1 0) (.sp 1 1)]=some ⟨[aa [] [] (.nl) (.nl),B w],[],none⟩:=by rw[ho];exact hk
  have c4:o 131 [aa [] [] (.nl) (.nl),aa ev ex (.sp 1 0) (.sp 1 1)]=some ⟨[B v],[],none⟩:=by
   have h9:=pG (ppV path h) h vm1 vm2 vm3 (f0:= .nl) (f1:= .nl) (g0:= .sp 1 0) (g1:= .sp 1 1) rfl rfl rfl rfl;rw[n1,n2,show row fI ([]:List Int)=[] from rfl,show row ab ([]:List Ext)=[] from rfl,←hv,←hev,←hex] at h9
   rw[ho];exact h9
  rw[c3];cbv;refine both (fun d=>?_) (fun d=>?_)<;>rw[d]<;>cbv
  ·rw[c4];cbv;rw[hQ];cbv;rw[←hr,d];rfl
  ·rw[hQ];cbv;rw[←hr,d];rfl
def kW (b:List Int) (e:Ext):Bool:=bq b e.tag
theorem GZ (l:List Ext) (b:List Int) (hl:l.length≤1073741824) (hb':b.length≤1073741824) (w:∀ y∈l,y.body.length≤1099511627776) {f0 f1:Fl} (h0:ac f0=true) (h1:ac f1=true):fix Tb md 307 [R (row ab l) f0,R (row fI b) f1]=some ⟨[R (row ab (sel (kW b) idE l)) (.ow false)],[],none⟩:=by
 obtain ⟨et,het⟩:=nm (row ab (sel (kW b) idE l))
 rw[←het];generalize hr:(⟨_,[],none⟩:Ret)=r
 obtain ⟨ea,hea⟩:=nm (row ab l)
 obtain ⟨eb,heb⟩:=nm (row fI b)
 rw[←hea,←heb];refine cJ (fn:=ir307) tb_307 rfl rfl (by decide) rfl ?_;intro Q hQ;simp only[aj,aV,List.map_cons,List.map_nil,ir307,ai h0,ai h1,List.head?_nil,reduceCtorEq,if_false,cb,aa,ae,bp,al,aG,af,aH]
 intro add sub mul arith eq ne lt le gt ge neg conv mn mx not beq len at' ln bd cut app allS isNil mks set o hP F ho;have la:=F.len_at hea;cbv;refine ah hP (σ:=List Ext×List Ext×List (List V)×Int) (fun s=>[(0,R ea .sh),(1,R eb .sh),(4,R [] .nl),(5,R s.2.2.1 (.ow false)),(6,I s.2.2.2)]) (fun s=>At s.2.2.2 s.2.1.length∧l=s.2.1++s.1∧s.2.2.1=row ab (sel (kW b) idE s.2.1)) (fun s=>s.1.length) (l,[],[],0) rfl ⟨rfl,rfl,rfl⟩ ?_
 intro c1 Q1 hc1 hQ1;rintro ⟨suf,pre,eo,i⟩ ⟨hi,hl',hb⟩ ih
 simp only at hi hl' hb ih;cbv;cases suf with
 | nil=>
  rw[F.lt_f hi la (by simp[hl'])];cbv
  rw[hQ1];cbv;rw[hQ];cbv;rw[←hr,het,hb,hl',List.append_nil]
 | cons x suf=>
  obtain ⟨ix,hix⟩:=nm (pre.length * 2)
  have hpre:pre.length≤1073741824:=by rw[hl'] at hl;simp at hl;omega
  have hs:(sel (kW b) idE pre).length≤pre.length:=aI;have hi':At (add .i64 i 1) (pre++[x]).length:=ao (F.inc hi (by omega)) (by simp)
  have hl2:l=(pre++[x])++suf:=by rw[hl'];simp
  have hmem:x∈l:=by rw[hl'];simp
  obtain ⟨e1,he1⟩:=nm (row fI x.body)
  have hx:=w x hmem;have p0:at' 2 ea i=some (ix,[.int .i64 x.tag, .row () e1]):=by rw[hix,he1];exact F.get hi hea hl' (fun _=>rfl) (by decide)
  obtain ⟨v,hv⟩:=nm (kW b x)
  have c2:o 285 [R eb (.sp 0 0),I x.tag]=some ⟨[B v],[],none⟩:=by rw[ho,hv,heb];exact jD _ _ (by omega) rfl
  rw[F.lt_t hi la (by simp[hl'])];cbv
  rw[p0];cbv;rw[c2];cbv;refine both (fun d=>?_) (fun d=>?_)<;>rw[d]<;>cbv
  ·rw[p0];cbv;rw[p0];cbv;rw[show allS e1=true from F.scal he1 (fun _=>rfl)];cbv
   rw[F.app_nil he1 (fun _=>rfl) hx];cbv
   rw[show allS [[.int .i64 x.tag, .row () e1]]=false by rw[F.allS];rfl];cbv
   obtain ⟨eo',heo'⟩:=nm (row ab (sel (kW b) idE pre++[idE x]))
   rw[show app 2 eo [[.int .i64 x.tag, .row () e1]]=some eo' by rw[heo',he1];exact F.push hb (fun _=>rfl) rfl (by omega)];cbv
   refine ih (suf,pre++[x],eo',add .i64 i 1) ⟨hi',hl2,by simp only;rw[heo',dz (by rw[←hv,d])]⟩ (by simp)
  ·refine ih (suf,pre++[x],eo,add .i64 i 1) ⟨hi',hl2,by simp only;rw[hb,d6 (by rw[←hv,d])]⟩ (by simp)
end Go.Vm
