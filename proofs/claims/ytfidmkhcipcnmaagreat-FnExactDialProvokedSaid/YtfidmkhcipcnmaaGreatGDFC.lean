/- What the functions answer. -/
import Derived.Test.YtfidmkhcipcnmaaGreatGDTab
import Derived.Test.YtfidmkhcipcnmaaGreatGDFA
import Derived.Test.YtfidmkhcipcnmaaGreatGDFB
set_option maxHeartbeats 4000000
set_option maxRecDepth 10000
set_option linter.unusedVariables false
set_option linter.unusedSimpArgs false
namespace Go.Vm
theorem FU (g:Nat) (hg:md g=[]) (p:Int→Bool) (l:List Int) (hl:l.length≤1099511627776) (hp:∀ x∈l,fix Tb md g [I x]=some ⟨[B (p x)],[],none⟩) {f0:Fl} (h0:ac f0=true):
  fix Tb md 377 [R (row fI l) f0,⟨.val,[⟨.fn g [], .sh⟩]⟩]=some ⟨[I (bz p l 0)],[],none⟩:=by
 generalize hm:md=m at hg hp ⊢
 refine bB (fn:=ir377) tb_377 rfl rfl (by decide) rfl ?_;simp only[aj,aV,List.map_cons,List.map_nil,ir377,ai h0,List.head?_nil,reduceCtorEq,if_false,cb,aa,ae,bp,al,aG,af,aH]
 generalize hr:(⟨_,[],none⟩:Ret)=r
 obtain ⟨ea,hea⟩:=nm (row fI l)
 rw[←hea];intro add sub mul arith eq ne lt le gt ge neg conv mn mx not beq len at' ln bd cut app allS isNil mks set o hP F ho;have la:=F.len_at hea;cbv;refine aJ hP (σ:=List Int×List Int×Int×Option Int) (fun s=>match s.2.2.2 with | none=>[(0,R ea .sh),(1,⟨.val,[⟨.fn g [], .sh⟩]⟩),(4,I 0),(7,I (len ea)),(8,I s.2.2.1)] | some j=>[(0,R ea .sh),(1,⟨.val,[⟨.fn g [], .sh⟩]⟩),(4,I 0),(5,I j),(7,I (len ea)),(8,I s.2.2.1)])
  (fun s=>At s.2.2.1 s.2.1.length∧l=s.2.1++s.1∧bz p s.1 (s.2.1.length:Int)=bz p l 0) (fun s=>s.1.length) (l,[],0,none) rfl ⟨rfl,rfl,rfl⟩ ?_
 rintro ⟨suf,pre,i,j⟩ ⟨hi,hl',hx⟩ ih
 simp only at hi hl' hx ih;have hi':i=(pre.length:Int):=hi;rw[←hi'] at hx;cases j<;>cbv<;>(
  cases suf with
  | nil=>
   rw[F.lt_f hi la (by simp[hl'])];cbv
   rw[←hr,←hx];rfl
  | cons x suf=>
   rw[F.lt_t hi la (by simp[hl'])];cbv
   obtain ⟨ix,hix⟩:=nm (pre.length * 1)
   rw[show at' 1 ea i=some (ix,[.int .i64 x]) by rw[hix];exact F.get hi hea hl' (fun _=>rfl) (by decide)];cbv
   obtain ⟨v,hv⟩:=nm (p x)
   have c1:o g [I x]=some ⟨[B v],[],none⟩:=by rw[ho,hv];exact hp x (by rw[hl'];simp)
   rw[hg];cbv;rw[c1];cbv;have hx1:bz p (x::suf) i=if p x=true then i else bz p suf (i+1):=rfl
   rw[hx1] at hx;refine both (fun c=>?_) (fun c=>?_)<;>rw[c]<;>cbv
   ·rw[←hv,if_pos c] at hx;rw[←hr,←hx]
   ·rw[←hv,if_neg (by simp[c])] at hx
    refine ih (suf,pre++[x],add .i64 i 1,some i) ⟨ao (F.inc hi (by simp[hl'] at hl;omega)) (by simp),by simp[hl'],?_⟩ (by simp)
    rw[←hx,hi'];simp)
theorem FV (g:Nat) (hg:md g=[]) (k0:V) (p:Int→Bool) (l:List Int) (hl:l.length≤1099511627776) (hp:∀ x∈l,fix Tb md g [I x,⟨.val,[⟨k0, .sh⟩]⟩]=some ⟨[B (p x)],[],none⟩) {f0:Fl} (h0:ac f0=true):
  fix Tb md 377 [R (row fI l) f0,⟨.val,[⟨.fn g [k0], .sh⟩]⟩]=some ⟨[I (bz p l 0)],[],none⟩:=by
 generalize hm:md=m at hg hp ⊢
 refine bB (fn:=ir377) tb_377 rfl rfl (by decide) rfl ?_;simp only[aj,aV,List.map_cons,List.map_nil,ir377,ai h0,List.head?_nil,reduceCtorEq,if_false,cb,aa,ae,bp,al,aG,af,aH]
 generalize hr:(⟨_,[],none⟩:Ret)=r
 obtain ⟨ea,hea⟩:=nm (row fI l)
 rw[←hea];intro add sub mul arith eq ne lt le gt ge neg conv mn mx not beq len at' ln bd cut app allS isNil mks set o hP F ho;have la:=F.len_at hea;cbv;refine aJ hP (σ:=List Int×List Int×Int×Option Int) (fun s=>match s.2.2.2 with | none=>[(0,R ea .sh),(1,⟨.val,[⟨.fn g [k0], .sh⟩]⟩),(4,I 0),(7,I (len ea)),(8,I s.2.2.1)] | some j=>[(0,R ea .sh),(1,⟨.val,[⟨.fn g [k0], .sh⟩]⟩),(4,I 0),(5,I j),(7,I (len ea)),(8,I s.2.2.1)])
  (fun s=>At s.2.2.1 s.2.1.length∧l=s.2.1++s.1∧bz p s.1 (s.2.1.length:Int)=bz p l 0) (fun s=>s.1.length) (l,[],0,none) rfl ⟨rfl,rfl,rfl⟩ ?_
 rintro ⟨suf,pre,i,j⟩ ⟨hi,hl',hx⟩ ih
 simp only at hi hl' hx ih;have hi':i=(pre.length:Int):=hi;rw[←hi'] at hx;cases j<;>cbv<;>(
  cases suf with
  | nil=>
   rw[F.lt_f hi la (by simp[hl'])];cbv
   rw[←hr,←hx];rfl
  | cons x suf=>
   rw[F.lt_t hi la (by simp[hl'])];cbv
   obtain ⟨ix,hix⟩:=nm (pre.length * 1)
   rw[show at' 1 ea i=some (ix,[.int .i64 x]) by rw[hix];exact F.get hi hea hl' (fun _=>rfl) (by decide)];cbv
   obtain ⟨v,hv⟩:=nm (p x)
   have c1:o g [I x,⟨.val,[⟨k0, .sh⟩]⟩]=some ⟨[B v],[],none⟩:=by rw[ho,hv];exact hp x (by rw[hl'];simp)
   rw[hg];cbv;rw[c1];cbv;have hx1:bz p (x::suf) i=if p x=true then i else bz p suf (i+1):=rfl
   rw[hx1] at hx;refine both (fun c=>?_) (fun c=>?_)<;>rw[c]<;>cbv
   ·rw[←hv,if_pos c] at hx;rw[←hr,←hx]
   ·rw[←hv,if_neg (by simp[c])] at hx
    refine ih (suf,pre++[x],add .i64 i 1,some i) ⟨ao (F.inc hi (by simp[hl'] at hl;omega)) (by simp),by simp[hl'],?_⟩ (by simp)
    rw[←hx,hi'];simp)
theorem FW (g:Nat) (hg:md g=[]) (k0 k1:V) (p:Int→Bool) (l:List Int) (hl:l.length≤1099511627776) (hp:∀ x∈l,fix Tb md g [I x,⟨.val,[⟨k0, .sh⟩]⟩,⟨.val,[⟨k1, .sh⟩]⟩]=some ⟨[B (p x)],[],none⟩) {f0:Fl} (h0:ac f0=true):
  fix Tb md 377 [R (row fI l) f0,⟨.val,[⟨.fn g [k0,k1], .sh⟩]⟩]=some ⟨[I (bz p l 0)],[],none⟩:=by
 generalize hm:md=m at hg hp ⊢
 refine bB (fn:=ir377) tb_377 rfl rfl (by decide) rfl ?_;simp only[aj,aV,List.map_cons,List.map_nil,ir377,ai h0,List.head?_nil,reduceCtorEq,if_false,cb,aa,ae,bp,al,aG,af,aH]
 generalize hr:(⟨_,[],none⟩:Ret)=r
 obtain ⟨ea,hea⟩:=nm (row fI l)
 rw[←hea];intro add sub mul arith eq ne lt le gt ge neg conv mn mx not beq len at' ln bd cut app allS isNil mks set o hP F ho;have la:=F.len_at hea;cbv;refine aJ hP (σ:=List Int×List Int×Int×Option Int) (fun s=>match s.2.2.2 with | none=>[(0,R ea .sh),(1,⟨.val,[⟨.fn g [k0,k1], .sh⟩]⟩),(4,I 0),(7,I (len ea)),(8,I s.2.2.1)] | some j=>[(0,R ea .sh),(1,⟨.val,[⟨.fn g [k0,k1], .sh⟩]⟩),(4,I 0),(5,I j),(7,I (len ea)),(8,I s.2.2.1)])
  (fun s=>At s.2.2.1 s.2.1.length∧l=s.2.1++s.1∧bz p s.1 (s.2.1.length:Int)=bz p l 0) (fun s=>s.1.length) (l,[],0,none) rfl ⟨rfl,rfl,rfl⟩ ?_
 rintro ⟨suf,pre,i,j⟩ ⟨hi,hl',hx⟩ ih
 simp only at hi hl' hx ih;have hi':i=(pre.length:Int):=hi;rw[←hi'] at hx;cases j<;>cbv<;>(
  cases suf with
  | nil=>
   rw[F.lt_f hi la (by simp[hl'])];cbv
   rw[←hr,←hx];rfl
  | cons x suf=>
   rw[F.lt_t hi la (by simp[hl'])];cbv
   obtain ⟨ix,hix⟩:=nm (pre.length * 1)
   rw[show at' 1 ea i=some (ix,[.int .i64 x]) by rw[hix];exact F.get hi hea hl' (fun _=>rfl) (by decide)];cbv
   obtain ⟨v,hv⟩:=nm (p x)
   have c1:o g [I x,⟨.val,[⟨k0, .sh⟩]⟩,⟨.val,[⟨k1, .sh⟩]⟩]=some ⟨[B v],[],none⟩:=by rw[ho,hv];exact hp x (by rw[hl'];simp)
   rw[hg];cbv;rw[c1];cbv;have hx1:bz p (x::suf) i=if p x=true then i else bz p suf (i+1):=rfl
   rw[hx1] at hx;refine both (fun c=>?_) (fun c=>?_)<;>rw[c]<;>cbv
   ·rw[←hv,if_pos c] at hx;rw[←hr,←hx]
   ·rw[←hv,if_neg (by simp[c])] at hx
    refine ih (suf,pre++[x],add .i64 i 1,some i) ⟨ao (F.inc hi (by simp[hl'] at hl;omega)) (by simp),by simp[hl'],?_⟩ (by simp)
    rw[←hx,hi'];simp)
theorem FJ (g:Nat) (hg:md g=[]) (p:Int→Bool) (l:List Int) (hl:l.length≤1099511627776) (hp:∀ x∈l,fix Tb md g [I x]=some ⟨[B (p x)],[],none⟩) {f0:Fl} (h0:ac f0=true):
  fix Tb md 336 [R (row fI l) f0,⟨.val,[⟨.fn g [], .sh⟩]⟩]=some ⟨[B (l.any p)],[],none⟩:=by
 refine bB (fn:=ir336) tb_336 rfl rfl (by decide) rfl ?_;simp only[aj,aV,List.map_cons,List.map_nil,ir336,ai h0,List.head?_nil,reduceCtorEq,if_false,cb,aa,ae,bp,al,aG,af,aH]
 generalize hr:(⟨_,[],none⟩:Ret)=r
 obtain ⟨ea,hea⟩:=nm (row fI l)
 rw[←hea];obtain ⟨v,hv⟩:=nm (bz p l 0)
 have hv2:decide (0≤v)=l.any p:=by rw[hv];exact d8 p l 0 (by decide)
 rw[←hv2] at hr;clear hv2;intro add sub mul arith eq ne lt le gt ge neg conv mn mx not beq len at' ln bd cut app allS isNil mks set o hP F ho;have c1:o 377 [R ea (.sp 0 0),⟨.val,[⟨.fn g [], .sh⟩]⟩]=some ⟨[I v],[],none⟩:=by rw[ho,hv,hea];exact FU g hg p l hl hp rfl
 cbv;rw[c1];cbv;rw[←hr,F.ge]
theorem Kg (g:Nat) (hg:md g=[]) (k0:V) (p:Int→Bool) (l:List Int) (hl:l.length≤1099511627776) (hp:∀ x∈l,fix Tb md g [I x,⟨.val,[⟨k0, .sh⟩]⟩]=some ⟨[B (p x)],[],none⟩) {f0:Fl} (h0:ac f0=true):
  fix Tb md 336 [R (row fI l) f0,⟨.val,[⟨.fn g [k0], .sh⟩]⟩]=some ⟨[B (l.any p)],[],none⟩:=by
 refine bB (fn:=ir336) tb_336 rfl rfl (by decide) rfl ?_;simp only[aj,aV,List.map_cons,List.map_nil,ir336,ai h0,List.head?_nil,reduceCtorEq,if_false,cb,aa,ae,bp,al,aG,af,aH]
 generalize hr:(⟨_,[],none⟩:Ret)=r
 obtain ⟨ea,hea⟩:=nm (row fI l)
 rw[←hea];obtain ⟨v,hv⟩:=nm (bz p l 0)
 have hv2:decide (0≤v)=l.any p:=by rw[hv];exact d8 p l 0 (by decide)
 rw[←hv2] at hr;clear hv2;intro add sub mul arith eq ne lt le gt ge neg conv mn mx not beq len at' ln bd cut app allS isNil mks set o hP F ho;have c1:o 377 [R ea (.sp 0 0),⟨.val,[⟨.fn g [k0], .sh⟩]⟩]=some ⟨[I v],[],none⟩:=by rw[ho,hv,hea];exact FV g hg k0 p l hl hp rfl
 cbv;rw[c1];cbv;rw[←hr,F.ge]
theorem FK (g:Nat) (hg:md g=[]) (k0 k1:V) (p:Int→Bool) (l:List Int) (hl:l.length≤1099511627776) (hp:∀ x∈l,fix Tb md g [I x,⟨.val,[⟨k0, .sh⟩]⟩,⟨.val,[⟨k1, .sh⟩]⟩]=some ⟨[B (p x)],[],none⟩) {f0:Fl} (h0:ac f0=true):
  fix Tb md 336 [R (row fI l) f0,⟨.val,[⟨.fn g [k0,k1], .sh⟩]⟩]=some ⟨[B (l.any p)],[],none⟩:=by
 refine bB (fn:=ir336) tb_336 rfl rfl (by decide) rfl ?_;simp only[aj,aV,List.map_cons,List.map_nil,ir336,ai h0,List.head?_nil,reduceCtorEq,if_false,cb,aa,ae,bp,al,aG,af,aH]
 generalize hr:(⟨_,[],none⟩:Ret)=r
 obtain ⟨ea,hea⟩:=nm (row fI l)
 rw[←hea];obtain ⟨v,hv⟩:=nm (bz p l 0)
 have hv2:decide (0≤v)=l.any p:=by rw[hv];exact d8 p l 0 (by decide)
 rw[←hv2] at hr;clear hv2;intro add sub mul arith eq ne lt le gt ge neg conv mn mx not beq len at' ln bd cut app allS isNil mks set o hP F ho;have c1:o 377 [R ea (.sp 0 0),⟨.val,[⟨.fn g [k0,k1], .sh⟩]⟩]=some ⟨[I v],[],none⟩:=by rw[ho,hv,hea];exact FW g hg k0 k1 p l hl hp rfl
 cbv;rw[c1];cbv;rw[←hr,F.ge]
theorem JG (x lo hi:Int):fix Tb md 340 [I x,⟨.val,[⟨.ptr () [.int .i64 lo], .sh⟩]⟩,⟨.val,[⟨.ptr () [.int .i64 hi], .sh⟩]⟩]=some ⟨[B (!inR x lo hi)],[],none⟩:=by
 refine bB (fn:=ir340) tb_340 rfl rfl (by decide) rfl ?_;simp only[aj,aV,List.map_cons,List.map_nil,ir340,List.head?_nil,reduceCtorEq,if_false,cb,aa,ae,bp,al,aG,af,aH]
 generalize hr:(⟨_,[],none⟩:Ret)=r
 obtain ⟨v,hv⟩:=nm (inR x lo hi)
 rw[←hv] at hr;intro add sub mul arith eq ne lt le gt ge neg conv mn mx not beq len at' ln bd cut app allS isNil mks set o hP F ho;have c1:o 232 [I x,I lo,I hi]=some ⟨[B v],[],none⟩:=by rw[ho,hv];exact fF ..
 cbv;rw[c1];cbv;rw[←hr,F.not]
def tO (l:List Int) (lo hi:Int):Bool:=l.all fun x=>inR x lo hi
theorem yx (l:List Int) (lo hi:Int) (hl:l.length≤1099511627776) {f0:Fl} (h0:ac f0=true):fix Tb md 233 [R (row fI l) f0,I lo,I hi]=some ⟨[B (tO l lo hi)],[],none⟩:=by
 rw[show tO l lo hi= !(l.any fun x=> !inR x lo hi) by unfold tO;simp[List.all_eq_not_any_not]]
 refine bB (fn:=ir233) tb_233 rfl rfl (by decide) rfl ?_;simp only[aj,aV,List.map_cons,List.map_nil,ir233,ai h0,List.head?_nil,reduceCtorEq,if_false,cb,aa,ae,bp,al,aG,af,aH]
 generalize hr:(⟨_,[],none⟩:Ret)=r
 obtain ⟨v,hv⟩:=nm (l.any fun x=> !inR x lo hi)
 obtain ⟨ea,hea⟩:=nm (row fI l)
 rw[←hv] at hr;rw[←hea];intro add sub mul arith eq ne lt le gt ge neg conv mn mx not beq len at' ln bd cut app allS isNil mks set o hP F ho;have c1:o 336 [R ea (.sp 0 0),⟨.val,[⟨.fn 340 [.ptr () [.int .i64 lo], .ptr () [.int .i64 hi]], .sh⟩]⟩]=some ⟨[B v],[],none⟩:=by rw[ho,hv,hea];exact FK 340 rfl _ _ _ l hl (fun x _=>JG x lo hi) rfl
 cbv;rw[c1];cbv;rw[←hr,F.not]
theorem FS (g:Nat) (hg:md g=[]) (p:Ext→Bool) (l:List Ext) (hl:l.length≤1099511627776) (hp:∀ x∈l,fix Tb md g [cb x.tag (row fI x.body) (.sp 0 1)]=some ⟨[B (p x)],[],none⟩) {f0:Fl} (h0:ac f0=true):
  fix Tb md 351 [R (row ab l) f0,⟨.val,[⟨.fn g [], .sh⟩]⟩]=some ⟨[I (bz p l 0)],[],none⟩:=by
 generalize hm:md=m at hg hp ⊢
 refine bB (fn:=ir351) tb_351 rfl rfl (by decide) rfl ?_;simp only[aj,aV,List.map_cons,List.map_nil,ir351,ai h0,List.head?_nil,reduceCtorEq,if_false,cb,aa,ae,bp,al,aG,af,aH]
 generalize hr:(⟨_,[],none⟩:Ret)=r
 obtain ⟨ea,hea⟩:=nm (row ab l)
 rw[←hea];intro add sub mul arith eq ne lt le gt ge neg conv mn mx not beq len at' ln bd cut app allS isNil mks set o hP F ho;have la:=F.len_at hea;cbv;refine aJ hP (σ:=List Ext×List Ext×Int×Option Int) (fun s=>match s.2.2.2 with | none=>[(0,R ea .sh),(1,⟨.val,[⟨.fn g [], .sh⟩]⟩),(4,I 0),(7,I (len ea)),(8,I s.2.2.1)] | some j=>[(0,R ea .sh),(1,⟨.val,[⟨.fn g [], .sh⟩]⟩),(4,I 0),(5,I j),(7,I (len ea)),(8,I s.2.2.1)])
  (fun s=>At s.2.2.1 s.2.1.length∧l=s.2.1++s.1∧bz p s.1 (s.2.1.length:Int)=bz p l 0) (fun s=>s.1.length) (l,[],0,none) rfl ⟨rfl,rfl,rfl⟩ ?_
 rintro ⟨suf,pre,i,j⟩ ⟨hi,hl',hx⟩ ih
 simp only at hi hl' hx ih;have hi':i=(pre.length:Int):=hi;rw[←hi'] at hx;cases j<;>cbv<;>(
  cases suf with
  | nil=>
   rw[F.lt_f hi la (by simp[hl'])];cbv
   rw[←hr,←hx];rfl
  | cons x suf=>
   rw[F.lt_t hi la (by simp[hl'])];cbv
   obtain ⟨e1,he1⟩:=nm (row fI x.body)
   obtain ⟨ix,hix⟩:=nm (pre.length * 2)
   rw[show at' 2 ea i=some (ix,[.int .i64 x.tag, .row () e1]) by rw[hix,he1];exact F.get hi hea hl' (fun _=>rfl) (by decide)];cbv
   obtain ⟨v,hv⟩:=nm (p x)
   have c1:o g [cb x.tag e1 (.sp 0 1)]=some ⟨[B v],[],none⟩:=by rw[ho,hv,he1];exact hp x (by rw[hl'];simp)
   rw[hg];cbv;rw[c1];cbv;have hx1:bz p (x::suf) i=if p x=true then i else bz p suf (i+1):=rfl
   rw[hx1] at hx;refine both (fun c=>?_) (fun c=>?_)<;>rw[c]<;>cbv
   ·rw[←hv,if_pos c] at hx;rw[←hr,←hx]
   ·rw[←hv,if_neg (by simp[c])] at hx
    refine ih (suf,pre++[x],add .i64 i 1,some i) ⟨ao (F.inc hi (by simp[hl'] at hl;omega)) (by simp),by simp[hl'],?_⟩ (by simp)
    rw[←hx,hi'];simp)
theorem BN (g:Nat) (hg:md g=[]) (k0:V) (p:Ext→Bool) (l:List Ext) (hl:l.length≤1099511627776) (hp:∀ x∈l,fix Tb md g [cb x.tag (row fI x.body) (.sp 0 1),⟨.val,[⟨k0, .sh⟩]⟩]=some ⟨[B (p x)],[],none⟩) {f0:Fl} (h0:ac f0=true):
  fix Tb md 351 [R (row ab l) f0,⟨.val,[⟨.fn g [k0], .sh⟩]⟩]=some ⟨[I (bz p l 0)],[],none⟩:=by
 generalize hm:md=m at hg hp ⊢
 refine bB (fn:=ir351) tb_351 rfl rfl (by decide) rfl ?_;simp only[aj,aV,List.map_cons,List.map_nil,ir351,ai h0,List.head?_nil,reduceCtorEq,if_false,cb,aa,ae,bp,al,aG,af,aH]
 generalize hr:(⟨_,[],none⟩:Ret)=r
 obtain ⟨ea,hea⟩:=nm (row ab l)
 rw[←hea];intro add sub mul arith eq ne lt le gt ge neg conv mn mx not beq len at' ln bd cut app allS isNil mks set o hP F ho;have la:=F.len_at hea;cbv;refine aJ hP (σ:=List Ext×List Ext×Int×Option Int) (fun s=>match s.2.2.2 with | none=>[(0,R ea .sh),(1,⟨.val,[⟨.fn g [k0], .sh⟩]⟩),(4,I 0),(7,I (len ea)),(8,I s.2.2.1)] | some j=>[(0,R ea .sh),(1,⟨.val,[⟨.fn g [k0], .sh⟩]⟩),(4,I 0),(5,I j),(7,I (len ea)),(8,I s.2.2.1)])
  (fun s=>At s.2.2.1 s.2.1.length∧l=s.2.1++s.1∧bz p s.1 (s.2.1.length:Int)=bz p l 0) (fun s=>s.1.length) (l,[],0,none) rfl ⟨rfl,rfl,rfl⟩ ?_
 rintro ⟨suf,pre,i,j⟩ ⟨hi,hl',hx⟩ ih
 simp only at hi hl' hx ih;have hi':i=(pre.length:Int):=hi;rw[←hi'] at hx;cases j<;>cbv<;>(
  cases suf with
  | nil=>
   rw[F.lt_f hi la (by simp[hl'])];cbv
   rw[←hr,←hx];rfl
  | cons x suf=>
   rw[F.lt_t hi la (by simp[hl'])];cbv
   obtain ⟨e1,he1⟩:=nm (row fI x.body)
   obtain ⟨ix,hix⟩:=nm (pre.length * 2)
   rw[show at' 2 ea i=some (ix,[.int .i64 x.tag, .row () e1]) by rw[hix,he1];exact F.get hi hea hl' (fun _=>rfl) (by decide)];cbv
   obtain ⟨v,hv⟩:=nm (p x)
   have c1:o g [cb x.tag e1 (.sp 0 1),⟨.val,[⟨k0, .sh⟩]⟩]=some ⟨[B v],[],none⟩:=by rw[ho,hv,he1];exact hp x (by rw[hl'];simp)
   rw[hg];cbv;rw[c1];cbv;have hx1:bz p (x::suf) i=if p x=true then i else bz p suf (i+1):=rfl
   rw[hx1] at hx;refine both (fun c=>?_) (fun c=>?_)<;>rw[c]<;>cbv
   ·rw[←hv,if_pos c] at hx;rw[←hr,←hx]
   ·rw[←hv,if_neg (by simp[c])] at hx
    refine ih (suf,pre++[x],add .i64 i 1,some i) ⟨ao (F.inc hi (by simp[hl'] at hl;omega)) (by simp),by simp[hl'],?_⟩ (by simp)
    rw[←hx,hi'];simp)
theorem FT (g:Nat) (hg:md g=[]) (k0 k1:V) (p:Ext→Bool) (l:List Ext) (hl:l.length≤1099511627776) (hp:∀ x∈l,fix Tb md g [cb x.tag (row fI x.body) (.sp 0 1),⟨.val,[⟨k0, .sh⟩]⟩,⟨.val,[⟨k1, .sh⟩]⟩]=some ⟨[B (p x)],[],none⟩) {f0:Fl} (h0:ac f0=true):
  fix Tb md 351 [R (row ab l) f0,⟨.val,[⟨.fn g [k0,k1], .sh⟩]⟩]=some ⟨[I (bz p l 0)],[],none⟩:=by
 generalize hm:md=m at hg hp ⊢
 refine bB (fn:=ir351) tb_351 rfl rfl (by decide) rfl ?_;simp only[aj,aV,List.map_cons,List.map_nil,ir351,ai h0,List.head?_nil,reduceCtorEq,if_false,cb,aa,ae,bp,al,aG,af,aH]
 generalize hr:(⟨_,[],none⟩:Ret)=r
 obtain ⟨ea,hea⟩:=nm (row ab l)
 rw[←hea];intro add sub mul arith eq ne lt le gt ge neg conv mn mx not beq len at' ln bd cut app allS isNil mks set o hP F ho;have la:=F.len_at hea;cbv;refine aJ hP (σ:=List Ext×List Ext×Int×Option Int) (fun s=>match s.2.2.2 with | none=>[(0,R ea .sh),(1,⟨.val,[⟨.fn g [k0,k1], .sh⟩]⟩),(4,I 0),(7,I (len ea)),(8,I s.2.2.1)] | some j=>[(0,R ea .sh),(1,⟨.val,[⟨.fn g [k0,k1], .sh⟩]⟩),(4,I 0),(5,I j),(7,I (len ea)),(8,I s.2.2.1)])
  (fun s=>At s.2.2.1 s.2.1.length∧l=s.2.1++s.1∧bz p s.1 (s.2.1.length:Int)=bz p l 0) (fun s=>s.1.length) (l,[],0,none) rfl ⟨rfl,rfl,rfl⟩ ?_
 rintro ⟨suf,pre,i,j⟩ ⟨hi,hl',hx⟩ ih
 simp only at hi hl' hx ih;have hi':i=(pre.length:Int):=hi;rw[←hi'] at hx;cases j<;>cbv<;>(
  cases suf with
  | nil=>
   rw[F.lt_f hi la (by simp[hl'])];cbv
   rw[←hr,←hx];rfl
  | cons x suf=>
   rw[F.lt_t hi la (by simp[hl'])];cbv
   obtain ⟨e1,he1⟩:=nm (row fI x.body)
   obtain ⟨ix,hix⟩:=nm (pre.length * 2)
   rw[show at' 2 ea i=some (ix,[.int .i64 x.tag, .row () e1]) by rw[hix,he1];exact F.get hi hea hl' (fun _=>rfl) (by decide)];cbv
   obtain ⟨v,hv⟩:=nm (p x)
   have c1:o g [cb x.tag e1 (.sp 0 1),⟨.val,[⟨k0, .sh⟩]⟩,⟨.val,[⟨k1, .sh⟩]⟩]=some ⟨[B v],[],none⟩:=by rw[ho,hv,he1];exact hp x (by rw[hl'];simp)
   rw[hg];cbv;rw[c1];cbv;have hx1:bz p (x::suf) i=if p x=true then i else bz p suf (i+1):=rfl
   rw[hx1] at hx;refine both (fun c=>?_) (fun c=>?_)<;>rw[c]<;>cbv
   ·rw[←hv,if_pos c] at hx;rw[←hr,←hx]
   ·rw[←hv,if_neg (by simp[c])] at hx
    refine ih (suf,pre++[x],add .i64 i 1,some i) ⟨ao (F.inc hi (by simp[hl'] at hl;omega)) (by simp),by simp[hl'],?_⟩ (by simp)
    rw[←hx,hi'];simp)
theorem JL (e:Ext) (t:Int) {f0:Fl} (h0:ac f0=true):fix Tb md 352 [cb e.tag (row fI e.body) f0,⟨.val,[⟨.ptr () [.int .i64 t], .sh⟩]⟩]=some ⟨[B (ie t e)],[],none⟩:=by
 generalize hr:(⟨_,[],none⟩:Ret)=r
 obtain ⟨ey,hey⟩:=nm (row fI e.body)
 rw[←hey];refine cJ (fn:=ir352) tb_352 rfl rfl (by decide) rfl ?_;intro Q hQ;simp only[aj,aV,List.map_cons,List.map_nil,ir352,ai h0,List.head?_nil,reduceCtorEq,if_false,cb,aa,ae,bp,al,aG,af,aH]
 intro add sub mul arith eq ne lt le gt ge neg conv mn mx not beq len at' ln bd cut app allS isNil mks set o hP F ho;cbv;rw[hQ];cbv;rw[←hr,F.eq];rfl
theorem EE (l:List Ext) (t:Int) (hl:l.length≤1099511627776) {f0:Fl} (h0:ac f0=true):fix Tb md 290 [R (row ab l) f0,I t]=some ⟨[I (dE l t)],[],none⟩:=by
 obtain ⟨T,hT⟩:=nm (dE l t)
 rw[←hT];generalize hr:(⟨_,[],none⟩:Ret)=r
 obtain ⟨ea,hea⟩:=nm (row ab l)
 rw[←hea];refine cJ (fn:=ir290) tb_290 rfl rfl (by decide) rfl ?_;intro Q hQ;simp only[aj,aV,List.map_cons,List.map_nil,ir290,ai h0,List.head?_nil,reduceCtorEq,if_false,cb,aa,ae,bp,al,aG,af,aH]
 intro add sub mul arith eq ne lt le gt ge neg conv mn mx not beq len at' ln bd cut app allS isNil mks set o hP F ho;have c1:o 351 [R ea (.sp 0 0),⟨.val,[⟨.fn 352 [.ptr () [.int .i64 t]], .sh⟩]⟩]=some ⟨[I T],[],none⟩:=by rw[ho,hT,hea];exact BN 352 rfl _ (ie t) l hl (fun x _=>JL x t rfl) rfl
 cbv;rw[c1];cbv;rw[hQ];cbv;exact congrArg some hr
theorem vy (l:List Ext) (hl:l.length≤1099511627776) (w:∀ y∈l,y.body.length≤1099511627776) {f0:Fl} (h0:ac f0=true):fix Tb md 258 [R (row ab l) f0]=some ⟨[B (bI l)],[],none⟩:=by
 obtain ⟨T,hT⟩:=nm (oG [] l)
 rw[show bI l=(T&&decide (l.length≤6)) by rw[hT];rfl]
 generalize hr:(⟨_,[],none⟩:Ret)=r
 obtain ⟨ea,hea⟩:=nm (row ab l)
 rw[←hea];refine cJ (fn:=ir258) tb_258 rfl rfl (by decide) rfl ?_;intro Q hQ;simp only[aj,aV,List.map_cons,List.map_nil,ir258,ai h0,List.head?_nil,reduceCtorEq,if_false,cb,aa,ae,bp,al,aG,af,aH]
 intro add sub mul arith eq ne lt le gt ge neg conv mn mx not beq len at' ln bd cut app allS isNil mks set o hP F ho;have la:=F.len_at hea;have h6:le (len ea) 6=decide (l.length≤6):=F.le_n la rfl;cbv;refine ah hP (σ:=List Ext×List Ext×Int×Option (Int×Int×List (List V))) (fun s=>match s.2.2.2 with
   | none=>[(0,R ea .sh),(2,B false),(5,R ea .sh),(6,I (len ea)),(7,I s.2.2.1)]
   | some j=>[(0,R ea .sh),(2,B false),(3,I j.1),(4,⟨.ptr 45 0,[]⟩),(5,R ea .sh),(6,I (len ea)),(7,I s.2.2.1),(45,⟨.box (),[⟨.int .i64 j.2.1, .sc⟩,⟨.row () j.2.2, .sh⟩]⟩)]) (fun s=>At s.2.2.1 s.2.1.length∧l=s.2.1++s.1∧oG s.2.1 s.1=T) (fun s=>s.1.length) (l,[],0,none) rfl ⟨rfl,rfl,hT.symm⟩ ?_
 intro c1 Q1 hc1 hQ1;rintro ⟨suf,pre,i,j⟩ ⟨hi,hl',hb⟩ ih
 simp only at hi hl' hb ih;rcases j with _ | ⟨j3,j4,j5⟩
 all_goals
  cbv;cases suf with
  | nil=>
   rw[F.lt_f hi la (by simp[hl'])];cbv
   rw[hQ1];cbv;rw[hQ];cbv;rw[h6,←hr,←hb];rfl
  | cons x suf=>
   obtain ⟨ix,hix⟩:=nm (pre.length * 2)
   obtain ⟨e1,he1⟩:=nm (row fI x.body)
   have l1:=F.len_at he1;have hx:=w x (by rw[hl'];simp)
   have hpre:pre.length≤1099511627776:=by rw[hl'] at hl;simp at hl;omega
   have p0:at' 2 ea i=some (ix,[.int .i64 x.tag, .row () e1]):=by rw[hix,he1];exact F.get hi hea hl' (fun _=>rfl) (by decide)
   obtain ⟨b1,hb1⟩:=nm (inR x.tag 0 255)
   obtain ⟨b2,hb2⟩:=nm (decide (4 < x.body.length))
   obtain ⟨b3,hb3⟩:=nm (bytes x.body)
   obtain ⟨b4,hb4⟩:=nm (pre.any (ie x.tag))
   obtain ⟨ep,hep⟩:=nm (row ab pre)
   obtain ⟨v,hv⟩:=nm (dE pre x.tag)
   have g4:gt (len e1) 4=b2:=by rw[hb2];exact F.gt_n l1 rfl
   have c1:o 232 [I x.tag,I 0,I 255]=some ⟨[B b1],[],none⟩:=by rw[ho,hb1];exact fF ..
   have c3:o 233 [R e1 (.sp 0 0),I 0,I 255]=some ⟨[B b3],[],none⟩:=by rw[ho,hb3,he1];exact yx _ _ _ hx rfl
   have c4:o 290 [R ep (.sp 0 0),I x.tag]=some ⟨[I v],[],none⟩:=by rw[ho,hv,hep];exact EE _ _ hpre rfl
   have g5:ge v 0=b4:=by rw[F.ge,hv,hb4];exact d8 (ie x.tag) pre 0 (by decide)
   have hT':T=(b1&& !b2&&b3&& !b4&&oG (pre++[x]) suf):=by rw[←hb,hb1,hb2,hb3,hb4];rfl
   obtain ⟨n,hn⟩:=nm (pre.length)
   have q1:bd (ln ea) i=some n:=by rw[F.ln' hea,hn];exact F.bd' hi (by rw[hl'];simp)
   have q2:cut 2 ea n 0=some ep:=by rw[F.cut' hea (fun _=>rfl),hep,hl',hn];simp
   rw[F.lt_t hi la (by simp[hl'])];cbv
   rw[p0];cbv;rw[c1];cbv;refine both (fun d1=>?_) (fun d1=>?_)<;>rw[d1]<;>cbv
   ·rw[hQ1];cbv;rw[hQ];cbv;rw[←hr,show T=false by rw[hT',F.not_t d1];rfl];rfl
   rw[q1];cbv;rw[q2];cbv;rw[c4];cbv;rw[g5];cbv;refine both (fun d4=>?_) (fun d4=>?_)<;>rw[d4]<;>cbv
   ·rw[hQ1];cbv;rw[hQ];cbv;rw[←hr,show T=false by rw[hT',d4];simp];rfl
   rw[g4];cbv;refine both (fun d2=>?_) (fun d2=>?_)<;>rw[d2]<;>cbv
   ·rw[hQ1];cbv;rw[hQ];cbv;rw[←hr,show T=false by rw[hT',d2];simp];rfl
   rw[c3];cbv;refine both (fun d3=>?_) (fun d3=>?_)<;>rw[d3]<;>cbv
   ·rw[hQ1];cbv;rw[hQ];cbv;rw[←hr,show T=false by rw[hT',F.not_t d3];simp];rfl
   refine ih (suf,pre++[x],add .i64 i 1,some (i,x.tag,e1)) ⟨ao (F.inc hi (by omega)) (by simp),by simp[hl'],?_⟩ (by simp)
   rw[hT',F.not_f d1,d2,F.not_f d3,d4];simp
theorem gu (h:Hello) (hv:h.versions.length≤1099511627776) (hl:h.exts.length≤1099511627776) (w:∀ y∈h.exts,y.body.length≤1099511627776) {f0 f1:Fl} (h0:ac f0=true) (h1:ac f1=true):fix Tb md 113 [aa (row fI h.versions) (row ab h.exts) f0 f1]=some ⟨[B (aC h)],[],none⟩:=by
 obtain ⟨a,ha⟩:=nm (aK h.versions)
 obtain ⟨b,hb⟩:=nm (bI h.exts)
 rw[show aC h=(a&&b) by rw[ha,hb];rfl]
 generalize hr:(⟨_,[],none⟩:Ret)=r
 obtain ⟨ea,hea⟩:=nm (row fI h.versions)
 obtain ⟨eb,heb⟩:=nm (row ab h.exts)
 rw[←hea,←heb];refine cJ (fn:=ir113) tb_113 rfl rfl (by decide) rfl ?_;intro Q hQ;simp only[aj,aV,List.map_cons,List.map_nil,ir113,ai h0,ai h1,List.head?_nil,reduceCtorEq,if_false,cb,aa,ae,bp,al,aG,af,aH]
 intro add sub mul arith eq ne lt le gt ge neg conv mn mx not beq len at' ln bd cut app allS isNil mks set o hP F ho;have c1:o 255 [R ea (.sp 0 0)]=some ⟨[B a],[],none⟩:=by rw[ho,ha,hea];exact tU _ hv rfl
 have c2:o 258 [R eb (.sp 0 0)]=some ⟨[B b],[],none⟩:=by rw[ho,hb,heb];exact vy _ hl w rfl
 cbv;rw[c1];cbv;refine both (fun d1=>?_) (fun d1=>?_)<;>rw[d1]<;>cbv
 ·rw[c2];cbv;rw[hQ];cbv;rw[←hr,d1];rfl
 ·rw[hQ];cbv;rw[←hr,d1];rfl
theorem rN (a b:List Int) (hl:a.length≤1099511627776) {f0 f1:Fl} (h0:ac f0=true) (h1:ac f1=true):fix Tb md 229 [R (row fI a) f0,R (row fI b) f1]=some ⟨[B (decide (a=b))],[],none⟩:=by
 refine bB (fn:=ir229) tb_229 rfl rfl (by decide) rfl ?_;simp only[aj,aV,List.map_cons,List.map_nil,ir229,ai h0,ai h1,List.head?_nil,reduceCtorEq,if_false,cb,aa,ae,bp,al,aG,af,aH]
 generalize hr:(⟨_,[],none⟩:Ret)=r
 obtain ⟨ea,hea⟩:=nm (row fI a)
 obtain ⟨eb,heb⟩:=nm (row fI b)
 rw[←hea,←heb];intro add sub mul arith eq ne lt le gt ge neg conv mn mx not beq len at' ln bd cut app allS isNil mks set o hP F ho;have la:=F.len_at hea;have lb:=F.len_at heb;cbv;by_cases hab:a.length=b.length
 ·rw[F.ne_f (by unfold At at la lb;omega)];cbv
  refine aJ hP (σ:=List Int×List Int×List Int×Int×Option Int) (fun s=>match s.2.2.2.2 with | none=>[(0,R ea .sh),(1,R eb .sh),(4,B false),(12,I (len ea)),(13,I s.2.2.2.1)] | some j=>[(0,R ea .sh),(1,R eb .sh),(4,B false),(5,I j),(12,I (len ea)),(13,I s.2.2.2.1)]) (fun s=>At s.2.2.2.1 s.1.length∧a=s.1++s.2.1∧b=s.1++s.2.2.1) (fun s=>s.2.1.length) ([],a,b,0,none) rfl ⟨rfl,rfl,rfl⟩ ?_
  rintro ⟨pre,sa,sb,i,j⟩ ⟨hi,ha,hb⟩ ih
  simp only at hi ha hb ih;have hlen:sa.length=sb.length:=by simp[ha,hb] at hab;exact hab
  cases j<;>cbv<;>(
   match sa,sb,hlen,ha,hb with
   | [],[],_,ha,hb=>
    rw[F.lt_f hi la (by simp[ha])];cbv
    rw[←hr];simp[ha,hb]
   | x::sa,y::sb,_,ha,hb=>
    rw[F.lt_t hi la (by simp[ha])];cbv
    obtain ⟨ix,hix⟩:=nm (pre.length * 1)
    rw[show at' 1 ea i=some (ix,[.int .i64 x]) by rw[hix];exact F.get hi hea ha (fun _=>rfl) (by decide)];cbv
    rw[show at' 1 eb i=some (ix,[.int .i64 y]) by rw[hix];exact F.get hi heb hb (fun _=>rfl) (by decide)];cbv
    by_cases hxy:x=y
    ·rw[F.ne_f hxy];cbv;refine ih (pre++[x],sa,sb,add .i64 i 1,some i) ⟨ao (F.inc hi (by simp[ha] at hl;omega)) (by simp),by simp[ha],by simp[hb,hxy]⟩ (by simp)
    ·rw[F.ne_t hxy];cbv;rw[←hr];simp[ha,hb,hxy])
 ·rw[F.ne_t (by unfold At at la lb;omega)];cbv
  rw[←hr];simp;intro e;exact hab (by rw[e])
theorem DA {x y:Ext} {a b:List Ext}:(x::a=y::b)↔(x.tag=y.tag∧x.body=y.body)∧a=b:=by rw[List.cons.injEq,Ext.eq_iff]
theorem GQ (a b:List Ext) (hl:a.length≤1099511627776) (w:∀ y∈a,y.body.length≤1099511627776) {f0 f1:Fl} (h0:ac f0=true) (h1:ac f1=true):fix Tb md 272 [R (row ab a) f0,R (row ab b) f1]=some ⟨[B (decide (a=b))],[],none⟩:=by
 obtain ⟨T,hT⟩:=nm (decide (a=b))
 rw[←hT];generalize hr:(⟨_,[],none⟩:Ret)=r
 obtain ⟨ea,hea⟩:=nm (row ab a)
 obtain ⟨eb,heb⟩:=nm (row ab b)
 rw[←hea,←heb];obtain ⟨nb,hnb⟩:=nm (decide (a.length≠b.length))
 refine cJ (fn:=ir272) tb_272 rfl rfl (by decide) rfl ?_;intro Q hQ;simp only[aj,aV,List.map_cons,List.map_nil,ir272,ai h0,ai h1,List.head?_nil,reduceCtorEq,if_false,cb,aa,ae,bp,al,aG,af,aH]
 intro add sub mul arith eq ne lt le gt ge neg conv mn mx not beq len at' ln bd cut app allS isNil mks set o hP F ho;have la:=F.len_at hea;have lb:=F.len_at heb;have hne:ne (len ea) (len eb)=nb:=by unfold At at la lb;rw[F.ne,la,lb,hnb];simp;omega
 cbv;rw[hne];cbv;refine both (fun d0=>?_) (fun d0=>?_)<;>rw[d0]<;>cbv
 ·rw[hQ];cbv;rw[←hr,show T=false by rw[hT];rw[hnb] at d0;simp at d0 ⊢;intro e;exact d0 (by rw[e])]
 have hab:a.length=b.length:=by rw[hnb] at d0;simpa using d0
 refine ah hP (σ:=List Ext×List Ext×List Ext×Int) (fun s=>[(0,R ea .sh),(1,R eb .sh),(4,B false),(5,I s.2.2.2)]) (fun s=>At s.2.2.2 s.1.length∧a=s.1++s.2.1∧b=s.1++s.2.2.1) (fun s=>s.2.1.length) ([],a,b,0) rfl ⟨rfl,rfl,rfl⟩ ?_
 intro c1 Q1 hc1 hQ1;rintro ⟨pre,sa,sb,i⟩ ⟨hi,ha,hb⟩ ih
 simp only at hi ha hb ih;cbv;have hlen:sa.length=sb.length:=by simp[ha,hb] at hab;exact hab
 match sa,sb,hlen,ha,hb with
 | [],[],_,ha,hb=>
  rw[F.lt_f hi la (by simp[ha])];cbv
  rw[hQ1];cbv;rw[hQ];cbv;rw[←hr,hT];simp[ha,hb]
 | x::sa,y::sb,_,ha,hb=>
  obtain ⟨ix,hix⟩:=nm (pre.length * 2)
  obtain ⟨ex,hex⟩:=nm (row fI x.body)
  obtain ⟨ey,hey⟩:=nm (row fI y.body)
  have p0:at' 2 ea i=some (ix,[.int .i64 x.tag, .row () ex]):=by rw[hix,hex];exact F.get hi hea ha (fun _=>rfl) (by decide)
  have p1:at' 2 eb i=some (ix,[.int .i64 y.tag, .row () ey]):=by rw[hix,hey];exact F.get hi heb hb (fun _=>rfl) (by decide)
  obtain ⟨v,hv⟩:=nm (decide (x.body=y.body))
  obtain ⟨u,hu⟩:=nm (decide (x.tag≠y.tag))
  have hT':T=(!u&&v&&decide (sa=sb)):=by
   rw[hT,ha,hb,hu,hv];simp only[List.append_cancel_left_eq,DA];by_cases k1:x.tag=y.tag<;>by_cases k2:x.body=y.body<;>simp[k1,k2]
  have c2:o 228 [R ex (.sp 0 0),R ey (.sp 1 0)]=some ⟨[B v],[],none⟩:=by rw[ho,hv,hex,hey];exact pH _ _ (w x (by rw[ha];simp)) rfl rfl
  have g1:ne x.tag y.tag=u:=by rw[F.ne,hu]
  rw[F.lt_t hi la (by simp[ha])];cbv
  rw[p0];cbv;rw[p1];cbv;rw[g1];cbv;refine both (fun d1=>?_) (fun d1=>?_)<;>rw[d1]<;>cbv
  ·rw[hQ1];cbv;rw[hQ];cbv;rw[←hr,hT',d1];rfl
  rw[p0];cbv;rw[p1];cbv;rw[c2];cbv;refine both (fun d2=>?_) (fun d2=>?_)<;>rw[d2]<;>cbv
  ·rw[hQ1];cbv;rw[hQ];cbv;rw[←hr,hT',F.not_t d2];simp
  have hxy:x=y:=by
   rw[Ext.eq_iff];have e2:=F.not_f d2;rw[hv] at e2;rw[hu] at d1;simp at d1 e2;exact ⟨d1,e2⟩
  refine ih (pre++[x],sa,sb,add .i64 i 1) ⟨ao (F.inc hi (by simp[ha] at hl;omega)) (by simp),by simp[ha],by simp[hb,hxy]⟩ (by simp)
theorem GS (x y:Ext) (hx:x.body.length≤1099511627776) {f0 f1:Fl} (h0:ac f0=true) (h1:ac f1=true):fix Tb md 291 [cb x.tag (row fI x.body) f0,cb y.tag (row fI y.body) f1]=some ⟨[B (decide (x=y))],[],none⟩:=by
 obtain ⟨v,hv⟩:=nm (decide (x.body=y.body))
 obtain ⟨u,hu⟩:=nm (decide (x.tag=y.tag))
 rw[show decide (x=y)=(u&&v) by rw[hu,hv];simp only[Ext.eq_iff];by_cases k1:x.tag=y.tag<;>by_cases k2:x.body=y.body<;>simp[k1,k2]]
 generalize hr:(⟨_,[],none⟩:Ret)=r
 obtain ⟨ex,hex⟩:=nm (row fI x.body)
 obtain ⟨ey,hey⟩:=nm (row fI y.body)
 rw[←hex,←hey];refine cJ (fn:=ir291) tb_291 rfl rfl (by decide) rfl ?_;intro Q hQ;simp only[aj,aV,List.map_cons,List.map_nil,ir291,ai h0,ai h1,List.head?_nil,reduceCtorEq,if_false,cb,aa,ae,bp,al,aG,af,aH]
 intro add sub mul arith eq ne lt le gt ge neg conv mn mx not beq len at' ln bd cut app allS isNil mks set o hP F ho;have c1:o 229 [R ex (.sp 0 0),R ey (.sp 1 0)]=some ⟨[B v],[],none⟩:=by rw[ho,hv,hex,hey];exact rN _ _ hx rfl rfl
 have g1:eq x.tag y.tag=u:=by rw[F.eq,hu]
 cbv;rw[g1];cbv;refine both (fun d1=>?_) (fun d1=>?_)<;>rw[d1]<;>cbv
 ·rw[c1];cbv;rw[hQ];cbv;rw[←hr,d1];rfl
 ·rw[hQ];cbv;rw[←hr,d1];rfl
theorem JK (a b:List Ext) (hl:a.length≤1099511627776) (w:∀ y∈a,y.body.length≤1099511627776) {f0 f1:Fl} (h0:ac f0=true) (h1:ac f1=true):fix Tb md 350 [R (row ab a) f0,R (row ab b) f1,⟨.val,[⟨.fn 291 [], .sh⟩]⟩]=some ⟨[B (decide (a=b))],[],none⟩:=by
 obtain ⟨T,hT⟩:=nm (decide (a=b))
 rw[←hT];generalize hr:(⟨_,[],none⟩:Ret)=r
 obtain ⟨ea,hea⟩:=nm (row ab a)
 obtain ⟨eb,heb⟩:=nm (row ab b)
 rw[←hea,←heb];obtain ⟨nb,hnb⟩:=nm (decide (a.length≠b.length))
 refine cJ (fn:=ir350) tb_350 rfl rfl (by decide) rfl ?_;intro Q hQ;simp only[aj,aV,List.map_cons,List.map_nil,ir350,ai h0,ai h1,List.head?_nil,reduceCtorEq,if_false,cb,aa,ae,bp,al,aG,af,aH]
 intro add sub mul arith eq ne lt le gt ge neg conv mn mx not beq len at' ln bd cut app allS isNil mks set o hP F ho;have la:=F.len_at hea;have lb:=F.len_at heb;have hne:ne (len ea) (len eb)=nb:=by unfold At at la lb;rw[F.ne,la,lb,hnb];simp;omega
 cbv;rw[hne];cbv;refine both (fun d0=>?_) (fun d0=>?_)<;>rw[d0]<;>cbv
 ·rw[hQ];cbv;rw[←hr,show T=false by rw[hT];rw[hnb] at d0;simp at d0 ⊢;intro e;exact d0 (by rw[e])]
 have hab:a.length=b.length:=by rw[hnb] at d0;simpa using d0
 refine ah hP (σ:=List Ext×List Ext×List Ext×Int×Option (Int×(Int×List (List V))×(Int×List (List V)))) (fun s=>match s.2.2.2.2 with
    | none=>[(0,R ea .sh),(1,R eb .sh),(2,⟨.val,[⟨.fn 291 [], .sh⟩]⟩),(6,B false),(15,R ea .sh),(16,I (len ea)),(17,I s.2.2.2.1)]
    | some j=>[(0,R ea .sh),(1,R eb .sh),(2,⟨.val,[⟨.fn 291 [], .sh⟩]⟩),(6,B false),(7,I j.1),(8,⟨.ptr 40 0,[]⟩),(9,⟨.ptr 41 0,[]⟩),(15,R ea .sh),(16,I (len ea)),(17,I s.2.2.2.1),(40,⟨.box (),[⟨.int .i64 j.2.1.1, .sc⟩,⟨.row () j.2.1.2, .sh⟩]⟩),(41,⟨.box (),[⟨.int .i64 j.2.2.1, .sc⟩,⟨.row () j.2.2.2, .sh⟩]⟩)]) (fun s=>At s.2.2.2.1 s.1.length∧a=s.1++s.2.1∧b=s.1++s.2.2.1) (fun s=>s.2.1.length) ([],a,b,0,none) rfl ⟨rfl,rfl,rfl⟩ ?_
 intro c1 Q1 hc1 hQ1;rintro ⟨pre,sa,sb,i,j⟩ ⟨hi,ha,hb⟩ ih
 simp only at hi ha hb ih;have hlen:sa.length=sb.length:=by simp[ha,hb] at hab;exact hab
 rcases j with _ | ⟨j1,⟨j2,j3⟩,⟨j4,j5⟩⟩
 all_goals
  cbv
  match sa,sb,hlen,ha,hb with
  | [],[],_,ha,hb=>
   rw[F.lt_f hi la (by simp[ha])];cbv
   rw[hQ1];cbv;rw[hQ];cbv;rw[←hr,hT];simp[ha,hb]
  | x::sa,y::sb,_,ha,hb=>
   obtain ⟨ix,hix⟩:=nm (pre.length * 2)
   obtain ⟨ex,hex⟩:=nm (row fI x.body)
   obtain ⟨ey,hey⟩:=nm (row fI y.body)
   have p0:at' 2 ea i=some (ix,[.int .i64 x.tag, .row () ex]):=by rw[hix,hex];exact F.get hi hea ha (fun _=>rfl) (by decide)
   have p1:at' 2 eb i=some (ix,[.int .i64 y.tag, .row () ey]):=by rw[hix,hey];exact F.get hi heb hb (fun _=>rfl) (by decide)
   obtain ⟨v,hv⟩:=nm (decide (x=y))
   have hT':T=(v&&decide (sa=sb)):=by
    rw[hT,ha,hb,hv];simp only[List.append_cancel_left_eq,List.cons.injEq];by_cases k1:x=y<;>simp[k1]
   have c2:o 291 [cb x.tag ex (.sp 0 1),cb y.tag ey (.sp 1 1)]=some ⟨[B v],[],none⟩:=by rw[ho,hv,hex,hey];exact GS _ _ (w x (by rw[ha];simp)) rfl rfl
   rw[F.lt_t hi la (by simp[ha])];cbv
   rw[p0];cbv;rw[p1];cbv;rw[c2];cbv;refine both (fun d2=>?_) (fun d2=>?_)<;>rw[d2]<;>cbv
   ·rw[hQ1];cbv;rw[hQ];cbv;rw[←hr,hT',F.not_t d2];simp
   have hxy:x=y:=by
    have e2:=F.not_f d2;rw[hv] at e2
    simpa using e2
   refine ih (pre++[x],sa,sb,add .i64 i 1,some (i,(x.tag,ex),(y.tag,ey))) ⟨ao (F.inc hi (by simp[ha] at hl;omega)) (by simp),by simp[ha],by simp[hb,hxy]⟩ (by simp)
theorem Jh (a b:List Ext) (hl:a.length≤1099511627776) (w:∀ y∈a,y.body.length≤1099511627776) {f0 f1:Fl} (h0:ac f0=true) (h1:ac f1=true):fix Tb md 273 [R (row ab a) f0,R (row ab b) f1]=some ⟨[B (decide (a=b))],[],none⟩:=by
 obtain ⟨v,hv⟩:=nm (decide (a=b))
 rw[←hv];generalize hr:(⟨_,[],none⟩:Ret)=r
 obtain ⟨ea,hea⟩:=nm (row ab a)
 obtain ⟨eb,heb⟩:=nm (row ab b)
 rw[←hea,←heb];refine cJ (fn:=ir273) tb_273 rfl rfl (by decide) rfl ?_;intro Q hQ;simp only[aj,aV,List.map_cons,List.map_nil,ir273,ai h0,ai h1,List.head?_nil,reduceCtorEq,if_false,cb,aa,ae,bp,al,aG,af,aH]
 intro add sub mul arith eq ne lt le gt ge neg conv mn mx not beq len at' ln bd cut app allS isNil mks set o hP F ho;have c1:o 350 [R ea (.sp 0 0),R eb (.sp 1 0),⟨.val,[⟨.fn 291 [], .sh⟩]⟩]=some ⟨[B v],[],none⟩:=by rw[ho,hv,hea,heb];exact JK _ _ hl w rfl rfl
 cbv;rw[c1];cbv;rw[hQ];cbv;exact congrArg some hr
theorem pG (a b:Hello) (hvv:a.versions.length≤1099511627776) (hl:a.exts.length≤1099511627776) (w:∀ y∈a.exts,y.body.length≤1099511627776) {f0 f1 g0 g1:Fl} (q0:ac f0=true) (q1:ac f1=true) (p0:ac g0=true) (p1:ac g1=true):
  fix Tb md 131 [aa (row fI a.versions) (row ab a.exts) f0 f1,aa (row fI b.versions) (row ab b.exts) g0 g1]=some ⟨[B (decide (a=b))],[],none⟩:=by
 obtain ⟨u,hu⟩:=nm (decide (a.versions=b.versions))
 obtain ⟨v,hv⟩:=nm (decide (a.exts=b.exts))
 rw[show decide (a=b)=(u&&v) by rw[hu,hv];simp only[Hello.eq_iff];by_cases k1:a.versions=b.versions<;>by_cases k2:a.exts=b.exts<;>simp[k1,k2]]
 generalize hr:(⟨_,[],none⟩:Ret)=r
 obtain ⟨d0,hd0⟩:=nm (row fI a.versions)
 obtain ⟨e0,he0⟩:=nm (row fI b.versions)
 obtain ⟨d1,hd1⟩:=nm (row ab a.exts)
 obtain ⟨e1,he1⟩:=nm (row ab b.exts)
 rw[←hd0,←he0,←hd1,←he1];refine cJ (fn:=ir131) tb_131 rfl rfl (by decide) rfl ?_;intro Q hQ;simp only[aj,aV,List.map_cons,List.map_nil,ir131,ai q0,ai q1,ai p0,ai p1,List.head?_nil,reduceCtorEq,if_false,cb,aa,ae,bp,al,aG,af,aH]
 intro add sub mul arith eq ne lt le gt ge neg conv mn mx not beq len at' ln bd cut app allS isNil mks set o hP F ho;have c1:o 229 [R d0 (.sp 0 0),R e0 (.sp 1 0)]=some ⟨[B u],[],none⟩:=by rw[ho,hu,hd0,he0];exact rN _ _ hvv rfl rfl
 have c2:o 273 [R d1 (.sp 0 0),R e1 (.sp 1 0)]=some ⟨[B v],[],none⟩:=by rw[ho,hv,hd1,he1];exact Jh _ _ hl w rfl rfl
 cbv;rw[c1];cbv;refine both (fun d1=>?_) (fun d1=>?_)<;>rw[d1]<;>cbv
 ·rw[c2];cbv;rw[hQ];cbv;rw[←hr,d1];rfl
 ·rw[hQ];cbv;rw[←hr,d1];rfl
def jY (p:Int→Bool) (e:Ext):Bool:=p e.tag
theorem BH (g:Nat) (hg:md g=[]) (p:Int→Bool) (l:List Ext) (hl:l.length≤1073741824) (w:∀ y∈l,y.body.length≤1099511627776) (hp:∀ x∈l,fix Tb md g [I x.tag]=some ⟨[B (p x.tag)],[],none⟩) {f0:Fl} (h0:ac f0=true):fix Tb md 264 [R (row ab l) f0,⟨.val,[⟨.fn g [], .sh⟩]⟩]=some ⟨[R (row ab (sel (jY p) idE l)) (.ow false)],[],none⟩:=by
 generalize hm_:md=m_ at hg hp ⊢
 obtain ⟨et,het⟩:=nm (row ab (sel (jY p) idE l))
 rw[←het];generalize hr:(⟨_,[],none⟩:Ret)=r
 obtain ⟨ea,hea⟩:=nm (row ab l)
 rw[←hea];refine cJ (fn:=ir264) tb_264 rfl rfl (by decide) rfl ?_;intro Q hQ;simp only[aj,aV,List.map_cons,List.map_nil,ir264,ai h0,List.head?_nil,reduceCtorEq,if_false,cb,aa,ae,bp,al,aG,af,aH]
 intro add sub mul arith eq ne lt le gt ge neg conv mn mx not beq len at' ln bd cut app allS isNil mks set o hP F ho;have la:=F.len_at hea;cbv;refine ah hP (σ:=List Ext×List Ext×List (List V)×Int×Option (Int×List (List V))) (fun s=>match s.2.2.2.2 with | none=>[(0,R ea .sh),(1,⟨.val,[⟨.fn g [], .sh⟩]⟩),(4,R [] .nl),(5,R s.2.2.1 (.ow false)),(9,R ea .sh),(10,I (len ea)),(11,I s.2.2.2.1)] | some j=>[(0,R ea .sh),(1,⟨.val,[⟨.fn g [], .sh⟩]⟩),(4,R [] .nl),(5,R s.2.2.1 (.ow false)),(7,⟨.ptr 38 0,[]⟩),(9,R ea .sh),(10,I (len ea)),(11,I s.2.2.2.1),(38,⟨.box (),[⟨.int .i64 j.1, .sc⟩,⟨.row () j.2, .sh⟩]⟩)]) (fun s=>At s.2.2.2.1 s.2.1.length∧l=s.2.1++s.1∧s.2.2.1=row ab (sel (jY p) idE s.2.1)) (fun s=>s.1.length) (l,[],[],0,none) rfl ⟨rfl,rfl,rfl⟩ ?_
 intro c1 Q1 hc1 hQ1;rintro ⟨suf,pre,eo,i,j⟩ ⟨hi,hl',hb⟩ ih
 simp only at hi hl' hb ih;rcases j with _ | ⟨j1,j2⟩
 all_goals
  cbv;cases suf with
  | nil=>
   rw[F.lt_f hi la (by simp[hl'])];cbv
   rw[hQ1];cbv;rw[hQ];cbv;rw[←hr,het,hb,hl',List.append_nil]
  | cons x suf=>
   obtain ⟨ix,hix⟩:=nm (pre.length * 2)
   have hpre:pre.length≤1073741824:=by rw[hl'] at hl;simp at hl;omega
   have hs:(sel (jY p) idE pre).length≤pre.length:=aI;have hi':At (add .i64 i 1) (pre++[x]).length:=ao (F.inc hi (by omega)) (by simp)
   have hl2:l=(pre++[x])++suf:=by rw[hl'];simp
   have hmem:x∈l:=by rw[hl'];simp
   obtain ⟨e1,he1⟩:=nm (row fI x.body)
   have hx:=w x hmem;have p0:at' 2 ea i=some (ix,[.int .i64 x.tag, .row () e1]):=by rw[hix,he1];exact F.get hi hea hl' (fun _=>rfl) (by decide)
   obtain ⟨v,hv⟩:=nm (jY p x)
   have c2:o g [I x.tag]=some ⟨[B v],[],none⟩:=by rw[ho,hv];exact hp x hmem
   rw[F.lt_t hi la (by simp[hl'])];cbv
   rw[p0];cbv;rw[hg];cbv;rw[c2];cbv;refine both (fun d=>?_) (fun d=>?_)<;>rw[d]<;>cbv
   ·rw[show allS e1=true from F.scal he1 (fun _=>rfl)];cbv
    rw[F.app_nil he1 (fun _=>rfl) hx];cbv
    rw[show allS [[.int .i64 x.tag, .row () e1]]=false by rw[F.allS];rfl];cbv
    obtain ⟨eo',heo'⟩:=nm (row ab (sel (jY p) idE pre++[idE x]))
    rw[show app 2 eo [[.int .i64 x.tag, .row () e1]]=some eo' by rw[heo',he1];exact F.push hb (fun _=>rfl) rfl (by omega)];cbv
    refine ih (suf,pre++[x],eo',add .i64 i 1,some (x.tag,e1)) ⟨hi',hl2,by simp only;rw[heo',dz (by rw[←hv,d])]⟩ (by simp)
   ·refine ih (suf,pre++[x],eo,add .i64 i 1,some (x.tag,e1)) ⟨hi',hl2,by simp only;rw[hb,d6 (by rw[←hv,d])]⟩ (by simp)
theorem pI (g:Nat) (hg:md g=[]) (k0:V) (p:Int→Bool) (l:List Ext) (hl:l.length≤1073741824) (w:∀ y∈l,y.body.length≤1099511627776) (hp:∀ x∈l,fix Tb md g [I x.tag,⟨.val,[⟨k0, .sh⟩]⟩]=some ⟨[B (p x.tag)],[],none⟩) {f0:Fl} (h0:ac f0=true):fix Tb md 264 [R (row ab l) f0,⟨.val,[⟨.fn g [k0], .sh⟩]⟩]=some ⟨[R (row ab (sel (jY p) idE l)) (.ow false)],[],none⟩:=by
 generalize hm_:md=m_ at hg hp ⊢
 obtain ⟨et,het⟩:=nm (row ab (sel (jY p) idE l))
 rw[←het];generalize hr:(⟨_,[],none⟩:Ret)=r
 obtain ⟨ea,hea⟩:=nm (row ab l)
 rw[←hea];refine cJ (fn:=ir264) tb_264 rfl rfl (by decide) rfl ?_;intro Q hQ;simp only[aj,aV,List.map_cons,List.map_nil,ir264,ai h0,List.head?_nil,reduceCtorEq,if_false,cb,aa,ae,bp,al,aG,af,aH]
 intro add sub mul arith eq ne lt le gt ge neg conv mn mx not beq len at' ln bd cut app allS isNil mks set o hP F ho;have la:=F.len_at hea;cbv;refine ah hP (σ:=List Ext×List Ext×List (List V)×Int×Option (Int×List (List V))) (fun s=>match s.2.2.2.2 with | none=>[(0,R ea .sh),(1,⟨.val,[⟨.fn g [k0], .sh⟩]⟩),(4,R [] .nl),(5,R s.2.2.1 (.ow false)),(9,R ea .sh),(10,I (len ea)),(11,I s.2.2.2.1)] | some j=>[(0,R ea .sh),(1,⟨.val,[⟨.fn g [k0], .sh⟩]⟩),(4,R [] .nl),(5,R s.2.2.1 (.ow false)),(7,⟨.ptr 38 0,[]⟩),(9,R ea .sh),(10,I (len ea)),(11,I s.2.2.2.1),(38,⟨.box (),[⟨.int .i64 j.1, .sc⟩,⟨.row () j.2, .sh⟩]⟩)]) (fun s=>At s.2.2.2.1 s.2.1.length∧l=s.2.1++s.1∧s.2.2.1=row ab (sel (jY p) idE s.2.1)) (fun s=>s.1.length) (l,[],[],0,none) rfl ⟨rfl,rfl,rfl⟩ ?_
 intro c1 Q1 hc1 hQ1;rintro ⟨suf,pre,eo,i,j⟩ ⟨hi,hl',hb⟩ ih
 simp only at hi hl' hb ih;rcases j with _ | ⟨j1,j2⟩
 all_goals
  cbv;cases suf with
  | nil=>
   rw[F.lt_f hi la (by simp[hl'])];cbv
   rw[hQ1];cbv;rw[hQ];cbv;rw[←hr,het,hb,hl',List.append_nil]
  | cons x suf=>
   obtain ⟨ix,hix⟩:=nm (pre.length * 2)
   have hpre:pre.length≤1073741824:=by rw[hl'] at hl;simp at hl;omega
   have hs:(sel (jY p) idE pre).length≤pre.length:=aI;have hi':At (add .i64 i 1) (pre++[x]).length:=ao (F.inc hi (by omega)) (by simp)
   have hl2:l=(pre++[x])++suf:=by rw[hl'];simp
   have hmem:x∈l:=by rw[hl'];simp
   obtain ⟨e1,he1⟩:=nm (row fI x.body)
   have hx:=w x hmem;have p0:at' 2 ea i=some (ix,[.int .i64 x.tag, .row () e1]):=by rw[hix,he1];exact F.get hi hea hl' (fun _=>rfl) (by decide)
   obtain ⟨v,hv⟩:=nm (jY p x)
   have c2:o g [I x.tag,⟨.val,[⟨k0, .sh⟩]⟩]=some ⟨[B v],[],none⟩:=by rw[ho,hv];exact hp x hmem
   rw[F.lt_t hi la (by simp[hl'])];cbv
   rw[p0];cbv;rw[hg];cbv;rw[c2];cbv;refine both (fun d=>?_) (fun d=>?_)<;>rw[d]<;>cbv
   ·rw[show allS e1=true from F.scal he1 (fun _=>rfl)];cbv
    rw[F.app_nil he1 (fun _=>rfl) hx];cbv
    rw[show allS [[.int .i64 x.tag, .row () e1]]=false by rw[F.allS];rfl];cbv
    obtain ⟨eo',heo'⟩:=nm (row ab (sel (jY p) idE pre++[idE x]))
    rw[show app 2 eo [[.int .i64 x.tag, .row () e1]]=some eo' by rw[heo',he1];exact F.push hb (fun _=>rfl) rfl (by omega)];cbv
    refine ih (suf,pre++[x],eo',add .i64 i 1,some (x.tag,e1)) ⟨hi',hl2,by simp only;rw[heo',dz (by rw[←hv,d])]⟩ (by simp)
   ·refine ih (suf,pre++[x],eo,add .i64 i 1,some (x.tag,e1)) ⟨hi',hl2,by simp only;rw[hb,d6 (by rw[←hv,d])]⟩ (by simp)
theorem EG (l:List Int) (hl:l.length≤1099511627776) {f0:Fl} (h0:ac f0=true):fix Tb md 299 [R (row fI l) f0]=some ⟨[R (row fI l) (.ow false)],[],none⟩:=by
 refine mO tb_299 (by decide) ?_
 show dy 1 _=_;have h1:(row fI l).all (fun e=>e.all scal&&e.length=1)=true:=by
  rw[List.all_eq_true];intro e he;obtain ⟨x,_,rfl⟩:=List.mem_map.1 he
  rfl
 have h2:(row fI l).length≤lim:=by unfold row;simpa [lim] using hl
 have h3:Fm f0=true:=by cases f0<;>first | rfl | cases h0
 show dy 1 [⟨.val,[⟨.row () (row fI l),f0⟩]⟩]=_;simp only[dy,h1,h3,decide_eq_true h2,Bool.and_self,if_true]
theorem Ke (g:Nat) (hg:md g=[]) (p:Ext→Bool) (l:List Ext) (hl:l.length≤1099511627776) (hp:∀ x∈l,fix Tb md g [cb x.tag (row fI x.body) (.sp 0 1)]=some ⟨[B (p x)],[],none⟩) {f0:Fl} (h0:ac f0=true):
  fix Tb md 288 [R (row ab l) f0,⟨.val,[⟨.fn g [], .sh⟩]⟩]=some ⟨[B (l.any p)],[],none⟩:=by
 refine bB (fn:=ir288) tb_288 rfl rfl (by decide) rfl ?_;simp only[aj,aV,List.map_cons,List.map_nil,ir288,ai h0,List.head?_nil,reduceCtorEq,if_false,cb,aa,ae,bp,al,aG,af,aH]
 generalize hr:(⟨_,[],none⟩:Ret)=r
 obtain ⟨ea,hea⟩:=nm (row ab l)
 rw[←hea];obtain ⟨v,hv⟩:=nm (bz p l 0)
 have hv2:decide (0≤v)=l.any p:=by rw[hv];exact d8 p l 0 (by decide)
 rw[←hv2] at hr;clear hv2;intro add sub mul arith eq ne lt le gt ge neg conv mn mx not beq len at' ln bd cut app allS isNil mks set o hP F ho;have c1:o 351 [R ea (.sp 0 0),⟨.val,[⟨.fn g [], .sh⟩]⟩]=some ⟨[I v],[],none⟩:=by rw[ho,hv,hea];exact FS g hg p l hl hp rfl
 cbv;rw[c1];cbv;rw[←hr,F.ge]
theorem BK (g:Nat) (hg:md g=[]) (k0:V) (p:Ext→Bool) (l:List Ext) (hl:l.length≤1099511627776) (hp:∀ x∈l,fix Tb md g [cb x.tag (row fI x.body) (.sp 0 1),⟨.val,[⟨k0, .sh⟩]⟩]=some ⟨[B (p x)],[],none⟩) {f0:Fl} (h0:ac f0=true):
  fix Tb md 288 [R (row ab l) f0,⟨.val,[⟨.fn g [k0], .sh⟩]⟩]=some ⟨[B (l.any p)],[],none⟩:=by
 refine bB (fn:=ir288) tb_288 rfl rfl (by decide) rfl ?_;simp only[aj,aV,List.map_cons,List.map_nil,ir288,ai h0,List.head?_nil,reduceCtorEq,if_false,cb,aa,ae,bp,al,aG,af,aH]
 generalize hr:(⟨_,[],none⟩:Ret)=r
 obtain ⟨ea,hea⟩:=nm (row ab l)
 rw[←hea];obtain ⟨v,hv⟩:=nm (bz p l 0)
 have hv2:decide (0≤v)=l.any p:=by rw[hv];exact d8 p l 0 (by decide)
 rw[←hv2] at hr;clear hv2;intro add sub mul arith eq ne lt le gt ge neg conv mn mx not beq len at' ln bd cut app allS isNil mks set o hP F ho;have c1:o 351 [R ea (.sp 0 0),⟨.val,[⟨.fn g [k0], .sh⟩]⟩]=some ⟨[I v],[],none⟩:=by rw[ho,hv,hea];exact BN g hg k0 p l hl hp rfl
 cbv;rw[c1];cbv;rw[←hr,F.ge]
theorem Kf (g:Nat) (hg:md g=[]) (k0 k1:V) (p:Ext→Bool) (l:List Ext) (hl:l.length≤1099511627776) (hp:∀ x∈l,fix Tb md g [cb x.tag (row fI x.body) (.sp 0 1),⟨.val,[⟨k0, .sh⟩]⟩,⟨.val,[⟨k1, .sh⟩]⟩]=some ⟨[B (p x)],[],none⟩) {f0:Fl} (h0:ac f0=true):
  fix Tb md 288 [R (row ab l) f0,⟨.val,[⟨.fn g [k0,k1], .sh⟩]⟩]=some ⟨[B (l.any p)],[],none⟩:=by
 refine bB (fn:=ir288) tb_288 rfl rfl (by decide) rfl ?_;simp only[aj,aV,List.map_cons,List.map_nil,ir288,ai h0,List.head?_nil,reduceCtorEq,if_false,cb,aa,ae,bp,al,aG,af,aH]
 generalize hr:(⟨_,[],none⟩:Ret)=r
 obtain ⟨ea,hea⟩:=nm (row ab l)
 rw[←hea];obtain ⟨v,hv⟩:=nm (bz p l 0)
 have hv2:decide (0≤v)=l.any p:=by rw[hv];exact d8 p l 0 (by decide)
 rw[←hv2] at hr;clear hv2;intro add sub mul arith eq ne lt le gt ge neg conv mn mx not beq len at' ln bd cut app allS isNil mks set o hP F ho;have c1:o 351 [R ea (.sp 0 0),⟨.val,[⟨.fn g [k0,k1], .sh⟩]⟩]=some ⟨[I v],[],none⟩:=by rw[ho,hv,hea];exact FT g hg k0 k1 p l hl hp rfl
 cbv;rw[c1];cbv;rw[←hr,F.ge]
def mc (limit:Int) (drops strips:List Int):Bool:=inR limit 0 9&&decide (drops.length≤6)&&decide (strips.length≤6)&&bytes drops&&bytes strips
theorem HO (limit:Int) (drops strips:List Int) (lists:Bool) (hd:drops.length≤1099511627776) (hs:strips.length≤1099511627776) {f0 f1:Fl} (h0:ac f0=true) (h1:ac f1=true):
  fix Tb md 68 [⟨.agg,[⟨.int .i64 limit, .sc⟩,⟨.row () (row fI drops),f0⟩,⟨.row () (row fI strips),f1⟩,⟨.bool lists, .sc⟩]⟩]=some ⟨[B (mc limit drops strips)],[],none⟩:=by
 refine bB (fn:=ir68) tb_68 rfl rfl (by decide) rfl ?_;simp only[aj,aV,List.map_cons,List.map_nil,ir68,ai h0,ai h1,List.head?_nil,reduceCtorEq,if_false,cb,aa,ae,bp,al,aG,af,aH]
 generalize hr:(⟨_,[],none⟩:Ret)=r
 obtain ⟨ed,hed⟩:=nm (row fI drops)
 obtain ⟨es,hes⟩:=nm (row fI strips)
 rw[←hed,←hes];obtain ⟨v1,hv1⟩:=nm (inR limit 0 9)
 obtain ⟨v2,hv2⟩:=nm (bytes drops)
 obtain ⟨v3,hv3⟩:=nm (bytes strips)
 intro add sub mul arith eq ne lt le gt ge neg conv mn mx not beq len at' ln bd cut app allS isNil mks set o hP F ho;have ld:=F.len_at hed;have ls:=F.len_at hes;have c1:o 230 [I limit,I 0,I 9]=some ⟨[B v1],[],none⟩:=by rw[ho,hv1];exact fE ..
 have c2:o 231 [R ed (.sp 0 0)]=some ⟨[B v2],[],none⟩:=by rw[ho,hv2,hed];exact BF _ hd rfl
 have c3:o 231 [R es (.sp 0 0)]=some ⟨[B v3],[],none⟩:=by rw[ho,hv3,hes];exact BF _ hs rfl
 cbv
 repeat' (first | (rw[c1];cbv) | (rw[c2];cbv) | (rw[c3];cbv) | (refine both (fun c=>?_) (fun c=>?_)<;>(try rw[c])<;>(try cbv)))
 all_goals (clear hP c1 c2 c3 ho;unfold At at ld ls;try simp only[F.eq,F.ne,F.le,F.lt,F.ge,F.gt,F.not,F.beq,ld,ls] at *;clear F;subst hr)
 all_goals (simp_all[mc]<;>(intros;omega))
def jz (l:List Int):Int:=(l.getLast?).getD 0
def bv (b:List Int) (e:Ext):Bool:= !bq b e.tag
def lost (b:Box) (e:Ext):Bool:=bq b.drops e.tag||(b.lists&& !bq b.strips e.tag&& !inR e.tag 1 3)
def rP (b:Box) (h:Hello):Bool:=decide (0 < b.limit)&&decide (b.limit < jz h.versions)
def fS (b:Box) (h:Hello):Bool:=mc b.limit b.drops b.strips&&aC h&& !rP b h&& !h.exts.any (lost b)
def pbV (b:Box) (h:Hello):Hello:=if fS b h then ⟨h.versions,sel (bv b.strips) idE h.exts⟩ else ⟨[],[]⟩
theorem lP {b:Box} {h:Hello} (m:h.Mid):(pbV b h).Mid:=by
 unfold pbV;split
 ·unfold Hello.Mid at *;exact ⟨m.1,Nat.le_trans aI m.2.1,fun y hy=>m.2.2 y (by simp only[cV] at hy;exact (List.mem_filter.1 hy).1)⟩
 ·exact ⟨by simp,by simp,by simp⟩
theorem tc {h:Hello} (hh:aC h=true):∃ p y,h.versions=p++[y]∧jz h.versions=y:=by
 unfold aC aK at hh;simp only[Bool.and_eq_true,decide_eq_true_eq] at hh;rcases List.eq_nil_or_concat h.versions with h0 | ⟨p,y,h0⟩
 ·rw[h0] at hh;simp at hh
 ·rw[List.concat_eq_append] at h0;exact ⟨p,y,h0,by rw[h0];simp[jz]⟩
def tJ (m:Int):List Int→Int
 | []=>m
 | x::xs=>tJ (if x > m then x else m) xs
theorem yh:∀ (xs pre:List Int) (m:Int),fp (pre++[m]) xs=true→tJ m xs=jz (m::xs)
 | [],_,m,_=>rfl
 | x::xs,pre,m,h=>by
  unfold fp at h;simp only[Bool.and_eq_true] at h;obtain ⟨⟨_,h2⟩,h3⟩:=h
  have hx:x > m:=by simp at h2;omega
  show tJ (if x > m then x else m) xs=_
  rw[if_pos hx,yh xs (pre++[m]) x h3];show _=jz (m::x::xs);simp[jz]
theorem Fy {x:Int} {xs:List Int} (h:aK (x::xs)=true):tJ x xs=jz (x::xs):=by
 unfold aK at h;simp only[Bool.and_eq_true] at h;have h1:=h.1;unfold fp at h1;simp only[Bool.and_eq_true] at h1;exact yh xs [] x h1.2
end Go.Vm
