/- What the functions answer. -/
import Derived.Test.YtfidmkhcipcnmaaGreatGDTab
import Derived.Test.YtfidmkhcipcnmaaGreatGDFA
import Derived.Test.YtfidmkhcipcnmaaGreatGDFB
import Derived.Test.YtfidmkhcipcnmaaGreatGDFD
set_option maxHeartbeats 4000000
set_option maxRecDepth 10000
set_option linter.unusedVariables false
set_option linter.unusedSimpArgs false
namespace Go.Vm
def co (b:List Int) (e:Ext):Bool:= !bq b e.tag
def cK (h:Hello) (lv:List Int):Bool:=aC h&& !decide ((sel (br lv) idI h.versions).length=0)
def bT (h:Hello) (lv tg:List Int):Hello:=if cK h lv=true then ⟨sel (br lv) idI h.versions,sel (co tg) idE h.exts⟩ else ⟨[],[]⟩
theorem qJ {h:Hello} {lv tg:List Int} (m:h.Mid):(bT h lv tg).Mid:=by
 unfold bT;split
 ·unfold Hello.Mid at *;exact ⟨Nat.le_trans aI m.1,Nat.le_trans aI m.2.1,fun y hy=>m.2.2 y (by simp only[cV] at hy;exact (List.mem_filter.1 hy).1)⟩
 ·exact ⟨by simp,by simp,by simp⟩
theorem Ee (h:Hello) (lv tg:List Int) (mh:h.Mid) (a1:lv.length≤1073741824) (a2:tg.length≤1073741824) {f0 f1 f2 f3:Fl} (q0:ac f0=true) (q1:ac f1=true) (q2:ac f2=true) (q3:ac f3=true):
  fix Tb md 164 [aa (row fI h.versions) (row ab h.exts) f0 f1,R (row fI lv) f2,R (row fI tg) f3]=some ⟨[aa (row fI (bT h lv tg).versions) (row ab (bT h lv tg).exts) (.ow false) (.ow false),B (cK h lv)],[],none⟩∨
  ((bT h lv tg).exts=[]∧fix Tb md 164 [aa (row fI h.versions) (row ab h.exts) f0 f1,R (row fI lv) f2,R (row fI tg) f3]=some ⟨[aa (row fI (bT h lv tg).versions) [] (.ow false) .nl,B (cK h lv)],[],none⟩)∨
  ((bT h lv tg).versions=[]∧(bT h lv tg).exts=[]∧fix Tb md 164 [aa (row fI h.versions) (row ab h.exts) f0 f1,R (row fI lv) f2,R (row fI tg) f3]=some ⟨[aa [] [] .nl .nl,B (cK h lv)],[],none⟩):=by
 have mh':=mh;unfold Hello.Mid at mh';have hvl:=mh'.1;have hxl:=mh'.2.1;have wh:∀ y∈h.exts,y.body.length≤1099511627776:=fun y hy=>Nat.le_trans (show y.body.length≤1073741824 from mh'.2.2 y hy) (by decide)
 obtain ⟨W,hW⟩:=nm (sel (br lv) idI h.versions)
 obtain ⟨Z,hZ⟩:=nm (sel (co tg) idE h.exts)
 have hWl:W.length≤1073741824:=by rw[hW];exact Nat.le_trans aI hvl
 have hZl:Z.length≤1073741824:=by rw[hZ];exact Nat.le_trans aI hxl
 suffices hmain:∀ r,(aC h=true→W≠[]→Z≠[]→(⟨[aa (row fI W) (row ab Z) (.ow false) (.ow false),B true],[],none⟩:Ret)=r)→(aC h=true→W≠[]→Z=[]→(⟨[aa (row fI W) [] (.ow false) .nl,B true],[],none⟩:Ret)=r)→(aC h=false∨W=[]→(⟨[aa [] [] .nl .nl,B false],[],none⟩:Ret)=r)→fix Tb md 164 [aa (row fI h.versions) (row ab h.exts) f0 f1,R (row fI lv) f2,R (row fI tg) f3]=some r by
  cases hi:aC h with
  | false=>
   have ho:cK h lv=false:=by rw[cK,hi];rfl
   have hp:bT h lv tg=⟨[],[]⟩:=by rw[bT,ho];rfl
   rw[hp,ho];exact .inr (.inr ⟨rfl,rfl,hmain _ (fun q=>by rw[hi] at q;exact Bool.noConfusion q) (fun q=>by rw[hi] at q;exact Bool.noConfusion q) (fun _=>rfl)⟩)
  | true=>
   by_cases hw:W=[]
   ·have ho:cK h lv=false:=by rw[cK,hi,←hW,hw];rfl
    have hp:bT h lv tg=⟨[],[]⟩:=by rw[bT,ho];rfl
    rw[hp,ho];exact .inr (.inr ⟨rfl,rfl,hmain _ (fun _ q=>absurd hw q) (fun _ q=>absurd hw q) (fun _=>rfl)⟩)
   ·have ho:cK h lv=true:=by rw[cK,hi,←hW];simp[hw]
    have hp:bT h lv tg=⟨W,Z⟩:=by rw[bT,ho,if_pos rfl,hW,hZ]
    rw[hp,ho];by_cases hz:Z=[]
    ·refine .inr (.inl ⟨hz,hmain _ (fun _ _ q=>absurd hz q) (fun _ _ _=>rfl) (fun q=>?_)⟩)
     rcases q with q | q
     ·rw[hi] at q;exact Bool.noConfusion q
     ·exact absurd q hw
    ·refine .inl (hmain _ (fun _ _ _=>rfl) (fun _ _ q=>absurd q hz) (fun q=>?_))
     rcases q with q | q
     ·rw[hi] at q;exact Bool.noConfusion q
     ·exact absurd q hw
 intro r rA rB rC;obtain ⟨dv,hdv⟩:=nm (row fI h.versions)
 obtain ⟨dx,hdx⟩:=nm (row ab h.exts)
 obtain ⟨el,hel⟩:=nm (row fI lv)
 obtain ⟨et,het⟩:=nm (row fI tg)
 rw[←hdv,←hdx,←hel,←het];obtain ⟨u,hu⟩:=nm (aC h)
 refine cJ (fn:=ir164) tb_164 rfl rfl (by decide) rfl ?_;intro Q hQ;simp only[aj,aV,List.map_cons,List.map_nil,ir164,ai q0,ai q1,ai q2,ai q3,List.head?_nil,reduceCtorEq,if_false,cb,aa,ae,bp,al,aG,af,aH]
 intro add sub mul arith eq ne lt le gt ge neg conv mn mx not beq len at' ln bd cut app allS isNil mks set o hP F ho;have lvn:=F.len_at hdv;have lxn:=F.len_at hdx;have c1:o 142 [aa dv dx (.sp 0 0) (.sp 0 1)]=some ⟨[B u],[],none⟩:=by rw[ho,hu,hdv,hdx];exact jW _ (by omega) (by omega) wh rfl rfl
 cbv;rw[c1];cbv;refine both (fun d0=>?_) (fun d0=>?_)<;>rw[d0]<;>cbv
 ·rw[hQ];cbv;exact congrArg some (rC (.inl (by rw[←hu];exact F.not_t d0)))
 have hel1:aC h=true:=by rw[←hu];exact F.not_f d0
 refine ah hP (σ:=List Int×List Int×Int×Option (List (List V))) (fun s=>match s.2.2.2 with
  | none=>[(0,aa dv dx .sh .sh),(1,R el .sh),(2,R et .sh),(3,⟨.ptr 86 0,[]⟩),(6,⟨.ptr 89 0,[]⟩),(7,B false),(8,⟨.ptr 91 0,[]⟩),(9,I s.2.2.1),(86,⟨.box (),[⟨.row () dv, .sh⟩,⟨.row () dx, .sh⟩]⟩),(89,⟨.box (),[⟨.row () [], .nl⟩,⟨.row () [], .nl⟩]⟩),(91,⟨.box (),[⟨.row () [], .nl⟩,⟨.row () [], .nl⟩]⟩)]
  | some eo=>[(0,aa dv dx .sh .sh),(1,R el .sh),(2,R et .sh),(3,⟨.ptr 86 0,[]⟩),(6,⟨.ptr 89 0,[]⟩),(7,B false),(8,⟨.ptr 91 0,[]⟩),(9,I s.2.2.1),(86,⟨.box (),[⟨.row () dv, .sh⟩,⟨.row () dx, .sh⟩]⟩),(89,⟨.box (),[⟨.row () [], .nl⟩,⟨.row () [], .nl⟩]⟩),(91,⟨.box (),[⟨.row () eo, .ow false⟩,⟨.row () [], .nl⟩]⟩)])
  (fun s=>At s.2.2.1 s.2.1.length∧h.versions=s.2.1++s.1∧(match s.2.2.2 with | none=>sel (br lv) idI s.2.1=[] | some eo=>eo=row fI (sel (br lv) idI s.2.1)∧sel (br lv) idI s.2.1≠[])) (fun s=>s.1.length) (h.versions,[],0,none) rfl ⟨rfl,rfl,rfl⟩ ?_
 intro c2 Q1 hc2 hQ1;rintro ⟨suf,pre,i,j⟩ ⟨hi,hl',hb⟩ ih
 simp only at hi hl' hb ih;have hpre:pre.length≤1073741824:=by rw[hl'] at hvl;simp at hvl;omega
 have hs:(sel (br lv) idI pre).length≤pre.length:=aI;cases j with
 | none=>
  cbv;cases suf with
  | cons x suf=>
   obtain ⟨ix,hix⟩:=nm (pre.length * 1)
   have hi':At (add .i64 i 1) (pre++[x]).length:=ao (F.inc hi (by omega)) (by simp)
   have hl2:h.versions=(pre++[x])++suf:=by rw[hl'];simp
   have p0:at' 1 dv i=some (ix,[.int .i64 x]):=by rw[hix];exact F.get hi hdv hl' (fun _=>rfl) (by decide)
   obtain ⟨v,hv⟩:=nm (bq lv x)
   have hPx:br lv x= !v:=by rw[hv];rfl
   have c3:o 285 [R el (.sp 0 0),I x]=some ⟨[B v],[],none⟩:=by rw[ho,hv,hel];exact jD _ _ (by omega) rfl
   rw[F.lt_t hi lvn (by simp[hl'])];cbv
   rw[p0];cbv;rw[c3];cbv;refine both (fun d=>?_) (fun d=>?_)<;>rw[d]<;>cbv
   ·rw[p0];cbv;rw[show allS [[.int .i64 x]]=true by rw[F.allS];rfl];cbv
    obtain ⟨eo',heo'⟩:=nm (row fI (sel (br lv) idI pre++[idI x]))
    rw[show app 1 [] [[.int .i64 x]]=some eo' by rw[heo'];exact F.push (k:=1) (f:=fI) (l:=sel (br lv) idI pre) (x:=idI x) (by rw[hb];rfl) (fun _=>rfl) rfl (by omega)];cbv
    try (rw[show isNil [[.int .i64 x]]=false by rw[F.isNil];rfl];cbv)
    refine ih (suf,pre++[x],add .i64 i 1,some eo') ⟨hi',hl2,?_⟩ (by simp)
    simp only;rw[dz (by rw[hPx,F.not_t d];rfl)]
    exact ⟨heo',by simp⟩
   ·refine ih (suf,pre++[x],add .i64 i 1,none) ⟨hi',hl2,?_⟩ (by simp)
    simp only;rw[d6 (by rw[hPx,F.not_f d];rfl)]
    exact hb
  | nil=>
   have hWp:sel (br lv) idI pre=W:=by rw[hW,hl',List.append_nil]
   rw[hWp] at hb;rw[F.lt_f hi lvn (by simp[hl'])];cbv
   rw[hQ1];cbv;clear ih hl' hs hpre hWp;refine ah hP (σ:=List Ext×List Ext×Int×Option (List (List V))) (fun s=>match s.2.2.2 with
    | none=>[(0,aa dv dx .sh .sh),(1,R el .sh),(2,R et .sh),(3,⟨.ptr 86 0,[]⟩),(6,⟨.ptr 89 0,[]⟩),(7,B false),(8,⟨.ptr 91 0,[]⟩),(9,I i),(10,I s.2.2.1),(86,⟨.box (),[⟨.row () dv, .sh⟩,⟨.row () dx, .sh⟩]⟩),(89,⟨.box (),[⟨.row () [], .nl⟩,⟨.row () [], .nl⟩]⟩),(91,⟨.box (),[⟨.row () [], .nl⟩,⟨.row () [], .nl⟩]⟩)]
    | some eo=>[(0,aa dv dx .sh .sh),(1,R el .sh),(2,R et .sh),(3,⟨.ptr 86 0,[]⟩),(6,⟨.ptr 89 0,[]⟩),(7,B false),(8,⟨.ptr 91 0,[]⟩),(9,I i),(10,I s.2.2.1),(86,⟨.box (),[⟨.row () dv, .sh⟩,⟨.row () dx, .sh⟩]⟩),(89,⟨.box (),[⟨.row () [], .nl⟩,⟨.row () [], .nl⟩]⟩),(91,⟨.box (),[⟨.row () [], .nl⟩,⟨.row () eo, .ow false⟩]⟩)])
    (fun s=>At s.2.2.1 s.2.1.length∧h.exts=s.2.1++s.1∧(match s.2.2.2 with | none=>sel (co tg) idE s.2.1=[] | some eo=>eo=row ab (sel (co tg) idE s.2.1)∧sel (co tg) idE s.2.1≠[])) (fun s=>s.1.length) (h.exts,[],0,none) rfl ⟨rfl,rfl,rfl⟩ ?_
   intro c4 Q2 hc4 hQ2;rintro ⟨suf,pre,k,m⟩ ⟨hk,hl',hz⟩ ih
   simp only at hk hl' hz ih;have hpre:pre.length≤1073741824:=by rw[hl'] at hxl;simp at hxl;omega
   have hs:(sel (co tg) idE pre).length≤pre.length:=aI;cases m with
   | none=>
    cbv;cases suf with
    | cons x suf=>
     obtain ⟨ix,hix⟩:=nm (pre.length * 2)
     obtain ⟨e1,he1⟩:=nm (row fI x.body)
     have hx:=wh x (by rw[hl'];simp)
     have hi':At (add .i64 k 1) (pre++[x]).length:=ao (F.inc hk (by omega)) (by simp)
     have hl2:h.exts=(pre++[x])++suf:=by rw[hl'];simp
     have p0:at' 2 dx k=some (ix,[.int .i64 x.tag, .row () e1]):=by rw[hix,he1];exact F.get hk hdx hl' (fun _=>rfl) (by decide)
     obtain ⟨v,hv⟩:=nm (bq tg x.tag)
     have hPx:co tg x= !v:=by rw[hv];rfl
     have c3:o 285 [R et (.sp 0 0),I x.tag]=some ⟨[B v],[],none⟩:=by rw[ho,hv,het];exact jD _ _ (by omega) rfl
     rw[F.lt_t hk lxn (by simp[hl'])];cbv
     rw[p0];cbv;rw[c3];cbv;refine both (fun d=>?_) (fun d=>?_)<;>rw[d]<;>cbv
     ·rw[p0];cbv;rw[p0];cbv;rw[show allS e1=true from F.scal he1 (fun _=>rfl)];cbv
      rw[F.app_nil he1 (fun _=>rfl) hx];cbv
      rw[show allS [[.int .i64 x.tag, .row () e1]]=false by rw[F.allS];rfl];cbv
      obtain ⟨eo',heo'⟩:=nm (row ab (sel (co tg) idE pre++[idE x]))
      rw[show app 2 [] [[.int .i64 x.tag, .row () e1]]=some eo' by rw[heo',he1];exact F.push (k:=2) (f:=ab) (l:=sel (co tg) idE pre) (x:=idE x) (by rw[hz];rfl) (fun _=>rfl) rfl (by omega)];cbv
      try (rw[show isNil [[.int .i64 x.tag, .row () e1]]=false by rw[F.isNil];rfl];cbv)
      refine ih (suf,pre++[x],add .i64 k 1,some eo') ⟨hi',hl2,?_⟩ (by simp)
      simp only;rw[dz (by rw[hPx,F.not_t d];rfl)]
      exact ⟨heo',by simp⟩
     ·refine ih (suf,pre++[x],add .i64 k 1,none) ⟨hi',hl2,?_⟩ (by simp)
      simp only;rw[d6 (by rw[hPx,F.not_f d];rfl)]
      exact hz
    | nil=>
     have hZp:sel (co tg) idE pre=Z:=by rw[hZ,hl',List.append_nil]
     rw[hZp] at hz;have lw:At (len []) W.length:=F.len_at (f:=fI) (l:=W) (by rw[hb];rfl)
     have g1:eq (len []) 0=decide (W.length=0):=F.eq_n lw rfl;rw[F.lt_f hk lxn (by simp[hl'])];cbv
     rw[hQ2];cbv;rw[show eq (len []) 0=true by rw[g1,hb];rfl];cbv
     rw[hQ];cbv;exact congrArg some (rC (.inr hb))
   | some mx=>
    cbv;cases suf with
    | cons x suf=>
     obtain ⟨ix,hix⟩:=nm (pre.length * 2)
     obtain ⟨e1,he1⟩:=nm (row fI x.body)
     have hx:=wh x (by rw[hl'];simp)
     have hi':At (add .i64 k 1) (pre++[x]).length:=ao (F.inc hk (by omega)) (by simp)
     have hl2:h.exts=(pre++[x])++suf:=by rw[hl'];simp
     have p0:at' 2 dx k=some (ix,[.int .i64 x.tag, .row () e1]):=by rw[hix,he1];exact F.get hk hdx hl' (fun _=>rfl) (by decide)
     obtain ⟨v,hv⟩:=nm (bq tg x.tag)
     have hPx:co tg x= !v:=by rw[hv];rfl
     have c3:o 285 [R et (.sp 0 0),I x.tag]=some ⟨[B v],[],none⟩:=by rw[ho,hv,het];exact jD _ _ (by omega) rfl
     rw[F.lt_t hk lxn (by simp[hl'])];cbv
     rw[p0];cbv;rw[c3];cbv;refine both (fun d=>?_) (fun d=>?_)<;>rw[d]<;>cbv
     ·rw[p0];cbv;rw[p0];cbv;rw[show allS e1=true from F.scal he1 (fun _=>rfl)];cbv
      rw[F.app_nil he1 (fun _=>rfl) hx];cbv
      rw[show allS [[.int .i64 x.tag, .row () e1]]=false by rw[F.allS];rfl];cbv
      obtain ⟨eo',heo'⟩:=nm (row ab (sel (co tg) idE pre++[idE x]))
      rw[show app 2 mx [[.int .i64 x.tag, .row () e1]]=some eo' by rw[heo',he1];exact F.push (k:=2) (f:=ab) (l:=sel (co tg) idE pre) (x:=idE x) hz.1 (fun _=>rfl) rfl (by omega)];cbv
      try (rw[show isNil [[.int .i64 x.tag, .row () e1]]=false by rw[F.isNil];rfl];cbv)
      refine ih (suf,pre++[x],add .i64 k 1,some eo') ⟨hi',hl2,?_⟩ (by simp)
      simp only;rw[dz (by rw[hPx,F.not_t d];rfl)]
      exact ⟨heo',by simp⟩
     ·refine ih (suf,pre++[x],add .i64 k 1,some mx) ⟨hi',hl2,?_⟩ (by simp)
      simp only;rw[d6 (by rw[hPx,F.not_f d];rfl)]
      exact hz
    | nil=>
     have hZp:sel (co tg) idE pre=Z:=by rw[hZ,hl',List.append_nil]
     rw[hZp] at hz;have lw:At (len []) W.length:=F.len_at (f:=fI) (l:=W) (by rw[hb];rfl)
     have g1:eq (len []) 0=decide (W.length=0):=F.eq_n lw rfl;rw[F.lt_f hk lxn (by simp[hl'])];cbv
     rw[hQ2];cbv;rw[show eq (len []) 0=true by rw[g1,hb];rfl];cbv
     rw[hQ];cbv;exact congrArg some (rC (.inr hb))
 | some jx=>
  cbv;cases suf with
  | cons x suf=>
   obtain ⟨ix,hix⟩:=nm (pre.length * 1)
   have hi':At (add .i64 i 1) (pre++[x]).length:=ao (F.inc hi (by omega)) (by simp)
   have hl2:h.versions=(pre++[x])++suf:=by rw[hl'];simp
   have p0:at' 1 dv i=some (ix,[.int .i64 x]):=by rw[hix];exact F.get hi hdv hl' (fun _=>rfl) (by decide)
   obtain ⟨v,hv⟩:=nm (bq lv x)
   have hPx:br lv x= !v:=by rw[hv];rfl
   have c3:o 285 [R el (.sp 0 0),I x]=some ⟨[B v],[],none⟩:=by rw[ho,hv,hel];exact jD _ _ (by omega) rfl
   rw[F.lt_t hi lvn (by simp[hl'])];cbv
   rw[p0];cbv;rw[c3];cbv;refine both (fun d=>?_) (fun d=>?_)<;>rw[d]<;>cbv
   ·rw[p0];cbv;rw[show allS [[.int .i64 x]]=true by rw[F.allS];rfl];cbv
    obtain ⟨eo',heo'⟩:=nm (row fI (sel (br lv) idI pre++[idI x]))
    rw[show app 1 jx [[.int .i64 x]]=some eo' by rw[heo'];exact F.push (k:=1) (f:=fI) (l:=sel (br lv) idI pre) (x:=idI x) hb.1 (fun _=>rfl) rfl (by omega)];cbv
    try (rw[show isNil [[.int .i64 x]]=false by rw[F.isNil];rfl];cbv)
    refine ih (suf,pre++[x],add .i64 i 1,some eo') ⟨hi',hl2,?_⟩ (by simp)
    simp only;rw[dz (by rw[hPx,F.not_t d];rfl)]
    exact ⟨heo',by simp⟩
   ·refine ih (suf,pre++[x],add .i64 i 1,some jx) ⟨hi',hl2,?_⟩ (by simp)
    simp only;rw[d6 (by rw[hPx,F.not_f d];rfl)]
    exact hb
  | nil=>
   have hWp:sel (br lv) idI pre=W:=by rw[hW,hl',List.append_nil]
   rw[hWp] at hb;rw[F.lt_f hi lvn (by simp[hl'])];cbv
   rw[hQ1];cbv;clear ih hl' hs hpre hWp;refine ah hP (σ:=List Ext×List Ext×Int×Option (List (List V))) (fun s=>match s.2.2.2 with
    | none=>[(0,aa dv dx .sh .sh),(1,R el .sh),(2,R et .sh),(3,⟨.ptr 86 0,[]⟩),(6,⟨.ptr 89 0,[]⟩),(7,B false),(8,⟨.ptr 91 0,[]⟩),(9,I i),(10,I s.2.2.1),(86,⟨.box (),[⟨.row () dv, .sh⟩,⟨.row () dx, .sh⟩]⟩),(89,⟨.box (),[⟨.row () [], .nl⟩,⟨.row () [], .nl⟩]⟩),(91,⟨.box (),[⟨.row () jx, .ow false⟩,⟨.row () [], .nl⟩]⟩)]
    | some eo=>[(0,aa dv dx .sh .sh),(1,R el .sh),(2,R et .sh),(3,⟨.ptr 86 0,[]⟩),(6,⟨.ptr 89 0,[]⟩),(7,B false),(8,⟨.ptr 91 0,[]⟩),(9,I i),(10,I s.2.2.1),(86,⟨.box (),[⟨.row () dv, .sh⟩,⟨.row () dx, .sh⟩]⟩),(89,⟨.box (),[⟨.row () [], .nl⟩,⟨.row () [], .nl⟩]⟩),(91,⟨.box (),[⟨.row () jx, .ow false⟩,⟨.row () eo, .ow false⟩]⟩)])
    (fun s=>At s.2.2.1 s.2.1.length∧h.exts=s.2.1++s.1∧(match s.2.2.2 with | none=>sel (co tg) idE s.2.1=[] | some eo=>eo=row ab (sel (co tg) idE s.2.1)∧sel (co tg) idE s.2.1≠[])) (fun s=>s.1.length) (h.exts,[],0,none) rfl ⟨rfl,rfl,rfl⟩ ?_
   intro c4 Q2 hc4 hQ2;rintro ⟨suf,pre,k,m⟩ ⟨hk,hl',hz⟩ ih
   simp only at hk hl' hz ih;have hpre:pre.length≤1073741824:=by rw[hl'] at hxl;simp at hxl;omega
   have hs:(sel (co tg) idE pre).length≤pre.length:=aI;cases m with
   | none=>
    cbv;cases suf with
    | cons x suf=>
     obtain ⟨ix,hix⟩:=nm (pre.length * 2)
     obtain ⟨e1,he1⟩:=nm (row fI x.body)
     have hx:=wh x (by rw[hl'];simp)
     have hi':At (add .i64 k 1) (pre++[x]).length:=ao (F.inc hk (by omega)) (by simp)
     have hl2:h.exts=(pre++[x])++suf:=by rw[hl'];simp
     have p0:at' 2 dx k=some (ix,[.int .i64 x.tag, .row () e1]):=by rw[hix,he1];exact F.get hk hdx hl' (fun _=>rfl) (by decide)
     obtain ⟨v,hv⟩:=nm (bq tg x.tag)
     have hPx:co tg x= !v:=by rw[hv];rfl
     have c3:o 285 [R et (.sp 0 0),I x.tag]=some ⟨[B v],[],none⟩:=by rw[ho,hv,het];exact jD _ _ (by omega) rfl
     rw[F.lt_t hk lxn (by simp[hl'])];cbv
     rw[p0];cbv;rw[c3];cbv;refine both (fun d=>?_) (fun d=>?_)<;>rw[d]<;>cbv
     ·rw[p0];cbv;rw[p0];cbv;rw[show allS e1=true from F.scal he1 (fun _=>rfl)];cbv
      rw[F.app_nil he1 (fun _=>rfl) hx];cbv
      rw[show allS [[.int .i64 x.tag, .row () e1]]=false by rw[F.allS];rfl];cbv
      obtain ⟨eo',heo'⟩:=nm (row ab (sel (co tg) idE pre++[idE x]))
      rw[show app 2 [] [[.int .i64 x.tag, .row () e1]]=some eo' by rw[heo',he1];exact F.push (k:=2) (f:=ab) (l:=sel (co tg) idE pre) (x:=idE x) (by rw[hz];rfl) (fun _=>rfl) rfl (by omega)];cbv
      try (rw[show isNil [[.int .i64 x.tag, .row () e1]]=false by rw[F.isNil];rfl];cbv)
      refine ih (suf,pre++[x],add .i64 k 1,some eo') ⟨hi',hl2,?_⟩ (by simp)
      simp only;rw[dz (by rw[hPx,F.not_t d];rfl)]
      exact ⟨heo',by simp⟩
     ·refine ih (suf,pre++[x],add .i64 k 1,none) ⟨hi',hl2,?_⟩ (by simp)
      simp only;rw[d6 (by rw[hPx,F.not_f d];rfl)]
      exact hz
    | nil=>
     have hZp:sel (co tg) idE pre=Z:=by rw[hZ,hl',List.append_nil]
     rw[hZp] at hz;have lw:At (len jx) W.length:=F.len_at hb.1;have g1:eq (len jx) 0=decide (W.length=0):=F.eq_n lw rfl;rw[F.lt_f hk lxn (by simp[hl'])];cbv
     rw[hQ2];cbv;rw[show eq (len jx) 0=false by rw[g1];simp[hb.2]];cbv
     rw[hQ];cbv;rw[hb.1];exact congrArg some (rB hel1 hb.2 hz)
   | some mx=>
    cbv;cases suf with
    | cons x suf=>
     obtain ⟨ix,hix⟩:=nm (pre.length * 2)
     obtain ⟨e1,he1⟩:=nm (row fI x.body)
     have hx:=wh x (by rw[hl'];simp)
     have hi':At (add .i64 k 1) (pre++[x]).length:=ao (F.inc hk (by omega)) (by simp)
     have hl2:h.exts=(pre++[x])++suf:=by rw[hl'];simp
     have p0:at' 2 dx k=some (ix,[.int .i64 x.tag, .row () e1]):=by rw[hix,he1];exact F.get hk hdx hl' (fun _=>rfl) (by decide)
     obtain ⟨v,hv⟩:=nm (bq tg x.tag)
     have hPx:co tg x= !v:=by rw[hv];rfl
     have c3:o 285 [R et (.sp 0 0),I x.tag]=some ⟨[B v],[],none⟩:=by rw[ho,hv,het];exact jD _ _ (by omega) rfl
     rw[F.lt_t hk lxn (by simp[hl'])];cbv
     rw[p0];cbv;rw[c3];cbv;refine both (fun d=>?_) (fun d=>?_)<;>rw[d]<;>cbv
     ·rw[p0];cbv;rw[p0];cbv;rw[show allS e1=true from F.scal he1 (fun _=>rfl)];cbv
      rw[F.app_nil he1 (fun _=>rfl) hx];cbv
      rw[show allS [[.int .i64 x.tag, .row () e1]]=false by rw[F.allS];rfl];cbv
      obtain ⟨eo',heo'⟩:=nm (row ab (sel (co tg) idE pre++[idE x]))
      rw[show app 2 mx [[.int .i64 x.tag, .row () e1]]=some eo' by rw[heo',he1];exact F.push (k:=2) (f:=ab) (l:=sel (co tg) idE pre) (x:=idE x) hz.1 (fun _=>rfl) rfl (by omega)];cbv
      try (rw[show isNil [[.int .i64 x.tag, .row () e1]]=false by rw[F.isNil];rfl];cbv)
      refine ih (suf,pre++[x],add .i64 k 1,some eo') ⟨hi',hl2,?_⟩ (by simp)
      simp only;rw[dz (by rw[hPx,F.not_t d];rfl)]
      exact ⟨heo',by simp⟩
     ·refine ih (suf,pre++[x],add .i64 k 1,some mx) ⟨hi',hl2,?_⟩ (by simp)
      simp only;rw[d6 (by rw[hPx,F.not_f d];rfl)]
      exact hz
    | nil=>
     have hZp:sel (co tg) idE pre=Z:=by rw[hZ,hl',List.append_nil]
     rw[hZp] at hz;have lw:At (len jx) W.length:=F.len_at hb.1;have g1:eq (len jx) 0=decide (W.length=0):=F.eq_n lw rfl;rw[F.lt_f hk lxn (by simp[hl'])];cbv
     rw[hQ2];cbv;rw[show eq (len jx) 0=false by rw[g1];simp[hb.2]];cbv
     rw[hQ];cbv;rw[hb.1,hz.1];exact congrArg some (rA hel1 hb.2 hz.2)
end Go.Vm
