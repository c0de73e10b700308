/- What the functions answer. -/
import Derived.Test.YtfidmkhcipcnmaaGreatGDTab
import Derived.Test.YtfidmkhcipcnmaaGreatGDFA
import Derived.Test.YtfidmkhcipcnmaaGreatGDFB
import Derived.Test.YtfidmkhcipcnmaaGreatGDFC
set_option maxHeartbeats 4000000
set_option maxRecDepth 10000
set_option linter.unusedVariables false
set_option linter.unusedSimpArgs false
namespace Go.Vm
theorem ET {P G C:Prop} (main:(P→G)→C) (proof:P→G):C:=main proof
theorem Ek (b:Box) (h:Hello) (bd1:b.drops.length≤1073741824) (bs1:b.strips.length≤1073741824) (mh:h.Mid) {f0 f1 f2 f3:Fl} (q0:ac f0=true) (q1:ac f1=true) (q2:ac f2=true) (q3:ac f3=true) (Z:List Ext) (hZ:Z=sel (bv b.strips) idE h.exts) (r:Ret) (rA:fS b h=true→Z≠[]→(⟨[aa (row fI h.versions) (row ab Z) (.ow false) (.ow false),B true],[],none⟩:Ret)=r) (rB:fS b h=true→Z=[]→(⟨[aa (row fI h.versions) [] (.ow false) .nl,B true],[],none⟩:Ret)=r) (rC:fS b h=false→(⟨[aa [] [] .nl .nl,B false],[],none⟩:Ret)=r):fix Tb md 173 [aG b.limit (row fI b.drops) (row fI b.strips) b.lists f0 f1,aa (row fI h.versions) (row ab h.exts) f2 f3]=some r:=by
 have mh':=mh;unfold Hello.Mid at mh';have hvl:=mh'.1;have hxl:=mh'.2.1;have wh:∀ y∈h.exts,y.body.length≤1099511627776:=fun y hy=>Nat.le_trans (show y.body.length≤1073741824 from mh'.2.2 y hy) (by decide)
 obtain ⟨u1,hu1⟩:=nm (mc b.limit b.drops b.strips)
 obtain ⟨u2,hu2⟩:=nm (aC h)
 obtain ⟨t1,ht1⟩:=nm (decide (0 < b.limit))
 obtain ⟨w,hw⟩:=nm (jz h.versions)
 obtain ⟨t2,ht2⟩:=nm (decide (b.limit < w))
 have hp:fS b h=(u1&&u2&& !(t1&&t2)&& !h.exts.any (lost b)):=by rw[hu1,hu2,ht1,ht2,hw];rfl
 rw[hp] at rA rB rC;clear hp;obtain ⟨dv,hdv⟩:=nm (row fI h.versions)
 obtain ⟨dx,hdx⟩:=nm (row ab h.exts)
 obtain ⟨ed,hed⟩:=nm (row fI b.drops)
 obtain ⟨es,hes⟩:=nm (row fI b.strips)
 rw[←hdv] at rA rB;rw[←hdv,←hdx,←hed,←hes];refine cJ (fn:=ir173) tb_173 rfl rfl (by decide) rfl ?_;intro Q hQ;simp only[aj,aV,List.map_cons,List.map_nil,ir173,ai q0,ai q1,ai q2,ai q3,List.head?_nil,reduceCtorEq,if_false,cb,aa,ae,bp,al,aG,af,aH]
 intro add sub mul arith eq ne lt le gt ge neg conv mn mx not beq len at' ln bd cut app allS isNil mks set o hP F ho;have lvn:=F.len_at hdv;have lxn:=F.len_at hdx;have c1:o 68 [aG b.limit ed es b.lists (.sp 0 1) (.sp 0 2)]=some ⟨[B u1],[],none⟩:=by rw[ho,hu1,hed,hes];exact HO _ _ _ _ (by omega) (by omega) rfl rfl
 have c2:o 142 [aa dv dx (.sp 0 0) (.sp 0 1)]=some ⟨[B u2],[],none⟩:=by rw[ho,hu2,hdv,hdx];exact jW _ (by omega) (by omega) wh rfl rfl
 have g1:gt b.limit 0=t1:=by rw[F.gt,ht1]
 have g2:gt w b.limit=t2:=by rw[F.gt,ht2]
 obtain ⟨ix9,hix9⟩:=nm ((h.versions.length - 1) * 1)
 have p9:u2=true→at' 1 dv (sub .i64 (len dv) 1)=some (ix9,[.int .i64 w]):=fun e=>by
  rw[hu2] at e;obtain ⟨p,y,h1,h2⟩:=tc e
  have hi:At (sub .i64 (len dv) 1) p.length:=by unfold At at lvn ⊢;rw[h1] at lvn;simp at lvn;rw[F.sub,lvn,aW (by omega) (by rw[h1] at hvl;simp at hvl;omega)];omega
  rw[hix9,hw,h2,show h.versions.length - 1=p.length by rw[h1];simp]
  exact F.get hi hdv h1 (fun _=>rfl) (by decide)
 have va:allS dv=true:=F.scal hdv (fun _=>rfl)
 have vn:app 1 [] dv=some dv:=F.app_nil hdv (fun _=>rfl) (by omega)
 cbv;rw[c1];cbv;refine both (fun d1=>?_) (fun d1=>?_)<;>rw[d1]<;>cbv
 ·rw[hQ];cbv;exact congrArg some (rC (by rw[F.not_t d1];rfl))
 rw[F.not_f d1,Bool.true_and] at rA rB rC;rw[c2];cbv;refine both (fun d2=>?_) (fun d2=>?_)<;>rw[d2]<;>cbv
 ·rw[hQ];cbv;exact congrArg some (rC (by rw[F.not_t d2];rfl))
 rw[F.not_f d2,Bool.true_and] at rA rB rC;have p9':=p9 (F.not_f d2);rw[g1];cbv;apply ET (P:=(t1&&t2)=false)
 case main=>
  intro key;refine both (fun d3=>?_) (fun d3=>?_)<;>rw[d3]<;>cbv
  ·rw[p9'];cbv;rw[g2];cbv;refine both (fun d4=>?_) (fun d4=>?_)<;>rw[d4]<;>cbv
   ·rw[hQ];cbv;exact congrArg some (rC (by rw[d3,d4];rfl))
   exact key (by rw[d3,d4];rfl)
  ·exact key (by rw[d3];rfl)
 case proof=>
  intro hov;rw[hov,Bool.not_false,Bool.true_and] at rA rB rC;rw[va];cbv;rw[vn];cbv;refine ah hP (σ:=List Ext×List Ext×Int×Option (List (List V))×Option (Int×Bool)) (fun s=>match s.2.2.2.1,s.2.2.2.2 with
    | none,none=>[(0,aG b.limit ed es b.lists .sh .sh),(1,aa dv dx .sh .sh),(2,⟨.ptr 97 0,[]⟩),(3,⟨.ptr 98 0,[]⟩),(4,⟨.ptr 99 0,[]⟩),(5,B false),(6,⟨.ptr 101 0,[]⟩),(7,I s.2.2.1),(97,⟨.box (),[⟨.int .i64 b.limit, .sc⟩,⟨.row () ed, .sh⟩,⟨.row () es, .sh⟩,⟨.bool b.lists, .sc⟩]⟩),(98,⟨.box (),[⟨.row () dv, .sh⟩,⟨.row () dx, .sh⟩]⟩),(99,⟨.box (),[⟨.row () [], .nl⟩,⟨.row () [], .nl⟩]⟩),(101,⟨.box (),[⟨.row () dv, .ow false⟩,⟨.row () [], .nl⟩]⟩)]
    | none,some j=>[(0,aG b.limit ed es b.lists .sh .sh),(1,aa dv dx .sh .sh),(2,⟨.ptr 97 0,[]⟩),(3,⟨.ptr 98 0,[]⟩),(4,⟨.ptr 99 0,[]⟩),(5,B false),(6,⟨.ptr 101 0,[]⟩),(7,I s.2.2.1),(8,I j.1),(9,B j.2),(97,⟨.box (),[⟨.int .i64 b.limit, .sc⟩,⟨.row () ed, .sh⟩,⟨.row () es, .sh⟩,⟨.bool b.lists, .sc⟩]⟩),(98,⟨.box (),[⟨.row () dv, .sh⟩,⟨.row () dx, .sh⟩]⟩),(99,⟨.box (),[⟨.row () [], .nl⟩,⟨.row () [], .nl⟩]⟩),(101,⟨.box (),[⟨.row () dv, .ow false⟩,⟨.row () [], .nl⟩]⟩)]
    | some eo,none=>[(0,aG b.limit ed es b.lists .sh .sh),(1,aa dv dx .sh .sh),(2,⟨.ptr 97 0,[]⟩),(3,⟨.ptr 98 0,[]⟩),(4,⟨.ptr 99 0,[]⟩),(5,B false),(6,⟨.ptr 101 0,[]⟩),(7,I s.2.2.1),(97,⟨.box (),[⟨.int .i64 b.limit, .sc⟩,⟨.row () ed, .sh⟩,⟨.row () es, .sh⟩,⟨.bool b.lists, .sc⟩]⟩),(98,⟨.box (),[⟨.row () dv, .sh⟩,⟨.row () dx, .sh⟩]⟩),(99,⟨.box (),[⟨.row () [], .nl⟩,⟨.row () [], .nl⟩]⟩),(101,⟨.box (),[⟨.row () dv, .ow false⟩,⟨.row () eo, .ow false⟩]⟩)]
    | some eo,some j=>[(0,aG b.limit ed es b.lists .sh .sh),(1,aa dv dx .sh .sh),(2,⟨.ptr 97 0,[]⟩),(3,⟨.ptr 98 0,[]⟩),(4,⟨.ptr 99 0,[]⟩),(5,B false),(6,⟨.ptr 101 0,[]⟩),(7,I s.2.2.1),(8,I j.1),(9,B j.2),(97,⟨.box (),[⟨.int .i64 b.limit, .sc⟩,⟨.row () ed, .sh⟩,⟨.row () es, .sh⟩,⟨.bool b.lists, .sc⟩]⟩),(98,⟨.box (),[⟨.row () dv, .sh⟩,⟨.row () dx, .sh⟩]⟩),(99,⟨.box (),[⟨.row () [], .nl⟩,⟨.row () [], .nl⟩]⟩),(101,⟨.box (),[⟨.row () dv, .ow false⟩,⟨.row () eo, .ow false⟩]⟩)])
   (fun s=>At s.2.2.1 s.2.1.length∧h.exts=s.2.1++s.1∧(match s.2.2.2.1,s.2.2.2.2 with | none,_=>sel (bv b.strips) idE s.2.1=[] | some _,none=>False | some eo,some _=>eo=row ab (sel (bv b.strips) idE s.2.1)∧sel (bv b.strips) idE s.2.1≠[])∧s.2.1.any (lost b)=false) (fun s=>s.1.length) (h.exts,[],0,none,none) rfl ⟨rfl,rfl,rfl,rfl⟩ ?_
  intro c9 Q1 hc9 hQ1;rintro ⟨suf,pre,i,e,j⟩ ⟨hi,hl',hz,hany⟩ ih
  simp only at hi hl' hz hany ih;have hpre:pre.length≤1073741824:=by rw[hl'] at hxl;simp at hxl;omega
  have hs:(sel (bv b.strips) idE pre).length≤pre.length:=aI;cases j with
  | none=>
   cases e with
   | none=>
    have hz:sel (bv b.strips) idE pre=[]:=hz;cbv;cases suf with
    | nil=>
     have hZp:sel (bv b.strips) idE pre=Z:=by rw[hZ,hl',List.append_nil]
     have hOk:h.exts.any (lost b)=false:=by rw[hl',List.append_nil];exact hany
     rw[hZp] at hz;rw[F.lt_f hi lxn (by simp[hl'])];cbv
     rw[hQ1];cbv;rw[hQ];cbv;exact congrArg some (rB (by rw[hOk];rfl) hz)
    | cons x suf=>
     obtain ⟨ix,hix⟩:=nm (pre.length * 2)
     obtain ⟨e1,he1⟩:=nm (row fI x.body)
     have hx:=wh x (by rw[hl'];simp)
     have hi':At (add .i64 i 1) (pre++[x]).length:=ao (F.inc hi (by omega)) (by simp)
     have hl2:h.exts=(pre++[x])++suf:=by rw[hl'];simp
     have p0:at' 2 dx i=some (ix,[.int .i64 x.tag, .row () e1]):=by rw[hix,he1];exact F.get hi hdx hl' (fun _=>rfl) (by decide)
     obtain ⟨s,hs_⟩:=nm (bq b.strips x.tag)
     obtain ⟨d,hd⟩:=nm (bq b.drops x.tag)
     obtain ⟨q,hq⟩:=nm (inR x.tag 1 3)
     have hSx:bv b.strips x= !s:=by rw[hs_];rfl
     have hLx:lost b x=(d||(b.lists&& !s&& !q)):=by rw[hd,hs_,hq];rfl
     have fC:lost b x=true→(!h.exts.any (lost b))=false:=fun hh=>by
      rw[show h.exts.any (lost b)=true by rw[hl',List.any_append,List.any_cons,hh];simp];rfl
     have c3:o 285 [R es (.sp 0 0),I x.tag]=some ⟨[B s],[],none⟩:=by rw[ho,hs_,hes];exact jD _ _ (by omega) rfl
     have c4:o 285 [R ed (.sp 0 0),I x.tag]=some ⟨[B d],[],none⟩:=by rw[ho,hd,hed];exact jD _ _ (by omega) rfl
     have c5:o 230 [I x.tag,I 1,I 3]=some ⟨[B q],[],none⟩:=by rw[ho,hq];exact fE ..
     rw[F.lt_t hi lxn (by simp[hl'])];cbv
     rw[p0];cbv;rw[c3];cbv;rw[c4];cbv;refine both (fun e1'=>?_) (fun e1'=>?_)<;>rw[e1']<;>cbv
     ·rw[hQ1];cbv;rw[hQ];cbv;exact congrArg some (rC (fC (by rw[hLx,e1'];rfl)))
     refine both (fun e2=>?_) (fun e2=>?_)<;>rw[e2]<;>cbv<;>rw[show b.lists=_ from e2] at ih
     ·refine both (fun e3=>?_) (fun e3=>?_)<;>rw[e3]<;>cbv
      ·rw[c5];cbv;refine both (fun e4=>?_) (fun e4=>?_)<;>rw[e4]<;>cbv
       ·rw[hQ1];cbv;rw[hQ];cbv;exact congrArg some (rC (fC (by rw[hLx,e1',e2,F.not_t e3,F.not_t e4];rfl)))
       ·try (rw[e3];cbv)
        rw[p0];cbv;rw[show allS e1=true from F.scal he1 (fun _=>rfl)];cbv
        rw[F.app_nil he1 (fun _=>rfl) hx];cbv
        rw[show allS [[.int .i64 x.tag, .row () e1]]=false by rw[F.allS];rfl];cbv
        obtain ⟨eo',heo'⟩:=nm (row ab (sel (bv b.strips) idE pre++[idE x]))
        rw[show app 2 [] [[.int .i64 x.tag, .row () e1]]=some eo' by rw[heo',he1];exact F.push (k:=2) (f:=ab) (l:=sel (bv b.strips) idE pre) (x:=idE x) (by rw[hz];rfl) (fun _=>rfl) rfl (by omega)];cbv
        try (rw[show isNil [[.int .i64 x.tag, .row () e1]]=false by rw[F.isNil];rfl];cbv)
        refine ih (suf,pre++[x],add .i64 i 1,some eo',some (x.tag,s)) ⟨hi',hl2,?_,?_⟩ (by simp)
        ·simp only;rw[dz (by rw[hSx,F.not_t e3];rfl)]
         exact ⟨heo',by simp⟩
        ·simp only[List.any_append,hany,List.any_cons,List.any_nil,hLx,e1',e2,F.not_t e3,F.not_f e4];rfl
      ·try (rw[e3];cbv)
       refine ih (suf,pre++[x],add .i64 i 1,none,some (x.tag,s)) ⟨hi',hl2,?_,?_⟩ (by simp)
       ·simp only;rw[d6 (by rw[hSx,F.not_f e3];rfl)]
        exact hz
       ·simp only[List.any_append,hany,List.any_cons,List.any_nil,hLx,e1',e2,F.not_f e3];rfl
     ·refine both (fun e3=>?_) (fun e3=>?_)<;>rw[e3]<;>cbv
      ·rw[p0];cbv;rw[show allS e1=true from F.scal he1 (fun _=>rfl)];cbv
       rw[F.app_nil he1 (fun _=>rfl) hx];cbv
       rw[show allS [[.int .i64 x.tag, .row () e1]]=false by rw[F.allS];rfl];cbv
       obtain ⟨eo',heo'⟩:=nm (row ab (sel (bv b.strips) idE pre++[idE x]))
       rw[show app 2 [] [[.int .i64 x.tag, .row () e1]]=some eo' by rw[heo',he1];exact F.push (k:=2) (f:=ab) (l:=sel (bv b.strips) idE pre) (x:=idE x) (by rw[hz];rfl) (fun _=>rfl) rfl (by omega)];cbv
       try (rw[show isNil [[.int .i64 x.tag, .row () e1]]=false by rw[F.isNil];rfl];cbv)
       refine ih (suf,pre++[x],add .i64 i 1,some eo',some (x.tag,s)) ⟨hi',hl2,?_,?_⟩ (by simp)
       ·simp only;rw[dz (by rw[hSx,F.not_t e3];rfl)]
        exact ⟨heo',by simp⟩
       ·simp only[List.any_append,hany,List.any_cons,List.any_nil,hLx,e1',e2];rfl
      ·refine ih (suf,pre++[x],add .i64 i 1,none,some (x.tag,s)) ⟨hi',hl2,?_,?_⟩ (by simp)
       ·simp only;rw[d6 (by rw[hSx,F.not_f e3];rfl)]
        exact hz
       ·simp only[List.any_append,hany,List.any_cons,List.any_nil,hLx,e1',e2];rfl
   | some jx=>exact False.elim hz
  | some jj=>
   obtain ⟨j1,j2⟩:=jj
   cases e with
   | none=>
    have hz:sel (bv b.strips) idE pre=[]:=hz;cbv;cases suf with
    | nil=>
     have hZp:sel (bv b.strips) idE pre=Z:=by rw[hZ,hl',List.append_nil]
     have hOk:h.exts.any (lost b)=false:=by rw[hl',List.append_nil];exact hany
     rw[hZp] at hz;rw[F.lt_f hi lxn (by simp[hl'])];cbv
     rw[hQ1];cbv;rw[hQ];cbv;exact congrArg some (rB (by rw[hOk];rfl) hz)
    | cons x suf=>
     obtain ⟨ix,hix⟩:=nm (pre.length * 2)
     obtain ⟨e1,he1⟩:=nm (row fI x.body)
     have hx:=wh x (by rw[hl'];simp)
     have hi':At (add .i64 i 1) (pre++[x]).length:=ao (F.inc hi (by omega)) (by simp)
     have hl2:h.exts=(pre++[x])++suf:=by rw[hl'];simp
     have p0:at' 2 dx i=some (ix,[.int .i64 x.tag, .row () e1]):=by rw[hix,he1];exact F.get hi hdx hl' (fun _=>rfl) (by decide)
     obtain ⟨s,hs_⟩:=nm (bq b.strips x.tag)
     obtain ⟨d,hd⟩:=nm (bq b.drops x.tag)
     obtain ⟨q,hq⟩:=nm (inR x.tag 1 3)
     have hSx:bv b.strips x= !s:=by rw[hs_];rfl
     have hLx:lost b x=(d||(b.lists&& !s&& !q)):=by rw[hd,hs_,hq];rfl
     have fC:lost b x=true→(!h.exts.any (lost b))=false:=fun hh=>by
      rw[show h.exts.any (lost b)=true by rw[hl',List.any_append,List.any_cons,hh];simp];rfl
     have c3:o 285 [R es (.sp 0 0),I x.tag]=some ⟨[B s],[],none⟩:=by rw[ho,hs_,hes];exact jD _ _ (by omega) rfl
     have c4:o 285 [R ed (.sp 0 0),I x.tag]=some ⟨[B d],[],none⟩:=by rw[ho,hd,hed];exact jD _ _ (by omega) rfl
     have c5:o 230 [I x.tag,I 1,I 3]=some ⟨[B q],[],none⟩:=by rw[ho,hq];exact fE ..
     rw[F.lt_t hi lxn (by simp[hl'])];cbv
     rw[p0];cbv;rw[c3];cbv;rw[c4];cbv;refine both (fun e1'=>?_) (fun e1'=>?_)<;>rw[e1']<;>cbv
     ·rw[hQ1];cbv;rw[hQ];cbv;exact congrArg some (rC (fC (by rw[hLx,e1'];rfl)))
     refine both (fun e2=>?_) (fun e2=>?_)<;>rw[e2]<;>cbv<;>rw[show b.lists=_ from e2] at ih
     ·refine both (fun e3=>?_) (fun e3=>?_)<;>rw[e3]<;>cbv
      ·rw[c5];cbv;refine both (fun e4=>?_) (fun e4=>?_)<;>rw[e4]<;>cbv
       ·rw[hQ1];cbv;rw[hQ];cbv;exact congrArg some (rC (fC (by rw[hLx,e1',e2,F.not_t e3,F.not_t e4];rfl)))
       ·try (rw[e3];cbv)
        rw[p0];cbv;rw[show allS e1=true from F.scal he1 (fun _=>rfl)];cbv
        rw[F.app_nil he1 (fun _=>rfl) hx];cbv
        rw[show allS [[.int .i64 x.tag, .row () e1]]=false by rw[F.allS];rfl];cbv
        obtain ⟨eo',heo'⟩:=nm (row ab (sel (bv b.strips) idE pre++[idE x]))
        rw[show app 2 [] [[.int .i64 x.tag, .row () e1]]=some eo' by rw[heo',he1];exact F.push (k:=2) (f:=ab) (l:=sel (bv b.strips) idE pre) (x:=idE x) (by rw[hz];rfl) (fun _=>rfl) rfl (by omega)];cbv
        try (rw[show isNil [[.int .i64 x.tag, .row () e1]]=false by rw[F.isNil];rfl];cbv)
        refine ih (suf,pre++[x],add .i64 i 1,some eo',some (x.tag,s)) ⟨hi',hl2,?_,?_⟩ (by simp)
        ·simp only;rw[dz (by rw[hSx,F.not_t e3];rfl)]
         exact ⟨heo',by simp⟩
        ·simp only[List.any_append,hany,List.any_cons,List.any_nil,hLx,e1',e2,F.not_t e3,F.not_f e4];rfl
      ·try (rw[e3];cbv)
       refine ih (suf,pre++[x],add .i64 i 1,none,some (x.tag,s)) ⟨hi',hl2,?_,?_⟩ (by simp)
       ·simp only;rw[d6 (by rw[hSx,F.not_f e3];rfl)]
        exact hz
       ·simp only[List.any_append,hany,List.any_cons,List.any_nil,hLx,e1',e2,F.not_f e3];rfl
     ·refine both (fun e3=>?_) (fun e3=>?_)<;>rw[e3]<;>cbv
      ·rw[p0];cbv;rw[show allS e1=true from F.scal he1 (fun _=>rfl)];cbv
       rw[F.app_nil he1 (fun _=>rfl) hx];cbv
       rw[show allS [[.int .i64 x.tag, .row () e1]]=false by rw[F.allS];rfl];cbv
       obtain ⟨eo',heo'⟩:=nm (row ab (sel (bv b.strips) idE pre++[idE x]))
       rw[show app 2 [] [[.int .i64 x.tag, .row () e1]]=some eo' by rw[heo',he1];exact F.push (k:=2) (f:=ab) (l:=sel (bv b.strips) idE pre) (x:=idE x) (by rw[hz];rfl) (fun _=>rfl) rfl (by omega)];cbv
       try (rw[show isNil [[.int .i64 x.tag, .row () e1]]=false by rw[F.isNil];rfl];cbv)
       refine ih (suf,pre++[x],add .i64 i 1,some eo',some (x.tag,s)) ⟨hi',hl2,?_,?_⟩ (by simp)
       ·simp only;rw[dz (by rw[hSx,F.not_t e3];rfl)]
        exact ⟨heo',by simp⟩
       ·simp only[List.any_append,hany,List.any_cons,List.any_nil,hLx,e1',e2];rfl
      ·refine ih (suf,pre++[x],add .i64 i 1,none,some (x.tag,s)) ⟨hi',hl2,?_,?_⟩ (by simp)
       ·simp only;rw[d6 (by rw[hSx,F.not_f e3];rfl)]
        exact hz
       ·simp only[List.any_append,hany,List.any_cons,List.any_nil,hLx,e1',e2];rfl
   | some jx=>
    have hz:jx=row ab (sel (bv b.strips) idE pre)∧sel (bv b.strips) idE pre≠[]:=hz;cbv;cases suf with
    | nil=>
     have hZp:sel (bv b.strips) idE pre=Z:=by rw[hZ,hl',List.append_nil]
     have hOk:h.exts.any (lost b)=false:=by rw[hl',List.append_nil];exact hany
     rw[hZp] at hz;rw[F.lt_f hi lxn (by simp[hl'])];cbv
     rw[hQ1];cbv;rw[hQ];cbv;rw[hz.1];exact congrArg some (rA (by rw[hOk];rfl) hz.2)
    | cons x suf=>
     obtain ⟨ix,hix⟩:=nm (pre.length * 2)
     obtain ⟨e1,he1⟩:=nm (row fI x.body)
     have hx:=wh x (by rw[hl'];simp)
     have hi':At (add .i64 i 1) (pre++[x]).length:=ao (F.inc hi (by omega)) (by simp)
     have hl2:h.exts=(pre++[x])++suf:=by rw[hl'];simp
     have p0:at' 2 dx i=some (ix,[.int .i64 x.tag, .row () e1]):=by rw[hix,he1];exact F.get hi hdx hl' (fun _=>rfl) (by decide)
     obtain ⟨s,hs_⟩:=nm (bq b.strips x.tag)
     obtain ⟨d,hd⟩:=nm (bq b.drops x.tag)
     obtain ⟨q,hq⟩:=nm (inR x.tag 1 3)
     have hSx:bv b.strips x= !s:=by rw[hs_];rfl
     have hLx:lost b x=(d||(b.lists&& !s&& !q)):=by rw[hd,hs_,hq];rfl
     have fC:lost b x=true→(!h.exts.any (lost b))=false:=fun hh=>by
      rw[show h.exts.any (lost b)=true by rw[hl',List.any_append,List.any_cons,hh];simp];rfl
     have c3:o 285 [R es (.sp 0 0),I x.tag]=some ⟨[B s],[],none⟩:=by rw[ho,hs_,hes];exact jD _ _ (by omega) rfl
     have c4:o 285 [R ed (.sp 0 0),I x.tag]=some ⟨[B d],[],none⟩:=by rw[ho,hd,hed];exact jD _ _ (by omega) rfl
     have c5:o 230 [I x.tag,I 1,I 3]=some ⟨[B q],[],none⟩:=by rw[ho,hq];exact fE ..
     rw[F.lt_t hi lxn (by simp[hl'])];cbv
     rw[p0];cbv;rw[c3];cbv;rw[c4];cbv;refine both (fun e1'=>?_) (fun e1'=>?_)<;>rw[e1']<;>cbv
     ·rw[hQ1];cbv;rw[hQ];cbv;exact congrArg some (rC (fC (by rw[hLx,e1'];rfl)))
     refine both (fun e2=>?_) (fun e2=>?_)<;>rw[e2]<;>cbv<;>rw[show b.lists=_ from e2] at ih
     ·refine both (fun e3=>?_) (fun e3=>?_)<;>rw[e3]<;>cbv
      ·rw[c5];cbv;refine both (fun e4=>?_) (fun e4=>?_)<;>rw[e4]<;>cbv
       ·rw[hQ1];cbv;rw[hQ];cbv;exact congrArg some (rC (fC (by rw[hLx,e1',e2,F.not_t e3,F.not_t e4];rfl)))
       ·try (rw[e3];cbv)
        rw[p0];cbv;rw[show allS e1=true from F.scal he1 (fun _=>rfl)];cbv
        rw[F.app_nil he1 (fun _=>rfl) hx];cbv
        rw[show allS [[.int .i64 x.tag, .row () e1]]=false by rw[F.allS];rfl];cbv
        obtain ⟨eo',heo'⟩:=nm (row ab (sel (bv b.strips) idE pre++[idE x]))
        rw[show app 2 jx [[.int .i64 x.tag, .row () e1]]=some eo' by rw[heo',he1];exact F.push (k:=2) (f:=ab) (l:=sel (bv b.strips) idE pre) (x:=idE x) hz.1 (fun _=>rfl) rfl (by omega)];cbv
        try (rw[show isNil [[.int .i64 x.tag, .row () e1]]=false by rw[F.isNil];rfl];cbv)
        refine ih (suf,pre++[x],add .i64 i 1,some eo',some (x.tag,s)) ⟨hi',hl2,?_,?_⟩ (by simp)
        ·simp only;rw[dz (by rw[hSx,F.not_t e3];rfl)]
         exact ⟨heo',by simp⟩
        ·simp only[List.any_append,hany,List.any_cons,List.any_nil,hLx,e1',e2,F.not_t e3,F.not_f e4];rfl
      ·try (rw[e3];cbv)
       refine ih (suf,pre++[x],add .i64 i 1,some jx,some (x.tag,s)) ⟨hi',hl2,?_,?_⟩ (by simp)
       ·simp only;rw[d6 (by rw[hSx,F.not_f e3];rfl)]
        exact hz
       ·simp only[List.any_append,hany,List.any_cons,List.any_nil,hLx,e1',e2,F.not_f e3];rfl
     ·refine both (fun e3=>?_) (fun e3=>?_)<;>rw[e3]<;>cbv
      ·rw[p0];cbv;rw[show allS e1=true from F.scal he1 (fun _=>rfl)];cbv
       rw[F.app_nil he1 (fun _=>rfl) hx];cbv
       rw[show allS [[.int .i64 x.tag, .row () e1]]=false by rw[F.allS];rfl];cbv
       obtain ⟨eo',heo'⟩:=nm (row ab (sel (bv b.strips) idE pre++[idE x]))
       rw[show app 2 jx [[.int .i64 x.tag, .row () e1]]=some eo' by rw[heo',he1];exact F.push (k:=2) (f:=ab) (l:=sel (bv b.strips) idE pre) (x:=idE x) hz.1 (fun _=>rfl) rfl (by omega)];cbv
       try (rw[show isNil [[.int .i64 x.tag, .row () e1]]=false by rw[F.isNil];rfl];cbv)
       refine ih (suf,pre++[x],add .i64 i 1,some eo',some (x.tag,s)) ⟨hi',hl2,?_,?_⟩ (by simp)
       ·simp only;rw[dz (by rw[hSx,F.not_t e3];rfl)]
        exact ⟨heo',by simp⟩
       ·simp only[List.any_append,hany,List.any_cons,List.any_nil,hLx,e1',e2];rfl
      ·refine ih (suf,pre++[x],add .i64 i 1,some jx,some (x.tag,s)) ⟨hi',hl2,?_,?_⟩ (by simp)
       ·simp only;rw[d6 (by rw[hSx,F.not_f e3];rfl)]
        exact hz
       ·simp only[List.any_append,hany,List.any_cons,List.any_nil,hLx,e1',e2];rfl
theorem IY (b:Box) (h:Hello) (bd1:b.drops.length≤1073741824) (bs1:b.strips.length≤1073741824) (mh:h.Mid) {f0 f1 f2 f3:Fl} (q0:ac f0=true) (q1:ac f1=true) (q2:ac f2=true) (q3:ac f3=true):
  fix Tb md 173 [aG b.limit (row fI b.drops) (row fI b.strips) b.lists f0 f1,aa (row fI h.versions) (row ab h.exts) f2 f3]=some ⟨[aa (row fI (pbV b h).versions) (row ab (pbV b h).exts) (.ow false) (.ow false),B (fS b h)],[],none⟩∨
  ((pbV b h).exts=[]∧fix Tb md 173 [aG b.limit (row fI b.drops) (row fI b.strips) b.lists f0 f1,aa (row fI h.versions) (row ab h.exts) f2 f3]=some ⟨[aa (row fI (pbV b h).versions) [] (.ow false) .nl,B (fS b h)],[],none⟩)∨
  ((pbV b h).versions=[]∧(pbV b h).exts=[]∧fix Tb md 173 [aG b.limit (row fI b.drops) (row fI b.strips) b.lists f0 f1,aa (row fI h.versions) (row ab h.exts) f2 f3]=some ⟨[aa [] [] .nl .nl,B (fS b h)],[],none⟩):=by
 obtain ⟨Z,hZ⟩:=nm (sel (bv b.strips) idE h.exts)
 have hmain:=fun r a c d=>Ek b h bd1 bs1 mh q0 q1 q2 q3 Z hZ r a c d
 unfold pbV;rw[←hZ];cases ho:fS b h with
 | false=>exact .inr (.inr ⟨rfl,rfl,hmain _ (fun q=>by rw[ho] at q;cases q) (fun q=>by rw[ho] at q;cases q) (fun _=>rfl)⟩)
 | true=>
  by_cases hz:Z=[]
  ·exact .inr (.inl ⟨hz,hmain _ (fun _ q=>absurd hz q) (fun _ _=>rfl) (fun q=>by rw[ho] at q;cases q)⟩)
  ·exact .inl (hmain _ (fun _ _=>rfl) (fun _ q=>absurd q hz) (fun q=>by rw[ho] at q;cases q))
end Go.Vm
