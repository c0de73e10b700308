/- The value machine, part 3: code read as work on values, and its soundness over memory. -/
import Derived.Test.YtfidmkhcipcnmaaGreatVmB
set_option maxHeartbeats 4000000
set_option maxRecDepth 10000
set_option linter.unusedVariables false
set_option linter.unusedSimpArgs false
section
namespace Go.Vm
section
variable {E:Env} {cx:Cx} {S:StA} {X:List (Cell Tg)} {C:Nat→Nat→Prop} {a:Act} {w w':World}
theorem Inv.addAp (h:Inv E S X C a w) {l:SA} (hl:S[bf E.nt]?=some l) (hk:l.k≠ .dead) {z:Cell Tg} (ho:aN z.f=false) (hz:COk E w C S X z):Inv E S (z::X) C a w:=by
 have hL:Less S S X ([z]++X):=Less.hand [z] (by simpa using ho)
 refine ⟨h.len,h.tsz,h.nodef,h.slv,h.high,h.emp,h.lock,?_,h.box,?_,?_,?_,?_,h.olt,h.clt,h.cbase,fun b hb=>h.ownlt b (hL.mem hb)⟩
 ·intro l' hl' hd;rw[hl] at hl';obtain rfl:=Option.some.inj hl'
  exact absurd hd hk
 ·exact fun i s t src ix hs hk=>(h.ept i s t src ix hs hk).less hL
 ·exact fun i s hs x hx=>(h.cells i s hs x hx).less hL
 ·intro x hx;rcases List.mem_cons.1 hx with rfl | hx
  ·exact hz.less hL
  ·exact (h.hand x hx).less hL
 ·exact fun b=>Nat.le_trans (hL.own b) (h.cnt b)
theorem Fst.scalRow {b cap k:Nat} {cur:Array Value} {T:TypeId} {es:List (List A)} (hb:w.heap[b]?=some (.cells cur T (0,0))) (hcap:es.length≤cap) (hmax:cap≤maxLen) (hsize:cur.size=cap * k) (hk:∀ e∈es,e.length=k) (hk0:0 < k)
  (hne:es=[]→cap=0) (htake:cur.toList.take (es.length * k)=es.flatten.map (VA.val E.sid)) (hs:∀ c∈es.flatten,scal c=true) (hbase:E.base≤b):Fst E w (.row ⟨some ⟨b,0,none⟩,cap,k⟩ es):=by
 have hblks:(VA.row ⟨some ⟨b,0,none⟩,cap,k⟩ es:A).blks=[b]:=by simp[VA.blks,cG,gP hs]
 refine ⟨.row b cap k es cur T hb hcap hmax hsize hk hk0 hne htake (fun _ _=>id) (fun c hc=> .of_scal (hs c hc)),by rw[hblks];simp,by rw[hblks];simpa using hbase⟩
theorem Shp.free {D:Nat→Nat→Prop} {b cap k:Nat} {es:List (List A)} (h:Shp E.sid w D (.row ⟨some ⟨b,0,none⟩,cap,k⟩ es)):∀ j,es.length * k≤j→¬D b j:=by
 cases h with
 | row _ _ _ _ _ _ _ _ _ _ _ _ _ _ hfree _=>exact hfree
theorem Shp.el {D:Nat→Nat→Prop} {t:Tg} {es:List (List A)} (h:Shp E.sid w D (.row t es)) {c:A} (hc:c∈es.flatten):Shp E.sid w D c:=by
 cases h with
 | nil=>simp at hc
 | row b cap k es cur e hb hcap hmax hsize hk hk0 hne htake hfree hr=>exact hr c hc
theorem B2 (h:Inv E S X C a w) (hb:E.base≤w.heap.size) {tx:Tg} {es:List (List A)} {s c ix:Nat} (hz:COk E w C S X ⟨.row tx es, .cp .own s c (some ix)⟩) {y0:Cell Tg} (hy0:aD S s c=some y0) (hy0f:y0.f= .ow false)
  {l:SA} (hl:S[bf E.nt]?=some l) (hld:l.k= .dead)
  {t u ty e e':TypeId} {i:TypeInfo} {z:Value} (ht:E.P.underlying t=some (.slice e)) (hu:E.P.underlying u=some (.slice e')) (hi:E.P.info? e=some i) (hzv:i.zero=some z)
  (hzs:z.cells.size=i.size) (hk0:0 < i.size) (hby:i.bytes≤128)
  {t':Tg} {ys:List (List A)} (hys:Rd E.sid w C (.row t' ys)) (hkx:∀ e∈es,e.length=i.size) (hky:∀ e∈ys,e.length=i.size) (hlim:es.length+ys.length≤1099511627776)
  (hsx:∀ c∈es.flatten,scal c=true) (hsy:∀ c∈ys.flatten,scal c=true):
  ∃ v w' C1 t1,(Builtin.append_ #[t,u] ty #[(VA.row tx es:A).val E.sid,(VA.row t' ys:A).val E.sid]).run E.P w= .ok v w'∧
   Made E (S.set (bf E.nt) ⟨.und,[]⟩) X C1 a w' ⟨.val,[⟨.row t1 (es++ys), .ap s c ix⟩]⟩ v∧Frame E w w':=by
 obtain ⟨sl0,hs0,hc0⟩:=aE hy0
 have hy0m:y0∈aF S X:=aX hs0 (List.mem_of_getElem? hc0);have hy0o:aN y0.f=true:=by rw[hy0f];rfl
 have h1:=h.commit hy0m hy0o;obtain ⟨_,hzrd,hzcp,hzfst⟩:=hz
 obtain ⟨hrow,hcp⟩:=hzcp
 have hzfst:Fst E w (.row tx es):=hzfst rfl;have hzrd:Rd E.sid w C (.row tx es):=hzrd;have hsrc:∃ t0 es0,y0.v= .row t0 es0∧es0.flatten[ix]?=some (.row tx es):=hcp y0 hy0 (.inl ⟨false,hy0f⟩);obtain ⟨t0,es0,hy0v,hes0⟩:=hsrc
 have hy0ok:COk E w (fun b j=>C b j∨InC y0.v b j) S X y0:=h1.ok y0 hy0m
 have hy0shp:Shp E.sid w (fun b j=>C b j∨InC y0.v b j) y0.v:=by
  obtain ⟨v,f⟩:=y0
  simp only at hy0f;subst hy0f;have:=hy0ok.2.1
  simpa [Shp'] using this
 have hy0rd:Rd E.sid w (fun b j=>C b j∨InC y0.v b j) y0.v:=by
  obtain ⟨v,f⟩:=y0
  simp only at hy0f;subst hy0f;have:=(h.ok _ hy0m).2.1
  exact nh this
 have hxshp:Shp E.sid w (fun b j=>C b j∨InC y0.v b j) (.row tx es):=by
  rw[hy0v] at hy0shp ⊢;exact hy0shp.el (List.mem_of_getElem? hes0)
 have hzrd1:Rd E.sid w (fun b j=>C b j∨InC y0.v b j) (.row tx es):=hzrd.mono (fun _ _=> .inl) (fun _ _ _=>rfl)
 have hys1:Rd E.sid w (fun b j=>C b j∨InC y0.v b j) (.row t' ys):=hys.mono (fun _ _=> .inl) (fun _ _ _=>rfl)
 have hkk:∀ e∈es++ys,e.length=i.size:=by
  intro e he;rcases List.mem_append.1 he with he | he
  ·exact hkx e he
  ·exact hky e he
 have hss:∀ c∈(es++ys).flatten,scal c=true:=by
  intro c hc;rw[List.flatten_append] at hc;rcases List.mem_append.1 hc with hc | hc
  ·exact hsx c hc
  ·exact hsy c hc
 have hlcs:l.cs=[]:=h.emp _ l hl (.inl hld);have hL:Less S (S.set (bf E.nt) ⟨.und,[]⟩) X X:=by
  have:=tv (X:=X) (zs:=[]) (s:=⟨.und,[]⟩) hl ⟨by simp[hld],by simp[hlcs]⟩ rfl (by simp)
  simpa using this
 have hlS:=(List.getElem?_eq_some_iff.1 hl).1
 obtain ⟨hnoap1,hnoap2⟩:=h.noap l hl hld
 have hnoap:∀ x∈aF S X,∀ p q r,x.f≠ .ap p q r:=by
  intro x hx;rcases List.mem_append.1 hx with hx | hx
  ·obtain ⟨s',hs',hm⟩:=List.mem_flatMap.1 hx
   obtain ⟨j,hj⟩:=List.mem_iff_getElem?.1 hs'
   exact hnoap1 j s' hj x hm
  ·exact hnoap2 x hx
 have fin:∀ {w':World} {C':Nat→Nat→Prop} {t1:Tg} {v:Value},Inv E S X C' a w'→Ia E w' C' S X s c ix (.row t1 (es++ys))→v=(VA.row t1 (es++ys):A).val E.sid→
   Made E (S.set (bf E.nt) ⟨.und,[]⟩) X C' a w' ⟨.val,[⟨.row t1 (es++ys), .ap s c ix⟩]⟩ v:=by
  intro w' C' t1 v hi' hap hv;have h2:=hi'.setLock hl hld;have hz':COk E w' C' S X ⟨.row t1 (es++ys), .ap s c ix⟩:=hap;refine ⟨h2.addAp (l:=⟨.und,[]⟩) (by rw[List.getElem?_set_self hlS]) (by simp) rfl (hz'.less hL),fun _=>⟨_,rfl,hv⟩,by simp,by simp,by simp⟩
 have hat:∀ y,aD S s c=some y→y=y0:=fun y hy=>Option.some.inj (hy.symm.trans hy0)
 have hscal:∃ t es',(VA.row t0 es0:A)= .row t es':=⟨_,_,rfl⟩;have newblock:∀ (_:tx.cap < es.length+ys.length),∃ v w' C1 t1,(Builtin.append_ #[t,u] ty #[(VA.row tx es:A).val E.sid,(VA.row t' ys:A).val E.sid]).run E.P w= .ok v w'∧
   Made E (S.set (bf E.nt) ⟨.und,[]⟩) X C1 a w' ⟨.val,[⟨.row t1 (es++ys), .ap s c ix⟩]⟩ v∧Frame E w w':=by
  intro hcap;obtain ⟨v,w',C1,t1,r1,r2,r3,r4,r5⟩:=lf (ty:=ty) (ok:=true) (zs:=[]) h1 hb ht hu hi hzv hzs hk0 hby hzrd1 hkx hys1 hky hcap hlim (fun _=>by
   refine ⟨fun c hc=>⟨.of_scal (hss c hc),by rw[ji (hss c hc)];simp⟩,fun x=>by rw[gP hss];simp⟩)
  have hC:=r5 rfl;subst hC;have hi':=r2.inv;have hk:=hi'.hand (⟨.row t1 (es++ys),jZ true⟩:Cell Tg) (by simp)
  have hshp:Shp E.sid w' (fun b j=>C b j∨InC y0.v b j) (.row t1 (es++ys)):=by
   have:=hk.2.1
   simpa [Shp'] using this
  have hblks:(VA.row t1 (es++ys):A).blks=[w.heap.size]:=by
   simp only[VA.blks,cG,gP hss,r4,List.append_nil]
  obtain ⟨n1,n2,n3⟩:=pE h1
  refine ⟨v,w',_,t1,r1,fin hi'.dropAll ⟨⟨_,_,rfl,sy hss⟩,hrow,fun y hy hg=>⟨⟨hshp.mono (fun _ _ _ hf=>hf.elim) (fun _ _=>rfl),by rw[hblks];simp,fun b hb'=>hk.2.2 b hb'⟩, .inl fun b hb'=>?_⟩⟩ ?_,r3⟩
  ·rw[hblks,List.mem_singleton] at hb';subst hb';exact ⟨n2,n1⟩
  ·have:=r2.val (by simp)
   simp only[SlV] at this;obtain ⟨c',hc',hv'⟩:=this
   simp only[List.cons.injEq,and_true] at hc';rw[hv',←hc']
 cases hxshp with
 | nil k'=>
  by_cases hys0:ys=[]
  ·subst hys0;refine ⟨_,w,_,⟨none,0,k'⟩,iJ ht hu hi hys,fin h1 ⟨⟨_,_,rfl,rfl⟩,hrow,fun y hy hg=>⟨⟨.nil k',by simp[VA.blks,gh],by simp[VA.blks,gh]⟩, .inl (by simp[VA.blks,gh])⟩⟩ rfl,Frame.refl E w⟩
  ·refine newblock ?_
   cases ys with
   | nil=>exact absurd rfl hys0
   | cons y r=>simp
 | row b cap k es cur T hheap hcap hmax hsize hk hk0' hne htake hfree hr=>
  have hbm:b∈(VA.row ⟨some ⟨b,0,none⟩,cap,k⟩ es:A).blks:=by simp[VA.blks]
  have hbase:E.base≤b:=hzfst.2.2 b hbm;by_cases hroom:es.length+ys.length≤cap
  ·by_cases hk2:k=i.size
   ·subst hk2;have hb0:b∈y0.v.blks:=by rw[hy0v];exact dD (List.mem_of_getElem? hes0) hbm
    have hrun:=f7 (P:=E.P) (ty:=ty) ht hu hi hheap hys hky hroom hsize;have hxl:(es.flatten.map (VA.val E.sid)).length=es.length * i.size:=by rw[List.length_map,aR hkx]
    have hyl:(ys.flatten.map (VA.val E.sid)).length=ys.length * i.size:=by rw[List.length_map,aR hky]
    have hap:=fq htake hxl hyl hroom hsize;rw[List.length_map] at hap;obtain ⟨c1,c2,c3⟩:=hap
    have hh':=setRow_heap w b cur (cur.toList.take (es.length * i.size)++ys.flatten.map (VA.val E.sid)++cur.toList.drop (es.length * i.size+ys.flatten.length)).toArray T (0,0) hheap;generalize hcur:(cur.toList.take (es.length * i.size)++ys.flatten.map (VA.val E.sid)++cur.toList.drop (es.length * i.size+ys.flatten.length)).toArray=cur' at hrun hh' c1 c2 c3
    have htail:Tail w (w.setRow b cur') b (es.length * i.size):=⟨⟨cur,cur',T,T,hheap,hh',c1.trans hsize.symm,c3⟩,setRow_size w b cur',fun b' hb'=>setRow_other w b b' cur' hb'⟩
    have hCt:∀ j,(C b j∨InC y0.v b j)→j < es.length * i.size:=fun j hj=>Nat.lt_of_not_le fun hn=>hfree j hn hj
    have h2:Inv E S X (fun b j=>C b j∨InC y0.v b j) a (w.setRow b cur'):=by
     refine h1.tail htail hCt (fun x hx hox hbx=>?_) (fun s' hs' hbs=>?_) (fun x hx p q r hxf=>absurd hxf (hnoap x hx p q r))
     ·obtain rfl:=h1.one hx hy0m (dh hox hbx) (dh hy0o hb0)
      exact hy0rd
     ·obtain ⟨j,hj⟩:=List.mem_iff_getElem?.1 hs'
      exact h1.boxApart hj hbs hy0m (dh hy0o hb0)
    refine ⟨_,_,_,⟨some ⟨b,0,none⟩,cap,i.size⟩,hrun,fin h2 ⟨⟨_,_,rfl,sy hss⟩,hrow,fun y hy hg=>⟨?_, .inr ⟨t0,es0,_,(hat y hy)▸hy0v,hes0,?_,?_⟩⟩⟩ (by simp[VA.val]),jf w b cur' (.inl hbase)⟩
    ·exact Fst.scalRow hh' (by rw[List.length_append];exact hroom) hmax c1 hkk hk0 (fun he=>hne (List.append_eq_nil_iff.1 he).1) (by rw[List.length_append,c2,List.flatten_append,List.map_append]) hss hbase
    ·simp[VA.blks,cG,gP hsx,gP hsy]
    ·simp[AD]
   ·have hes:es=[]:=by
     cases es with
     | nil=>rfl
     | cons x r=>exact absurd ((hk x (List.mem_cons_self ..)).symm.trans (hkx x (List.mem_cons_self ..))) hk2
    subst hes;have hc0:=hne rfl;subst hc0;have hys0:ys=[]:=by
     cases ys with
     | nil=>rfl
     | cons y r=>simp at hroom
    subst hys0;have hrun:=f7 (P:=E.P) (ty:=ty) (n:=0) (cap:=0) ht hu hi hheap hys hky (by simp) (by simpa using hsize)
    have hcur:cur.toList=[]:=by
     have:cur.size=0:=by simpa using hsize
     simpa using this
    have hself:w.setRow b (cur.toList.take (0 * i.size)++([]:List (List A)).flatten.map (VA.val E.sid)++cur.toList.drop (0 * i.size+([]:List (List A)).flatten.length)).toArray=w:=by
     rw[hcur];have:cur=#[]:=by rw[←Array.toList_inj,hcur]
     subst this
     simpa using setRow_self w b #[] T (0,0) hheap
    rw[hself] at hrun;refine ⟨_,w,_,⟨some ⟨b,0,none⟩,0,k⟩,hrun,fin h1 ⟨⟨_,_,rfl,rfl⟩,hrow,fun y hy hg=>⟨hzfst, .inr ⟨t0,es0,_,(hat y hy)▸hy0v,hes0,rfl,Nat.le_refl _⟩⟩⟩ rfl,Frame.refl E w⟩
  ·exact newblock (by simpa using hroom)
theorem xd (hf:Fits E cx) (h:Inv E S X C a w) (hb:E.base≤w.heap.size) {o:Oper} {k:Call} {t u e':TypeId} {ox oy:Operand} {x y:Opd} {zs:List V} (ho:o.op= .call k) (hcb:k.callee= .builtin .append) (hk:k.args.toList=[ox,oy]) (hta:k.argTypes.toList=[t,u])
  (hz:mK E.P t=some zs) (hu:E.P.underlying u=some (.slice e')) (hx:bj cx ox=some x) (hy:bj cx oy=some y) {s:SU} {st1:St} (hr:(bn cx.nt (.append zs.length x y)).run (erS S)=some (s,st1)):dK E X a w o s st1:=by
 have hka:k.args=#[ox,oy]:=by rw[←Array.toList_inj,hk]
 have htya:k.argTypes=#[t,u]:=by rw[←Array.toList_inj,hta]
 obtain ⟨cs,hex⟩:=iU (ρ:=a.eval) ho hcb
 rw[hka,htya] at hex;obtain ⟨e,i,ht,hi,hby,hze⟩:=lm hz
 obtain ⟨i',z,hi',hz1,hz2,hz3⟩:=ig hze
 rw[hi] at hi';obtain rfl:=Option.some.inj hi'
 have hzl:zs.length=i.size:=by
  have:=(kU hz3).1
  rw[this,←hz2];simp
 have hexec:∀ {v:Value} {w':World},(Builtin.append_ #[t,u] o.type #[a.eval ox,a.eval oy]).run E.P w= .ok v w'→(execOp a.eval o).run E.P w= .ok (.value v) w':=by
  intro v w' hrun;rw[hex];simp only[builtin,List.map_toArray,List.map_cons,List.map_nil];rw[Sem.run_bind,hrun];rfl
 unfold bn at hr;obtain ⟨r,st2,h1,h2⟩:=FM.bind_some hr
 clear hr;obtain ⟨rfl,C1,t',ys,hi1,hC1,her,hyv,hrow⟩:=ua hf h hy h1
 split at h2
 ·simp[FM.run] at h2
 ·rename_i hk0;have hk0':0 < i.size:=by omega
  obtain ⟨c,st3,h3,h4⟩:=FM.bind_some h2
  clear h2;obtain ⟨rfl,zc,rfl,hdd,hzc,hxv,hzm⟩:=fY hf hi1 hx h3
  split at h4
  ·rename_i v f u' es' s' c' ix hvv hff;obtain ⟨sl,st4,h5,h6⟩:=FM.bind_some h4
   clear h4;obtain ⟨h7,rfl⟩:=cO h5
   obtain ⟨slA,hA,rfl⟩:=bJ h7
   obtain ⟨l,st5,h8,h9⟩:=FM.bind_some h6
   clear h6;obtain ⟨h10,rfl⟩:=cO h8
   obtain ⟨lA,hlA,rfl⟩:=bJ h10
   rw[hf.nt] at hlA h9;split at h9
   ·rename_i hfl hld;split at h9
    ·rename_i hh;obtain ⟨q1,q2,q3,q4,q5⟩:=hh
     obtain ⟨un,st6,h11,h12⟩:=FM.bind_some h9
     obtain ⟨rfl,rfl⟩:=au h12
     obtain ⟨_,rfl⟩:=fH h11
     obtain ⟨zv,zf⟩:=zc
     have hzf:zf= .cp .own s' c' (some ix):=hff;subst hzf;obtain ⟨tx,es,hzv,hes⟩:=kw (t:=u') (v:=zv) hvv
     subst hzv;subst hes;rw[←her] at q2 q4 q5;rw[←her];simp only[qt,aP,List.getElem?_map,Option.map_map,Option.map_eq_some_iff] at hfl
     obtain ⟨y0,hy0,hy0f⟩:=hfl
     have hy0f:y0.f= .ow false:=hy0f;have hld':lA.k= .dead:=by
      rw[bg] at hld;cases hk':lA.k<;>rw[hk'] at hld<;>simp[Kd.er] at hld ⊢
     rw[lu,lu] at q5;obtain ⟨v,w',C2,t1,r1,r2,r3⟩:=B2 (ty:=o.type) hi1 hb hzc (bN hA hy0) hy0f hlA hld' ht hu hi hz1 hz2 hk0' hby hrow.rd (by rw[←hzl];exact nS q3) (by rw[←hzl];exact nS q4) q5 (kZ q1) (kZ q2)
     refine ⟨v,w',_,C2,_,hexec ?_,?_,?_,r2,r3⟩
     ·rw[hxv,hyv];exact r1
     ·rw[fi];rfl
     ·rw[←jr];rfl
    ·simp[FM.run] at h9
   ·simp[FM.run] at h9
  ·obtain ⟨xs,st4,h5,h6⟩:=FM.bind_some h4
   clear h4;obtain ⟨S1,C2,zs1,rfl,e2,e3,e4,e5,e6,e7⟩:=gy hf hi1 hx h5
   obtain ⟨zz,st5,h7,h8⟩:=FM.bind_some h6
   clear h6;rw[←her] at h7;obtain ⟨S2,C3,zs2,t1,ys1,rfl,m2,m3,m4,m5,m6⟩:=uu hf e4 hy hyv (hrow.rd.mono e6 (fun _ _ _=>rfl)) h7
   split at h8
   ·rename_i u' es' f;simp only[Bool.false_eq_true,if_false] at e7;obtain ⟨d,rfl,hdv⟩:=e7
    simp only[List.map_cons,List.map_nil,List.cons.injEq,and_true] at e2;obtain ⟨v,f'⟩:=d
    simp only[Cell.er,Cell.mk.injEq] at e2;obtain ⟨e2,rfl⟩:=e2
    obtain ⟨tx,es,rfl,he⟩:=kw (t:=u') e2
    rw[←he,←m2] at h8;obtain ⟨rfl,v,w',C4,sA,r1,r2,r3,r4⟩:=xq (ty:=o.type) m5 hb ht hu hi hz1 hz2 hzl.symm (by omega) hby m4 m6 h8
    refine ⟨v,w',S2,C4,sA,hexec ?_,rfl,r2,r3,r4⟩
    rw[hdv,m3];exact r1
   ·simp[FM.run] at h8
end
end Go.Vm
end
section
namespace Go.Vm
section
variable {E:Env} {cx:Cx} {S:StA} {X:List (Cell Tg)} {C:Nat→Nat→Prop} {a:Act} {w w':World}
theorem aM {α:Type} {st:St} {r:α×St} (h:(FM.fail:FM α).run st=some r):False:=by simp[FM.run] at h
theorem sM {P:Program} {t:TypeId} {zs:List V} (h:mK P t=some zs):∃ e i,P.underlying t=some (.slice e)∧P.info? e=some i∧i.size=zs.length:=by
 obtain ⟨e,i,hu,hi,_,hze⟩:=lm h
 obtain ⟨i',z,hi',hz1,hz2,hz3⟩:=ig hze
 rw[hi] at hi';obtain rfl:=Option.some.inj hi'
 refine ⟨e,i,hu,hi,?_⟩
 have:=(kU hz3).1
 rw[this,←hz2];simp
theorem uG (hf:Fits E cx) (h:Inv E S X C a w) (hb:E.base≤w.heap.size) {o:Oper} {k:Call} (ho:o.op= .call k) {ir:Ir} (hc:uP cx k=some ir)
  {s:SU} {st1:St} (hr:(bn cx.nt ir).run (erS S)=some (s,st1)):dK E X a w o s st1:=by
 unfold uP at hc;split at hc
 ·rw[Option.map_eq_some_iff] at hc;obtain ⟨g,_,rfl⟩:=hc
  exact (aM hr).elim
 ·rw[Option.map_eq_some_iff] at hc;obtain ⟨g,_,rfl⟩:=hc
  exact (aM hr).elim
 ·rename_i x hcal hargs;obtain ⟨ox,hk,hx⟩:=DU hargs
  split at hc
  ·rename_i t ht;split at hc
   ·rename_i e hu;simp only[Option.some.injEq] at hc;subst hc;exact vQ hf h (b:=false) ho hcal hk ht ⟨_,by rw[←hf.P];exact hu⟩ hx hr
   ·rename_i hu;simp only[Option.some.injEq] at hc;subst hc;exact vQ hf h (b:=true) ho hcal hk ht (by simp only[if_true];rw[←hf.P];exact hu) hx hr
   ·cases hc
  ·cases hc
 ·rename_i x y hcal hargs;simp only[Option.some.injEq] at hc;subst hc;obtain ⟨ox,oy,hk,hx,hy⟩:=tI hargs
  exact CO hf h ho hcal hk hx hy hr
 ·rename_i x y hcal hargs;simp only[Option.some.injEq] at hc;subst hc;obtain ⟨ox,oy,hk,hx,hy⟩:=tI hargs
  exact CN hf h ho hcal hk hx hy hr
 ·rename_i x y hcal hargs;obtain ⟨ox,oy,hk,hx,hy⟩:=tI hargs
  split at hc
  ·rename_i t u ht;split at hc
   ·rename_i z e' hz hu;simp only[Option.some.injEq] at hc;subst hc;rw[hf.P] at hz hu;exact xd hf h hb ho hcal hk ht hz hu hx hy hr
   ·cases hc
  ·cases hc
 ·cases hc
theorem y7 (hf:Fits E cx) (h:Inv E S X C a w) (hb:E.base≤w.heap.size) {inRow:Nat→Bool} {o:Oper} {ir:Ir} (hc:cOp cx inRow o=some ir)
  {s:SU} {st1:St} (hr:(bn cx.nt ir).run (erS S)=some (s,st1)):dK E X a w o s st1:=by
 have hP:=hf.P;unfold cOp at hc;split at hc
 ·rename_i ox ho;rw[Option.map_eq_some_iff] at hc;obtain ⟨x,hx,rfl⟩:=hc
  exact AN hf h ho hx hr
 ·split at hc
  ·simp only[Option.some.injEq] at hc;subst hc;exact (aM hr).elim
  ·simp only[Option.some.injEq] at hc;subst hc;exact (aM hr).elim
  ·rw[Option.map_eq_some_iff] at hc;obtain ⟨x,hx,rfl⟩:=hc
   exact (aM hr).elim
 ·rename_i oc ox oy ho;split at hc
  ·rename_i c x y h1 h2 h3;simp only[Option.some.injEq] at hc;subst hc;exact AO hf h ho h1 h2 h3 hr
  ·cases hc
 ·rename_i t ho;rw[Option.map_eq_some_iff] at hc;obtain ⟨zs,hz,rfl⟩:=hc
  rw[hP] at hz;rw[hf.nt] at hr;exact yW h hb ho hz hr
 ·rename_i t ox ho;rw[Option.map_eq_some_iff] at hc;obtain ⟨x,hx,rfl⟩:=hc
  exact CM hf h hb ho hx hr
 ·rename_i t ps ho;split at hc
  ·rename_i pl z hpl hz;rw[Option.map_eq_some_iff] at hc;obtain ⟨parts,hps,rfl⟩:=hc
   rw[hP] at hz hpl;exact yX hf h ho hpl hz hps hr
  ·cases hc
 ·rename_i t len ps ho;split at hc
  ·rename_i z parts hz hps;split at hc
   ·rename_i hlim;simp only[Option.some.injEq] at hc;subst hc;rw[hP] at hz;exact xe hf h hb ho hz hlim hps hr
   ·cases hc
  ·cases hc
 ·rename_i t oa ho;split at hc
  ·rename_i g n x hag hx;simp only[Option.some.injEq] at hc;subst hc;rw[hP] at hag;exact AK hf h ho hag hx hr
  ·cases hc
 ·rename_i t oa ox ho;split at hc
  ·rename_i a' x' i' h1 h2 h3;simp only[Option.some.injEq] at hc;subst hc;split at hr
   ·split at hr<;>exact (aM hr).elim
   ·simp only[Bool.false_eq_true,if_false] at hr;exact (aM hr).elim
  ·cases hc
 ·rename_i ox ho;rw[Option.map_eq_some_iff] at hc;obtain ⟨x,hx,rfl⟩:=hc
  exact xg hf h ho hx hr
 ·rename_i op t ox oy t' ho;split at hc
  ·rename_i x y k hx hy hu;simp only[Option.some.injEq] at hc;subst hc;exact CL hf h ho hx hy hr
  ·rename_i x y hx hy hu;rw[hP] at hu;split at hc
   ·simp only[Option.some.injEq] at hc;subst hc;exact vP hf h ho (by simp) hu hx hy hr
   ·simp only[Option.some.injEq] at hc;subst hc;exact vP hf h ho (by simp) hu hx hy hr
   ·cases hc
  ·cases hc
 ·rename_i op t ox ho;rw[Option.map_eq_some_iff] at hc;obtain ⟨x,hx,rfl⟩:=hc
  exact EW hf h ho hx hr
 ·rename_i t u ox ho;split at hc
  ·rename_i k' k ht hu;rw[Option.map_eq_some_iff] at hc;obtain ⟨x,hx,rfl⟩:=hc
   rw[hP] at ht hu;exact AJ hf h ho ht hu hx hr
  ·cases hc
 ·rename_i f first caps ho
  split at hc
  ·rename_i hfi;split at hc
   ·rename_i g ts hg ht;simp only[Option.some.injEq] at hc;subst hc;exact AM hf h ho hfi hg ht hr
   ·cases hc
  ·cases hc
 ·rename_i t ol oc ho;split at hc
  ·rename_i z l c hz hl hcc;simp only[Option.some.injEq] at hc;subst hc;rw[hP] at hz;exact uI hf h hb ho hz hl hcc hr
  ·cases hc
 ·rename_i t ox olo ohi ho;split at hc
  ·rename_i z x lo hi hz hx hlo hhi;simp only[Option.some.injEq] at hc;subst hc;rw[hP] at hz;obtain ⟨e,i,hu,hinf,hk⟩:=sM hz
   exact y8 hf h ho hu hinf hk hx hlo hhi hr
  ·cases hc
 ·rename_i t oa f ho;split at hc
  ·rename_i fld x hfl hx;split at hc
   ·cases hc
   ·rename_i hn;simp only[Option.some.injEq] at hc;subst hc;rw[hP] at hfl hn;exact yZ hf h ho hfl hn hx hr
  ·cases hc
 ·rename_i t ox f ho;split at hc
  ·rename_i fld x hfl hx;split at hc
   ·rename_i g n hag;simp only[Option.some.injEq] at hc;subst hc;rw[hP] at hfl hag;exact y4 hf h ho hfl hag hx hr
   ·cases hc
  ·cases hc
 ·rename_i t ox oi ho;split at hc
  ·rename_i z x y hz hx hy;simp only[Option.some.injEq] at hc;subst hc;rw[hP] at hz;obtain ⟨e,i,hu,hinf,hk⟩:=sM hz
   exact y5 hf h ho hu hinf hk hx hy hr
  ·cases hc
 ·rename_i t ox oi ho;split at hc
  ·rename_i x y hu hx hy;simp only[Option.some.injEq] at hc;subst hc;rw[hP] at hu;exact y6 hf h ho hu hx hy hr
  ·cases hc
 ·rename_i ox ix ho;rw[Option.map_eq_some_iff] at hc;obtain ⟨x,hx,rfl⟩:=hc
  exact uH hf h ho hx hr
 ·rename_i k ho;exact uG hf h hb ho hc hr
 ·cases hc
end
end Go.Vm
end
section
namespace Go.Vm
section
variable {E:Env} {cx:Cx} {S:StA} {X:List (Cell Tg)} {C:Nat→Nat→Prop} {a:Act} {w w':World}
theorem SlV.ext {sid:Nat→Nat} {S S':StA} (hb:∀ r x,aL S r=some x→aL S' r=some x) {s:SA} {v:Value} (h:SlV sid S s v):SlV sid S' s v:=by
 obtain ⟨k,cs⟩:=s
 cases k with
 | ptr r off=>
  obtain ⟨b,h1,h2⟩:=h
  exact ⟨b,hb r _ h1,h2⟩
 | clo g rs=>
  obtain ⟨h1,h2⟩:=h
  refine ⟨fun r hr=>?_,?_⟩
  ·obtain ⟨b,hr'⟩:=h1 r hr
   exact ⟨b,hb r _ hr'⟩
  ·have h2:v=_:=h2;rw[h2]
   congr 2
   refine List.map_congr_left fun r hr=>?_
   obtain ⟨b,hr'⟩:=h1 r hr
   rw[hr',hb r _ hr']
 | _=>exact h
theorem Inv.putHigh {s there:SA} {p b:Nat} {t:Tg} (h:Inv E S (s.cs++X) C a w) (he1:E.nt≤p) (he2:p≠bf E.nt) (he3:p≠bf E.nt+1) (hth:S[p]?=some there) (hk:there.k= .dead) (hs:s.k= .box t) (hta:t.a=some ⟨b,0,none⟩)
  (hbox:o6 E w C t s.cs) (hb:b∉aA S (s.cs++X)) (hlt:b < w.heap.size) (hold:∀ j,¬E.old b j)
  (hap:∀ x∈aF S (s.cs++X),∀ p q r,x.f= .ap p q r→∀ y,aD S p q=some y→(∃ g,y.f= .ow g)→b∉x.v.blks):Inv E (S.set p s) X C a w:=by
 have hpS:=(List.getElem?_eq_some_iff.1 hth).1
 have hthcs:there.cs=[]:=h.emp p there hth (.inl hk);have hthown:there.own=[]:=by simp[Sl.own,Sl.boxOwn,hk,hthcs]
 have hsown:s.own=b::s.cs.flatMap Cell.own:=by simp[Sl.own,Sl.boxOwn,hs,hta]
 have hL:Less S (S.set p s) ((⟨.row ⟨some ⟨b,0,none⟩,0,0⟩ [], .ow false⟩:Cell Tg)::(s.cs++X)) X:=by
  refine ⟨fun x=>?_,fun i q hr=>?_,fun i q y hr hy hf=>?_⟩
  ·have h1:=bk Sl.own x S p there s hth;rw[hthown,hsown] at h1;have h2:(Cell.own (⟨.row ⟨some ⟨b,0,none⟩,0,0⟩ [], .ow false⟩:Cell Tg))=[b]:=by simp[Cell.own,aN,VA.blks,gh]
   simp only[aA,List.count_append,List.flatMap_cons,List.flatMap_append,h2,List.count_cons,List.count_nil] at h1 ⊢;omega
  ·obtain ⟨y,hy,hyr⟩:=hr
   unfold mv;rw[gR hpS];by_cases hi:i=p
   ·subst hi;obtain ⟨sl,h1,h2⟩:=aE hy
    rw[hth] at h1;obtain rfl:=Option.some.inj h1
    rw[hthcs] at h2;simp at h2
   ·simp only[hi,if_false];exact ⟨y,hy,hyr⟩
  ·rw[gR hpS] at hy;by_cases hi:i=p
   ·subst hi;obtain ⟨y',hy',_⟩:=hr
    obtain ⟨sl,h1,h2⟩:=aE hy'
    rw[hth] at h1;obtain rfl:=Option.some.inj h1
    rw[hthcs] at h2;simp at h2
   ·simp only[hi,if_false] at hy;exact ⟨y,hy,rfl,rfl⟩
 have hmemY:∀ x,x∈aA S ((⟨.row ⟨some ⟨b,0,none⟩,0,0⟩ [], .ow false⟩:Cell Tg)::(s.cs++X))→x=b∨x∈aA S (s.cs++X):=by
  intro x hx;simp only[aA,List.flatMap_cons,List.mem_append,Cell.own,aN,if_true,VA.blks,gh,List.append_nil,List.mem_singleton] at hx ⊢;rcases hx with hx | hx | hx
  ·exact .inr (.inl hx)
  ·exact .inl hx
  ·exact .inr (.inr hx)
 have hcok:∀ x∈aF S (s.cs++X),COk E w C S ((⟨.row ⟨some ⟨b,0,none⟩,0,0⟩ [], .ow false⟩:Cell Tg)::(s.cs++X)) x:=by
  intro x hx;have hk:=h.ok x hx;have hax:=hap x hx;obtain ⟨v,f⟩:=x
  cases f with
  | ap i q r=>
   refine ⟨hk.1,hk.2.1,fun y hy hg=>⟨(hk.2.2 y hy hg).1,(hk.2.2 y hy hg).2.imp (fun hn b' hb'=>⟨fun hm=>?_,(hn b' hb').2⟩) id⟩⟩
   rcases hmemY b' hm with rfl | hm
   ·exact hax i q r rfl y hy hg hb'
   ·exact (hn b' hb').1 hm
  | _=>exact hk
 have hbx:∀ r x,aL S r=some x→aL (S.set p s) r=some x:=by
  intro r x hr;by_cases e:p=r
  ·subst e;unfold aL at hr;rw[hth] at hr;obtain ⟨k',cs'⟩:=there
   simp only at hk;subst hk;simp at hr
  ·unfold aL at hr ⊢;rw[List.getElem?_set_ne e];exact hr
 have hget:∀ {i:Nat} {s':SA},(S.set p s)[i]?=some s'→(i=p∧s'=s)∨(i≠p∧S[i]?=some s'):=by
  intro i s' hi;rw[List.getElem?_set] at hi
  split at hi
  ·rename_i e;subst e;simp only[Option.some.injEq] at hi;exact .inl ⟨rfl,hi.symm⟩
  ·rename_i e;exact .inr ⟨fun h=>e h.symm,hi⟩
 have hcnt:∀ x,(aA S ((⟨.row ⟨some ⟨b,0,none⟩,0,0⟩ [], .ow false⟩:Cell Tg)::(s.cs++X))).count x≤1:=by
  intro x;have h1:=h.cnt x;have h2:(aA S ((⟨.row ⟨some ⟨b,0,none⟩,0,0⟩ [], .ow false⟩:Cell Tg)::(s.cs++X))).count x=(aA S (s.cs++X)).count x+[b].count x:=by
   simp only[aA,List.count_append,List.flatMap_cons,Cell.own,aN,if_true,VA.blks,gh,List.append_nil];omega
  rw[h2];by_cases e:b=x
  ·subst e;rw[List.count_eq_zero.2 hb];simp
  ·have:[b].count x=0:=by
    rw[List.count_eq_zero]
    simpa using fun h=>e h.symm
   omega
 refine ⟨by simp[h.len],h.tsz,h.nodef,?_,?_,?_,?_,?_,?_,?_,?_,?_,?_,h.olt,h.clt,h.cbase,?_⟩
 ·intro i s' hi hs';rcases hget hs' with ⟨rfl,rfl⟩ | ⟨hne,hs'⟩
  ·omega
  ·exact (h.slv i s' hi hs').ext hbx
 ·intro i s' hi hs';rcases hget hs' with ⟨rfl,rfl⟩ | ⟨hne,hs'⟩
  ·exact .inr (.inr ⟨t,hs,fun e=>absurd e he3⟩)
  ·exact h.high i s' hi hs'
 ·intro i s' hs' hk';rcases hget hs' with ⟨rfl,rfl⟩ | ⟨hne,hs'⟩
  ·rw[hs] at hk';simp at hk'
  ·exact h.emp i s' hs' hk'
 ·intro i s' hi hs' hk';rcases hget hs' with ⟨rfl,rfl⟩ | ⟨hne,hs'⟩
  ·rw[hs] at hk';simp at hk'
  ·exact h.lock i s' hi hs' hk'
 ·intro l hl hd;rcases hget hl with ⟨e,_⟩ | ⟨hne,hl⟩
  ·exact absurd e.symm he2
  ·obtain ⟨h1,h2⟩:=h.noap l hl hd
   refine ⟨fun i s' hs' x hx=>?_,fun x hx=>h2 x (List.mem_append.2 (.inr hx))⟩
   rcases hget hs' with ⟨rfl,rfl⟩ | ⟨hne,hs'⟩
   ·exact h2 x (List.mem_append.2 (.inl hx))
   ·exact h1 i s' hs' x hx
 ·intro i s' t' hs' hk';rcases hget hs' with ⟨rfl,rfl⟩ | ⟨hne,hs'⟩
  ·rw[hs] at hk';simp only[Kd.box.injEq] at hk';subst hk';exact hbox
  ·exact h.box i s' t' hs' hk'
 ·intro i s' t' src ix hs' hk';rcases hget hs' with ⟨rfl,rfl⟩ | ⟨hne,hs'⟩
  ·rw[hs] at hk';simp at hk'
  ·exact (h.ept i s' t' src ix hs' hk').less hL
 ·intro i s' hs' x hx;rcases hget hs' with ⟨rfl,rfl⟩ | ⟨hne,hs'⟩
  ·exact (hcok x (dT (List.mem_append.2 (.inl hx)))).less hL
  ·exact (hcok x (aX hs' hx)).less hL
 ·intro x hx;exact (hcok x (dT (List.mem_append.2 (.inr hx)))).less hL
 ·exact fun x=>Nat.le_trans (hL.own x) (hcnt x)
 ·intro x hx;rcases hmemY x (hL.mem hx) with rfl | hx
  ·exact ⟨hlt,hold⟩
  ·exact h.ownlt x hx
theorem t7 {sA:SA} {v:Value} (hm:Made E S X C a w sA v) {d:Nat} {u:Unit} {st1:St} (hr:(Ay E.nt d sA.er).run (erS S)=some (u,st1)):
  ∃ S1,erS S1=st1∧Inv E S1 X C (a.put (some d) v) w:=by
 unfold Ay at hr;obtain ⟨old,st2,h1,h2⟩:=FM.bind_some hr
 clear hr;obtain ⟨h3,rfl⟩:=cO h1
 obtain ⟨o,ho,rfl⟩:=bJ h3
 split at h2
 ·rename_i hh;obtain ⟨hfr,hd⟩:=hh
  have hfree:=lD hm.inv ho hfr;split at h2
  ·rename_i hk;have hk':∃ t,sA.k= .box t:=by
    rw[bg] at hk;cases hk':sA.k<;>rw[hk'] at hk<;>simp[Kd.er] at hk ⊢
   obtain ⟨t,hk'⟩:=hk'
   obtain ⟨there,st3,h4,h5⟩:=FM.bind_some h2
   clear h2;obtain ⟨h6,rfl⟩:=cO h4
   obtain ⟨th,hth,rfl⟩:=bJ h6
   split at h5
   ·rename_i hdk;have hdk':th.k= .dead:=by
     rw[bg] at hdk;cases hk':th.k<;>rw[hk'] at hdk<;>simp[Kd.er] at hdk ⊢
    obtain ⟨u1,st4,h7,h8⟩:=FM.bind_some h5
    obtain ⟨_,rfl⟩:=fH h7
    obtain ⟨_,rfl⟩:=fH h8
    obtain ⟨hbox,b,hta,hv,hb1,hb2,hb3,hb4,hb5⟩:=hm.box t hk'
    have hp:=hm.inv.putHigh (p:=d+E.nt) (by omega) (by unfold bf;omega) (by unfold bf;omega) hth hdk' hk' hta hbox hb1 hb3 hb4 hb5
    have hpS:=(List.getElem?_eq_some_iff.1 hth).1
    have ho':(S.set (d+E.nt) sA)[d]?=some o:=by
     rw[List.getElem?_set_ne (by omega)];exact ho
    have hba:aL (S.set (d+E.nt) sA) (d+E.nt)=some ⟨b,0,none⟩:=by
     unfold aL;rw[List.getElem?_set_self hpS]
     obtain ⟨k',cs'⟩:=sA
     simp only at hk';subst hk';exact hta
    refine ⟨(S.set (d+E.nt) sA).set d ⟨.ptr (d+E.nt) 0,[]⟩,by rw[fi,fi];rfl,?_⟩
    refine Inv.put (zs:=[]) (s:=⟨.ptr (d+E.nt) 0,[]⟩) hp hd ho' hfree rfl (by simp) ?_ (by simp) (by simp)
    exact ⟨b,hba,by rw[hv]⟩
   ·exact (aM h5).elim
  ·rename_i hk;have hk':∀ t,sA.k≠ .box t:=by
    intro t ht;exact hk () (by rw[bg,ht];rfl)
   obtain ⟨_,rfl⟩:=fH h2
   refine ⟨S.set d sA,by rw[fi],?_⟩
   exact hm.inv.put hd ho hfree rfl hk' (hm.val hk') hm.emp hm.ept
 ·exact (aM h2).elim
theorem Made.drop {sA:SA} {v:Value} (hm:Made E S X C a w sA v):Inv E S X C a w:=hm.inv.dropAll
end
end Go.Vm
end
section
namespace Go.Vm
def bD (x:Cell Tg):Cell Tg:=match x.f with | .ow g=>⟨x.v, .nw g⟩ | _=>x
theorem jA (x:Cell Tg):(bD x).v=x.v:=by
 obtain ⟨v,f⟩:=x
 cases f<;>rfl
theorem yj (x:Cell Tg):(bD x).er=pC x.er:=by
 obtain ⟨v,f⟩:=x
 cases f<;>rfl
theorem wD (x:Cell Tg):(bD x).own=x.own:=by
 obtain ⟨v,f⟩:=x
 cases f<;>rfl
theorem pD (zs:List (Cell Tg)):(zs.map bD).map Cell.er=(zs.map Cell.er).map pC:=by
 simp only[List.map_map];exact List.map_congr_left fun x _=>yj x
theorem yk (zs:List (Cell Tg)):(zs.map bD).map (·.v)=zs.map (·.v):=by
 simp only[List.map_map];exact List.map_congr_left fun x _=>jA x
theorem oe (zs:List (Cell Tg)):(zs.map bD).flatMap Cell.own=zs.flatMap Cell.own:=by
 induction zs with
 | nil=>rfl
 | cons z zs ih=>simp only[List.map_cons,List.flatMap_cons,ih,wD]
section
variable {E:Env} {cx:Cx} {S:StA} {X:List (Cell Tg)} {C:Nat→Nat→Prop} {a:Act} {w w':World}
theorem COk.new {x:Cell Tg} (h:COk E w C S X x):COk E w C S X (bD x):=by
 obtain ⟨v,f⟩:=x
 cases f<;>exact h
def Gq (f:Fl):Prop:=(∀ g,f≠ .ow g)∧(∀ i,f≠ .mp i)∧∀ p q r,f≠ .ap p q r
theorem nR {z:Cell Tg} (ht:eO z.f=true) (hm:∀ i,z.f≠ .mp i):Gq (bD z).f:=by
 obtain ⟨v,f⟩:=z
 cases f<;>first | exact absurd rfl (hm _) | (simp[eO] at ht;done) | exact ⟨by simp[bD],by simp[bD],by simp[bD]⟩
theorem Bl {zs:List (Cell Tg)} (h:FB (zs.map Cell.er)=true):∀ z∈zs,∀ i,z.f≠ .mp i:=by
 intro z hz i e;have:=List.all_eq_true.1 h z.er (List.mem_map_of_mem hz)
 simp[Cell.er,e] at this
theorem iE:∀ {xs ys:List (Cell Tg)},fZ (xs.map Cell.er) (ys.map Cell.er)=true→∀ (q:Nat) (x:Cell Tg),xs[q]?=some x→aY x.v=true→∃ y,ys[q]?=some y∧aY y.v=true
 | [],_,_,q,x,hx,_=>by simp at hx
 | x'::xs,[],h,q,x,hx,hr=>by
  simp only[List.map_cons,List.map_nil,fZ,Bool.and_eq_true,Cell.er,fX] at h;cases q with
  | zero=>simp at hx;subst hx;simp[hr] at h
  | succ q=>
   obtain ⟨y,hy,_⟩:=iE (xs:=xs) (ys:=[]) (by simpa using h.2) q x (by simpa using hx) hr
   simp at hy
 | x'::xs,y'::ys,h,q,x,hx,hr=>by
  simp only[List.map_cons,fZ,Bool.and_eq_true,Cell.er,fX,Bool.or_eq_true,Bool.not_eq_true'] at h;cases q with
  | zero=>
   simp at hx;subst hx;refine ⟨y',rfl,?_⟩
   rcases h.1 with h | h
   ·rw[hr] at h;cases h
   ·exact h
  | succ q=>
   obtain ⟨y,hy,hyr⟩:=iE (xs:=xs) (ys:=ys) h.2 q x (by simpa using hx) hr
   exact ⟨y,by simpa using hy,hyr⟩
theorem iY {zs:List (Cell Tg)} {d:Nat} {s o:SA} (ho:S[d]?=some o) (hbo:s.boxOwn=o.boxOwn) (hown:∀ b,(s.cs.flatMap Cell.own).count b≤(o.cs.flatMap Cell.own).count b+(zs.flatMap Cell.own).count b)
  (hrow:∀ (q:Nat) (x:Cell Tg),o.cs[q]?=some x→aY x.v=true→∃ y,s.cs[q]?=some y∧aY y.v=true)
  (hq:∀ (q:Nat) (x:Cell Tg),s.cs[q]?=some x→Gq x.f∨o.cs[q]?=some x):Less S (S.set d s) (zs++X) X:=by
 have hd:=(List.getElem?_eq_some_iff.1 ho).1
 refine ⟨fun b=>?_,fun p q hr=>?_,fun p q y hr hy hf=>?_⟩
 ·have h1:=bk Sl.own b S d o s ho;have h2:=hown b;have h3:o.own.count b=o.boxOwn.count b+(o.cs.flatMap Cell.own).count b:=by unfold Sl.own;rw[List.count_append]
  have h4:s.own.count b=s.boxOwn.count b+(s.cs.flatMap Cell.own).count b:=by unfold Sl.own;rw[List.count_append]
  rw[hbo] at h4;simp only[aA,List.count_append,List.flatMap_append] at h1 ⊢;omega
 ·obtain ⟨y,hy,hyr⟩:=hr
  unfold mv;rw[gR hd];by_cases hp:p=d
  ·subst hp;obtain ⟨sl,h1,h2⟩:=aE hy
   rw[ho] at h1;obtain rfl:=Option.some.inj h1
   simp only[if_true];exact hrow q y h2 hyr
  ·simp only[hp,if_false];exact ⟨y,hy,hyr⟩
 ·rw[gR hd] at hy;by_cases hp:p=d
  ·subst hp;simp only[if_true] at hy;rcases hq q y hy with hq | hq
   ·rcases hf with ⟨g,hg⟩ | ⟨i,hi⟩
    ·exact absurd hg (hq.1 g)
    ·exact absurd hi (hq.2.1 i)
   ·exact ⟨y,bN ho hq,rfl,rfl⟩
  ·simp only[hp,if_false] at hy;exact ⟨y,hy,rfl,rfl⟩
theorem Inv.putL {zs:List (Cell Tg)} (h:Inv E S (zs++X) C a w) {d:Nat} {s o:SA} (hd:d < E.nt) (ho:S[d]?=some o) (hl:Less S (S.set d s) (zs++X) X) (hcs:∀ x∈s.cs,COk E w C S (zs++X) x∧∀ p q r,x.f≠ .ap p q r)
  (hob:∀ t,o.k≠ .box t) (hsb:∀ t,s.k≠ .box t)
  {v:Value} (hv:SlV E.sid S s v) (hemp:(s.k= .dead∨s.k= .und∨(∃ r o,s.k= .ptr r o)∨∃ g rs,s.k= .clo g rs)→s.cs=[])
  (hept:∀ t src ix,s.k= .ept t src ix→EptOk E w C S t src ix s.cs):Inv E (S.set d s) X C (a.put (some d) v) w:=by
 have hdS:=(List.getElem?_eq_some_iff.1 ho).1
 have hbox:=my ho hob hsb;have hget:∀ {i:Nat} {s':SA},(S.set d s)[i]?=some s'→(i=d∧s'=s)∨(i≠d∧S[i]?=some s'):=by
  intro i s' hi;rw[List.getElem?_set] at hi
  split at hi
  ·rename_i e;subst e;simp only[Option.some.injEq] at hi;exact .inl ⟨rfl,hi.symm⟩
  ·rename_i e;exact .inr ⟨fun h=>e h.symm,hi⟩
 refine ⟨by simp[h.len],by simp[Act.put,h.tsz],h.nodef,?_,?_,?_,?_,?_,?_,?_,?_,?_,?_,h.olt,h.clt,h.cbase,fun b hb=>h.ownlt b (hl.mem hb)⟩
 ·intro i s' hi hs';rcases hget hs' with ⟨rfl,rfl⟩ | ⟨hne,hs'⟩
  ·have:(a.put (some i) v).tmps.getD i undef=v:=by
    simp[Act.put,h.tsz,hd]
   rw[this];exact hv.set hbox
  ·have:(a.put (some d) v).tmps.getD i undef=a.tmps.getD i undef:=by
    have hne':¬d=i:=fun e=>hne e.symm
    simp[Act.put,hne']
   rw[this];exact (h.slv i s' hi hs').set hbox
 ·intro i s' hi hs';rcases hget hs' with ⟨rfl,rfl⟩ | ⟨hne,hs'⟩
  ·omega
  ·exact h.high i s' hi hs'
 ·intro i s' hs' hk;rcases hget hs' with ⟨rfl,rfl⟩ | ⟨hne,hs'⟩
  ·exact hemp hk
  ·exact h.emp i s' hs' hk
 ·intro i s' hi hs' hk;rcases hget hs' with ⟨rfl,rfl⟩ | ⟨hne,hs'⟩
  ·omega
  ·exact h.lock i s' hi hs' hk
 ·intro l hl' hk;rcases hget hl' with ⟨e,_⟩ | ⟨hne,hl'⟩
  ·unfold bf at e;omega
  ·obtain ⟨h1,h2⟩:=h.noap l hl' hk
   refine ⟨fun i s' hs' x hx=>?_,fun x hx=>h2 x (List.mem_append.2 (.inr hx))⟩
   rcases hget hs' with ⟨rfl,rfl⟩ | ⟨hne,hs'⟩
   ·exact (hcs x hx).2
   ·exact h1 i s' hs' x hx
 ·intro i s' t hs' hk;rcases hget hs' with ⟨rfl,rfl⟩ | ⟨hne,hs'⟩
  ·exact absurd hk (hsb t)
  ·exact h.box i s' t hs' hk
 ·intro i s' t src ix hs' hk;rcases hget hs' with ⟨rfl,rfl⟩ | ⟨hne,hs'⟩
  ·exact (hept t src ix hk).less hl
  ·exact (h.ept i s' t src ix hs' hk).less hl
 ·intro i s' hs' x hx;rcases hget hs' with ⟨rfl,rfl⟩ | ⟨hne,hs'⟩
  ·exact ((hcs x hx).1).less hl
  ·exact (h.cells i s' hs' x hx).less hl
 ·intro x hx;exact (h.hand x (List.mem_append.2 (.inr hx))).less hl
 ·exact fun b=>Nat.le_trans (hl.own b) (h.cnt b)
theorem qB (h:Inv E S X C a w) {d:Nat} (hd:d < E.nt) {o:SA} (ho:S[d]?=some o):∀ t,o.k≠ .box t:=by
 intro t hk;have:=h.slv d o hd ho
 unfold SlV at this;rw[hk] at this;exact this
theorem xr (hf:Fits E cx) (h:Inv E S X C a w) {o:Oper} {ox:Operand} {x:Opd} (ho:o.op= .assign ox) (hx:bj cx ox=some x) {d:Nat} {u:Unit} {st1:St} (hr:(ly E.nt d x).run (erS S)=some (u,st1)):
  ∃ S1 C1,(execOp a.eval o).run E.P w= .ok (.value (a.eval ox)) w∧erS S1=st1∧Inv E S1 X C1 (a.put (some d) (a.eval ox)) w:=by
 have hex:(execOp a.eval o).run E.P w= .ok (.value (a.eval ox)) w:=by unfold execOp;rw[ho];rfl
 unfold ly at hr;split at hr
 ·exact (aM hr).elim
 ·rename_i hd;have hd:d < E.nt:=by omega
  obtain ⟨sl,st2,h1,h2⟩:=FM.bind_some hr
  clear hr;obtain ⟨rfl,s0,rfl,hop⟩:=da hf h hx h1
  have cells:((take x).bind fun y=>(eP d).bind fun old=>
    if fZ old.cs y.2∧FB y.2 then kE d ⟨if y.1 then .agg else .val,y.2.map pC⟩ else .fail).run (erS S)=some (u,st1)→
    ∃ S1 C1,(execOp a.eval o).run E.P w= .ok (.value (a.eval ox)) w∧erS S1=st1∧Inv E S1 X C1 (a.put (some d) (a.eval ox)) w:=by
   intro hr;obtain ⟨y,st3,h3,h4⟩:=FM.bind_some hr
   clear hr;obtain ⟨S1,C1,zs,rfl,e2,e3,e4,e5,e6,e7⟩:=gy hf h hx h3
   obtain ⟨old,st4,h5,h6⟩:=FM.bind_some h4
   clear h4;obtain ⟨h7,rfl⟩:=cO h5
   obtain ⟨o1,ho1,rfl⟩:=bJ h7
   split at h6
   ·rename_i hh;obtain ⟨hst,hmp⟩:=hh
    obtain ⟨_,rfl⟩:=fH h6
    rw[←e2] at hst hmp;have hmp':=Bl hmp;have hst':=iE hst;have hsb:∀ (t:Tg),(⟨if y.1 then Kd.agg else .val,zs.map bD⟩:SA).k≠ .box t:=by
     intro t;cases y.1<;>simp
    have hnb:=qB e4 hd ho1;refine ⟨S1.set d ⟨if y.1 then .agg else .val,zs.map bD⟩,C1,hex,?_,?_⟩
    ·rw[fi]
     congr 1
     simp only[Sl.er,pD,e2];cases y.1<;>rfl
    ·refine e4.putL hd ho1 (iY ho1 ?_ (fun b=>?_) (fun q z hz hzr=>?_) (fun q z hz=>?_)) (fun z hz=>?_) hnb hsb ?_ ?_ ?_
     ·unfold Sl.boxOwn;cases hk:o1.k<;>first | (cases y.1<;>rfl) | exact absurd hk (hnb _)
     ·rw[oe];omega
     ·obtain ⟨z',hz',hzr'⟩:=hst' q z hz hzr
      exact ⟨bD z',by simp[hz'],by rw[jA];exact hzr'⟩
     ·simp only[List.getElem?_map,Option.map_eq_some_iff] at hz
      obtain ⟨z',hz',rfl⟩:=hz
      have:=List.mem_of_getElem? hz'
      exact .inl (nR (e3 z' this) (hmp' z' this))
     ·obtain ⟨z',hz',rfl⟩:=List.mem_map.1 hz
      exact ⟨(e4.hand z' (List.mem_append.2 (.inl hz'))).new,(nR (e3 z' hz') (hmp' z' hz')).2.2⟩
     ·unfold SlV;cases hy1:y.1 with
      | true=>
       rw[hy1] at e7;simp only[if_true] at e7 ⊢;rw[e7,d9 (yk zs)]
      | false=>
       rw[hy1] at e7;simp only[Bool.false_eq_true,if_false] at e7 ⊢;obtain ⟨z,rfl,hzv⟩:=e7
       exact ⟨bD z,rfl,by rw[jA];exact hzv⟩
     ·cases y.1<;>simp
     ·cases y.1<;>simp
   ·exact (aM h6).elim
  have bare:(∃ r o,s0.k= .ptr r o)∨(∃ g rs,s0.k= .clo g rs)→((eP d).bind fun old=>if fZ old.cs [] then kE d s0.er else .fail).run (erS S)=some (u,st1)→
    ∃ S1 C1,(execOp a.eval o).run E.P w= .ok (.value (a.eval ox)) w∧erS S1=st1∧Inv E S1 X C1 (a.put (some d) (a.eval ox)) w:=by
   intro hk hr;obtain ⟨old,st4,h5,h6⟩:=FM.bind_some hr
   clear hr;obtain ⟨h7,rfl⟩:=cO h5
   obtain ⟨o1,ho1,rfl⟩:=bJ h7
   split at h6
   ·rename_i hst;obtain ⟨_,rfl⟩:=fH h6
    have hst':=iE (ys:=[]) hst;have hsb:∀ t,s0.k≠ .box t:=by
     intro t e;rcases hk with ⟨r,o,hk⟩ | ⟨g,rs,hk⟩<;>rw[hk] at e<;>cases e
    have hnb:=qB h hd ho1;cases hop with
    | slot i s0 hi hs hv=>
     have hemp:=h.emp i s0 hs (hk.elim (fun h=> .inr (.inr (.inl h))) (fun h=> .inr (.inr (.inr h))))
     refine ⟨S.set d s0,C,hex,by rw[fi],?_⟩
     refine Inv.putL (zs:=[]) h hd ho1 (iY ho1 ?_ (fun b=>?_) (fun q z hz hzr=>?_) (fun q z hz=>?_)) (fun z hz=>?_) hnb hsb hv (fun _=>hemp) ?_
     ·unfold Sl.boxOwn;cases hk':o1.k<;>first | exact absurd hk' (hnb _) | (cases hk2:s0.k<;>first | rfl | exact absurd hk2 (hsb _))
     ·rw[hemp];simp
     ·obtain ⟨y,hy,_⟩:=hst' q z hz hzr
      simp at hy
     ·rw[hemp] at hz;simp at hz
     ·rw[hemp] at hz;simp at hz
     ·intro t src ix e;rcases hk with ⟨r,o,hk⟩ | ⟨g,rs,hk⟩<;>rw[hk] at e<;>cases e
    | const agg vs s0 hk' he hok hv h1'=>
     exfalso
     cases agg<;>rcases hk with ⟨r,o,hk⟩ | ⟨g,rs,hk⟩<;>rw[hk] at hk'<;>simp at hk'
    | fn g hv=>simp at hk
   ·exact (aM h6).elim
  split at h2
  ·exact cells h2
  ·exact cells h2
  ·rename_i r off hk;refine bare (.inl ?_) h2
   rw[bg] at hk;cases hk':s0.k<;>rw[hk'] at hk<;>simp[Kd.er] at hk ⊢
  ·rename_i g rs hk;refine bare (.inr ?_) h2
   rw[bg] at hk;cases hk':s0.k<;>rw[hk'] at hk<;>simp[Kd.er] at hk ⊢
  ·exact (aM h2).elim
end
end Go.Vm
end
section
namespace Go.Vm
theorem qY {α:Type}:∀ (xs cs:List α) (off:Nat),off+xs.length≤cs.length→splice cs off xs=cs.take off++xs++cs.drop (off+xs.length)
 | [],cs,off,_=>by simp[splice]
 | x::xs,cs,off,h=>by
  simp only[List.length_cons] at h;simp only[splice];rw[qY xs (cs.set off x) (off+1) (by rw[List.length_set];omega)]
  have h1:(cs.set off x).take (off+1)=cs.take off++[x]:=by
   rw[List.set_eq_take_append_cons_drop,if_pos (by omega)]
   rw[List.take_append];simp[List.length_take,List.take_take,Nat.min_eq_left (show off≤cs.length by omega)]
  have h2:(cs.set off x).drop (off+1+xs.length)=cs.drop (off+(xs.length+1)):=by
   rw[List.drop_set];rw[if_pos (by omega)]
   congr 1;omega
  rw[h1,h2];simp
theorem oZ {α:Type} {xs cs:List α} {off:Nat} (h:off+xs.length≤cs.length) (q:Nat):(splice cs off xs)[q]?=if off≤q∧q < off+xs.length then xs[q - off]? else cs[q]?:=by
 rw[qY xs cs off h];by_cases h1:q < off
 ·rw[if_neg (by omega),List.append_assoc,List.getElem?_append_left (by rw[List.length_take];omega),List.getElem?_take,if_pos h1]
 ·by_cases h2:q < off+xs.length
  ·rw[if_pos (by omega),List.append_assoc,List.getElem?_append_right (by rw[List.length_take];omega),List.length_take,Nat.min_eq_left (by omega),List.getElem?_append_left (by omega)]
  ·rw[if_neg (by omega),List.getElem?_append_right (by rw[List.length_append,List.length_take];omega),List.length_append,List.length_take,Nat.min_eq_left (by omega),List.getElem?_drop]
   congr 1;omega
section
variable {E:Env} {cx:Cx} {S:StA} {X:List (Cell Tg)} {C:Nat→Nat→Prop} {a:Act} {w w':World}
theorem Inv.boxBlk (_h:Inv E S X C a w) {i:Nat} {s:SA} (hs:S[i]?=some s) {b:Nat} (hb:b∈s.boxOwn):b∈aA S X:=by
 rw[←List.count_pos_iff,cI];have:=List.count_pos_iff.2 (List.mem_flatMap.2 ⟨s,List.mem_of_getElem? hs,hb⟩)
 omega
theorem xy {i j:Nat} {s s':SA} (hcnt:∀ b,(S.flatMap Sl.boxOwn).count b≤1) (hs:S[i]?=some s) (hs':S[j]?=some s') {b:Nat} (hb:b∈s.boxOwn) (hb':b∈s'.boxOwn):i=j:=by
 induction S generalizing i j with
 | nil=>simp at hs
 | cons t S ih=>
  simp only[List.flatMap_cons,List.count_append] at hcnt;cases i with
  | zero=>
   cases j with
   | zero=>rfl
   | succ j=>
    simp at hs hs';subst hs;have h1:=hcnt b;have h2:=List.count_pos_iff.2 hb;have h3:0 < (S.flatMap Sl.boxOwn).count b:=List.count_pos_iff.2 (List.mem_flatMap.2 ⟨s',List.mem_of_getElem? hs',hb'⟩);omega
  | succ i=>
   cases j with
   | zero=>
    simp at hs hs';subst hs';have h1:=hcnt b;have h2:=List.count_pos_iff.2 hb';have h3:0 < (S.flatMap Sl.boxOwn).count b:=List.count_pos_iff.2 (List.mem_flatMap.2 ⟨s,List.mem_of_getElem? hs,hb⟩);omega
   | succ j=>
    congr 1
    exact ih (fun b=>by have:=hcnt b;omega) (by simpa using hs) (by simpa using hs')
theorem Inv.setBox {zs:List (Cell Tg)} (h:Inv E S (zs++X) C a w) {r b:Nat} {o:SA} {cs':List (Cell Tg)} {t:Tg} (ho:S[r]?=some o) (hk:o.k= .box t) (hta:t.a=some ⟨b,0,none⟩) (ht:Tail w w' b 0)
  (hbox:o6 E w' C t cs') (hl:Less S (S.set r ⟨.box t,cs'⟩) (zs++X) X) (hcs:∀ x∈cs',COk E w C S (zs++X) x∧((∀ p q k,x.f≠ .ap p q k)∨x∈o.cs)):Inv E (S.set r ⟨.box t,cs'⟩) X C a w':=by
 have hrS:=(List.getElem?_eq_some_iff.1 ho).1
 have hbo:b∈o.boxOwn:=by simp[Sl.boxOwn,hk,hta]
 have hbin:=h.boxBlk ho hbo;have hCb:∀ j,¬C b j:=by
  obtain ⟨b',T,h1,h2,h3⟩:=h.box r o t ho hk
  rw[hta] at h1;simp only[Option.some.injEq,Addr.mk.injEq,and_true] at h1;subst h1;exact h3.1
 have hC:∀ j,C b j→j < 0:=fun j hj=>(hCb j hj).elim
 have hnb:∀ x∈aF S (zs++X),aN x.f=true→b∉x.v.blks:=fun x hx hox hbx=>h.boxApart ho hbo hx (dh hox hbx)
 have hcell:∀ x,COk E w C S (zs++X) x→(aN x.f=true→b∉x.v.blks)→COk E w' C S (zs++X) x:=by
  intro x hk hn;have hro:∀ {v:A},Rd E.sid w E.old v→Rd E.sid w' E.old v:=fun hr=>hr.mono (fun _ _=>id) (fun b' j hj=>ht.cell (fun e=>hC j (e▸h.olt b' j hj)))
  obtain ⟨v,f⟩:=x
  cases f with
  | sp p q=>exact ⟨hk.1,hro hk.2.1,hk.2.2⟩
  | sh=>exact hro hk
  | ow g=>exact ⟨hk.1,ht.shp' hC hk.2.1 (fun hb=>(hn rfl hb).elim),hk.2.2⟩
  | nw g=>exact ⟨hk.1,ht.shp' hC hk.2.1 (fun hb=>(hn rfl hb).elim),hk.2.2⟩
  | mp i=>
   refine ⟨?_,hk.2⟩
   have:=ht.shp' (g:=false) hC (v:=v) (by simpa [Shp'] using hk.1) (fun hb=>(hn rfl hb).elim)
   simpa [Shp'] using this
  | cp ck s c ix=>exact ⟨hk.1,ht.rd hC hk.2.1,hk.2.2.1,fun e=>ht.fst hC (hk.2.2.2 e) hk.2.1⟩
  | ap s c ix=>
   refine ⟨hk.1,hk.2.1,fun y hy hg=>⟨?_,(hk.2.2 y hy hg).2⟩⟩
   have h1:=(hk.2.2 y hy hg).1;have hb:b∉v.blks:=by
    intro hb;rcases (hk.2.2 y hy hg).2 with h2 | ⟨t',es,u,e1,e2,e3,_⟩
    ·exact (h2 b hb).1 hbin
    ·obtain ⟨sl,hs,hc⟩:=aE hy
     refine hnb y (aX hs (List.mem_of_getElem? hc)) (by obtain ⟨g,hg⟩:=hg;rw[hg];rfl) ?_
     rw[e1];exact dD (List.mem_of_getElem? e2) (e3▸hb)
   exact ⟨h1.1.mono (fun _ _ _=>id) (fun b' hb'=>ht.other b' (fun e=>hb (e▸hb'))),h1.2⟩
  | fr=>exact ⟨hk.1,ht.rd hC hk.2.1,ht.fst hC hk.2.2 hk.2.1⟩
  | no=>exact ⟨hk.1,ht.rd hC hk.2⟩
  | _=>exact hk
 have hget:∀ {i:Nat} {s':SA},(S.set r ⟨.box t,cs'⟩)[i]?=some s'→(i=r∧s'=⟨.box t,cs'⟩)∨(i≠r∧S[i]?=some s'):=by
  intro i s' hi;rw[List.getElem?_set] at hi
  split at hi
  ·rename_i e;subst e;simp only[Option.some.injEq] at hi;exact .inl ⟨rfl,hi.symm⟩
  ·rename_i e;exact .inr ⟨fun h=>e h.symm,hi⟩
 have hba:∀ q,aL (S.set r ⟨.box t,cs'⟩) q=aL S q:=by
  intro q;unfold aL;by_cases e:r=q
  ·subst e;rw[List.getElem?_set_self hrS,ho]
   obtain ⟨k,cs⟩:=o
   simp only at hk;subst hk;rfl
  ·rw[List.getElem?_set_ne e]
 have hrnt:E.nt≤r:=by
  rcases Nat.lt_or_ge r E.nt with hlt | hge
  ·exact absurd hk (qB h hlt ho t)
  ·exact hge
 refine ⟨by simp[h.len],h.tsz,h.nodef,?_,?_,?_,?_,?_,?_,?_,?_,?_,?_,h.olt,?_,h.cbase,?_⟩
 ·intro i s' hi hs';rcases hget hs' with ⟨rfl,rfl⟩ | ⟨hne,hs'⟩
  ·omega
  ·exact (h.slv i s' hi hs').set hba
 ·intro i s' hi hs';rcases hget hs' with ⟨rfl,rfl⟩ | ⟨hne,hs'⟩
  ·refine .inr (.inr ⟨t,rfl,?_⟩)
   rcases h.high _ o hi ho with h1 | h1 | ⟨t',h1,h2⟩
   ·rw[hk] at h1;cases h1
   ·rw[hk] at h1;cases h1
   ·rw[hk] at h1;simp only[Kd.box.injEq] at h1;subst h1;exact h2
  ·exact h.high i s' hi hs'
 ·intro i s' hs' hk';rcases hget hs' with ⟨rfl,rfl⟩ | ⟨hne,hs'⟩
  ·simp at hk'
  ·exact h.emp i s' hs' hk'
 ·intro i s' hi hs' hk';rcases hget hs' with ⟨rfl,rfl⟩ | ⟨hne,hs'⟩
  ·simp at hk'
  ·exact h.lock i s' hi hs' hk'
 ·intro l hl' hk';rcases hget hl' with ⟨e,rfl⟩ | ⟨hne,hl'⟩
  ·simp at hk'
  ·obtain ⟨h1,h2⟩:=h.noap l hl' hk'
   refine ⟨fun i s' hs' x hx=>?_,fun x hx=>h2 x (List.mem_append.2 (.inr hx))⟩
   rcases hget hs' with ⟨rfl,rfl⟩ | ⟨hne,hs'⟩
   ·rcases (hcs x hx).2 with hn | hm
    ·exact hn
    ·exact h1 _ o ho x hm
   ·exact h1 i s' hs' x hx
 ·intro i s' t' hs' hk';rcases hget hs' with ⟨rfl,rfl⟩ | ⟨hne,hs'⟩
  ·simp only[Kd.box.injEq] at hk';subst hk';exact hbox
  ·obtain ⟨b',T,h1,h2,h3⟩:=h.box i s' t' hs' hk'
   refine ⟨b',T,h1,(ht.other b' (fun e=>?_)).trans h2,h3⟩
   subst e;refine hne (xy (S:=S) (fun x=>?_) hs' ho (b:=b') (by simp[Sl.boxOwn,hk',h1]) hbo)
   have h5:=h.cnt x;rw[cI] at h5;omega
 ·intro i s' t' src ix hs' hk';rcases hget hs' with ⟨rfl,rfl⟩ | ⟨hne,hs'⟩
  ·simp at hk'
  ·obtain ⟨b',o',h1,h2,h3⟩:=(h.ept i s' t' src ix hs' hk').less hl
   exact ⟨b',o',h1,fun j x hx=>⟨(h2 j x hx).1,(ht.cell (fun e=>hC _ (e▸(h2 j x hx).1))).trans (h2 j x hx).2⟩,h3⟩
 ·intro i s' hs' x hx;rcases hget hs' with ⟨rfl,rfl⟩ | ⟨hne,hs'⟩
  ·refine (hcell x (hcs x hx).1 (fun hox hbx=>?_)).less hl
   have hin:b∈(S.set i (⟨.box t,cs'⟩:SA)).flatMap Sl.own:=by
    refine List.mem_flatMap.2 ⟨⟨.box t,cs'⟩,List.mem_of_getElem? (List.getElem?_set_self hrS),?_⟩
    unfold Sl.own;exact List.mem_append.2 (.inl (by simp[Sl.boxOwn,hta]))
   have hc2:2≤((⟨.box t,cs'⟩:SA).own).count b:=by
    unfold Sl.own;rw[List.count_append];have e1:0 < (Sl.boxOwn (⟨.box t,cs'⟩:SA)).count b:=List.count_pos_iff.2 (by simp[Sl.boxOwn,hta])
    have e2:0 < (cs'.flatMap Cell.own).count b:=List.count_pos_iff.2 (List.mem_flatMap.2 ⟨x,hx,dh hox hbx⟩);simp only;omega
   have h5:=hl.own b;have h6:=h.cnt b;have h7:((⟨.box t,cs'⟩:SA).own).count b≤((S.set i (⟨.box t,cs'⟩:SA)).flatMap Sl.own).count b:=by
    have:=bk Sl.own b S i o ⟨.box t,cs'⟩ ho
    have h8:o.own.count b≤(S.flatMap Sl.own).count b:=by
     have hm:=List.mem_of_getElem? ho;obtain ⟨l1,l2,hl12⟩:=List.append_of_mem hm
     rw[hl12];simp only[List.flatMap_append,List.flatMap_cons,List.count_append];omega
    omega
   have h9:((S.set i (⟨.box t,cs'⟩:SA)).flatMap Sl.own).count b≤(aA (S.set i ⟨.box t,cs'⟩) X).count b:=by
    unfold aA;rw[List.count_append];omega
   omega
  ·exact (hcell x (h.cells i s' hs' x hx) (hnb x (aX hs' hx))).less hl
 ·intro x hx;have hm:=List.mem_append.2 (.inr hx:x∈zs∨x∈X);exact (hcell x (h.hand x hm) (hnb x (dT hm))).less hl
 ·exact fun b'=>Nat.le_trans (hl.own b') (h.cnt b')
 ·exact fun b' j hj=>by rw[ht.size];exact h.clt b' j hj
 ·exact fun b' hb'=>⟨by rw[ht.size];exact (h.ownlt b' (hl.mem hb')).1,(h.ownlt b' (hl.mem hb')).2⟩
theorem rV {P:Program} {t:TypeId} {i:TypeInfo} (hi:P.info? t=some i) {v:Value} {vs:List Value} (hv:v.cells=vs.toArray) (hn:vs.length=i.size) (h1:∀ u∈vs,u.oneCell'=true) {b off:Nat} {cur:Array Value} {T:TypeId}
  (hg:w.heap[b]?=some (.cells cur T (0,0))) (hfit:off+vs.length≤cur.size):
  (Instr.storeAt t (.pointer (some ⟨b,off,none⟩)) v).run P w= .ok () (w.setRow b (splice cur.toList off vs).toArray):=by
 have hst:=run_storeCells_at P b off T vs 0 cur w hg (by simpa using hfit) h1
 simp only[Nat.add_zero] at hst;rw[←qY vs cur.toList off (by simpa using hfit)] at hst
 simp[Instr.storeAt,Instr.sureAddr,storeVar,sizeOf,typeInfo,hi,hv,hn,hst]
theorem AR (hf:Fits E cx) (h:Inv E S X C a w) {o:Oper} {t:TypeId} {i:TypeInfo} {oa ox:Operand} {x y:Opd} (ho:o.op= .store t oa ox) (hi:E.P.info? t=some i) (hx:bj cx oa=some x) (hy:bj cx ox=some y)
  {u:Unit} {st1:St} (hr:(nL i.size x y).run (erS S)=some (u,st1)):
  ∃ w' S1 C1,(execOp a.eval o).run E.P w= .ok .skip w'∧erS S1=st1∧Inv E S1 X C1 a w'∧Frame E w w':=by
 unfold nL at hr;obtain ⟨sl,st2,h1,h2⟩:=FM.bind_some hr
 clear hr;obtain ⟨rfl,s0,rfl,hop⟩:=da hf h hx h1
 split at h2
 ·rename_i r off hk;have hk':s0.k= .ptr r off:=by
   rw[bg] at hk;cases hk':s0.k<;>rw[hk'] at hk<;>simp[Kd.er] at hk ⊢
   exact hk
  have hptr:∃ b,aL S r=some ⟨b,0,none⟩∧a.eval oa= .pointer (some ⟨b,off,none⟩):=by
   cases hop with
   | slot j s0 hj hs hv=>unfold SlV at hv;rw[hk'] at hv;exact hv
   | const agg vs s0 hk he hok hv h1'=>cases agg<;>rw[hk'] at hk<;>simp at hk
   | fn g hv=>simp at hk'
  obtain ⟨b,hba,hva⟩:=hptr
  obtain ⟨yy,st3,h3,h4⟩:=FM.bind_some h2
  clear h2;obtain ⟨S1,C1,zs,rfl,e2,e3,e4,e5,e6,e7⟩:=gy hf h hy h3
  obtain ⟨bb,st4,h5,h6⟩:=FM.bind_some h4
  clear h4;obtain ⟨h7,rfl⟩:=cO h5
  obtain ⟨o1,ho1,rfl⟩:=bJ h7
  split at h6
  ·rename_i tb hkb;have hkb':∃ t1,o1.k= .box t1:=by
    rw[bg] at hkb;cases hk':o1.k<;>rw[hk'] at hkb<;>simp[Kd.er] at hkb ⊢
   obtain ⟨t1,hkb'⟩:=hkb'
   split at h6
   ·rename_i hh;obtain ⟨hn,hle,hst,hmp⟩:=hh
    obtain ⟨_,rfl⟩:=fH h6
    rw[aP] at hle hst;rw[←e2] at hst hmp hn;rw[List.length_map] at hn hle;have hmp':=Bl hmp;have hst':=iE (xs:=o1.cs.drop off) (ys:=zs++o1.cs.drop (off+i.size)) (by
     rw[List.map_drop,List.map_append,List.map_drop];exact hst)
    have hba1:aL S1 r=some ⟨b,0,none⟩:=by rw[e5.box];exact hba
    have hta:t1.a=some ⟨b,0,none⟩:=by
     unfold aL at hba1;rw[ho1] at hba1;obtain ⟨k,cs⟩:=o1
     simp only at hkb';subst hkb';exact hba1
    obtain ⟨b',T,q1,q2,q3,q4⟩:=e4.box r o1 t1 ho1 hkb'
    rw[hta] at q1;simp only[Option.some.injEq,Addr.mk.injEq,and_true] at q1;subst q1;have hcells:=ki e7;have hfit:off+(zs.map bD).length≤o1.cs.length:=by rw[List.length_map];omega
    have hrun:=rV (P:=E.P) (w:=w) hi (b:=b) (off:=off) (vs:=zs.map (·.v.val E.sid)) (v:=a.eval ox) hcells (by rw[List.length_map];exact hn) (by
     intro u hu;obtain ⟨z,_,rfl⟩:=List.mem_map.1 hu
     exact ng _) q2 (by simp only[List.length_map,List.size_toArray];omega)
    have hnew:(splice (o1.cs.map (·.v.val E.sid)).toArray.toList off (zs.map (·.v.val E.sid))).toArray=((splice o1.cs off (zs.map bD)).map (·.v.val E.sid)).toArray:=by
     rw[gl]
     congr 2
     rw[List.map_map];exact List.map_congr_left fun z _=>by simp[jA]
    rw[hnew] at hrun;have hh':=setRow_heap w b _ ((splice o1.cs off (zs.map bD)).map (·.v.val E.sid)).toArray T (0,0) q2;have htail:Tail w (w.setRow b ((splice o1.cs off (zs.map bD)).map (·.v.val E.sid)).toArray) b 0:=
     ⟨⟨_,_,T,T,q2,hh',by simp[kF],by simp⟩,setRow_size w b _,fun b' hb'=>setRow_other w b b' _ hb'⟩
    refine ⟨w.setRow b ((splice o1.cs off (zs.map bD)).map (·.v.val E.sid)).toArray,S1.set r ⟨.box t1,splice o1.cs off (zs.map bD)⟩,C1,?_,?_,?_,jf w b _ q4⟩
    ·unfold execOp;rw[ho];simp only[hva];rw[Sem.run_bind,hrun];rfl
    ·rw[fi]
     congr 1
     simp only[Sl.er,Kd.er]
     congr 1
     rw[gl,pD,e2]
    ·have hnl:(zs.map bD).length=i.size:=by rw[List.length_map];exact hn
     have hget:∀ q,(splice o1.cs off (zs.map bD))[q]?=if off≤q∧q < off+i.size then (zs.map bD)[q - off]? else o1.cs[q]?:=by
      intro q;rw[oZ hfit,hnl]
     refine e4.setBox ho1 hkb' hta htail ⟨b,T,hta,hh',q3,q4⟩ (iY ho1 ?_ (fun x=>?_) (fun q z hz hzr=>?_) (fun q z hz=>?_)) (fun z hz=>?_)
     ·simp[Sl.boxOwn,hkb']
     ·have:=fK Cell.own x (zs.map bD) o1.cs off
      rw[oe] at this;exact this
     ·show ∃ y',(splice o1.cs off (zs.map bD))[q]?=some y'∧_;rw[hget q];by_cases hq:off≤q
      ·obtain ⟨y',hy',hyr⟩:=hst' (q - off) z (by rw[List.getElem?_drop,show off+(q - off)=q by omega];exact hz) hzr
       by_cases hq2:q < off+i.size
       ·rw[if_pos ⟨hq,hq2⟩];rw[List.getElem?_append_left (by omega)] at hy'
        exact ⟨bD y',by simp[hy'],by rw[jA];exact hyr⟩
       ·rw[if_neg (by omega)]
        exact ⟨z,hz,hzr⟩
      ·rw[if_neg (by omega)]
       exact ⟨z,hz,hzr⟩
     ·have hz:(splice o1.cs off (zs.map bD))[q]?=some z:=hz;rw[hget q] at hz;split at hz
      ·simp only[List.getElem?_map,Option.map_eq_some_iff] at hz
       obtain ⟨z',hz',rfl⟩:=hz
       have:=List.mem_of_getElem? hz'
       exact .inl (nR (e3 z' this) (hmp' z' this))
      ·exact .inr hz
     ·rcases jH _ _ _ hz with hz | hz
      ·exact ⟨e4.cells r o1 ho1 z hz, .inr hz⟩
      ·obtain ⟨z',hz',rfl⟩:=List.mem_map.1 hz
       exact ⟨(e4.hand z' (List.mem_append.2 (.inl hz'))).new, .inl (nR (e3 z' hz') (hmp' z' hz')).2.2⟩
   ·exact (aM h6).elim
  ·exact (aM h6).elim
 ·exact (aM h2).elim
end
end Go.Vm
end
section
namespace Go.Vm
def bZ (x:Cell Tg):Cell Tg:=match x.f with | .cp _ _ _ _ | .ap _ _ _ | .fr | .no=>⟨x.v, .dd⟩ | _=>x
def gV (s:SA):SA:=match s.k with | .ept _ _ _=>⟨.dead,[]⟩ | _=>⟨s.k,s.cs.map bZ⟩
def dF (S:StA):StA:=S.map gV
theorem pz (x:Cell Tg):(bZ x).er=tC x.er:=by
 obtain ⟨v,f⟩:=x
 cases f<;>rfl
theorem rH (x:Cell Tg):(bZ x).v=x.v:=by
 obtain ⟨v,f⟩:=x
 cases f<;>rfl
theorem n9 (x:Cell Tg):(bZ x).own=x.own:=by
 obtain ⟨v,f⟩:=x
 cases f<;>rfl
theorem Cq (s:SA):(gV s).er=vj s.er:=by
 obtain ⟨k,cs⟩:=s
 have:(cs.map bZ).map Cell.er=(cs.map Cell.er).map tC:=by
  simp only[List.map_map];exact List.map_congr_left fun x _=>pz x
 cases k<;>simp[gV,vj,Sl.er,Kd.er,dead,this]<;>exact fun x _=>pz x
theorem tB (S:StA):erS (dF S)=lose (erS S):=by
 simp only[erS,dF,lose,List.map_map];exact List.map_congr_left fun s _=>Cq s
def xk (f:Fl):Prop:=f= .sc∨(∃ p q,f= .sp p q)∨f= .sh∨f= .nl∨aN f=true∨f= .dd
theorem uS (x:Cell Tg):xk (bZ x).f:=by
 obtain ⟨v,f⟩:=x
 cases f<;>simp[bZ,xk,aN]
section
variable {E:Env} {cx:Cx} {S:StA} {X:List (Cell Tg)} {C:Nat→Nat→Prop} {a:Act} {w w':World}
theorem dJ {i:Nat} {s':SA} (h:(dF S)[i]?=some s'):∃ s,S[i]?=some s∧s'=gV s:=by
 simp only[dF,List.getElem?_map,Option.map_eq_some_iff] at h
 obtain ⟨s,h1,h2⟩:=h
 exact ⟨s,h1,h2.symm⟩
theorem fw (s:SA):(gV s).k=s.k∧(gV s).cs=s.cs.map bZ∨(gV s).k= .dead∧(gV s).cs=[]∧∃ t src ix,s.k= .ept t src ix:=by
 obtain ⟨k,cs⟩:=s
 cases k<;>first | exact .inl ⟨rfl,rfl⟩ | exact .inr ⟨rfl,rfl,_,_,_,rfl⟩
theorem Aj (s:SA):(gV s).boxOwn=s.boxOwn:=by
 obtain ⟨k,cs⟩:=s
 cases k<;>rfl
theorem Ak (s:SA) (b:Nat):(gV s).own.count b≤s.own.count b:=by
 unfold Sl.own;rw[List.count_append,List.count_append,Aj];rcases fw s with ⟨_,h⟩ | ⟨_,h,_⟩
 ·rw[h];have:(s.cs.map bZ).flatMap Cell.own=s.cs.flatMap Cell.own:=by
   induction s.cs with
   | nil=>rfl
   | cons x xs ih=>simp only[List.map_cons,List.flatMap_cons,ih,n9]
  rw[this];omega
 ·rw[h];simp
theorem oM (S:StA) (X:List (Cell Tg)) (b:Nat):(aA (dF S) (X.map bZ)).count b≤(aA S X).count b:=by
 unfold aA;rw[List.count_append,List.count_append];have h1:((dF S).flatMap Sl.own).count b≤(S.flatMap Sl.own).count b:=by
  unfold dF;induction S with
  | nil=>simp
  | cons s S ih=>
   simp only[List.map_cons,List.flatMap_cons,List.count_append];have:=Ak s b
   omega
 have h2:(X.map bZ).flatMap Cell.own=X.flatMap Cell.own:=by
  induction X with
  | nil=>rfl
  | cons x xs ih=>simp only[List.map_cons,List.flatMap_cons,ih,n9]
 rw[h2];omega
theorem Cp (r:Nat):aL (dF S) r=aL S r:=by
 unfold aL dF;rw[List.getElem?_map]
 cases S[r]? with
 | none=>rfl
 | some s=>
  obtain ⟨k,cs⟩:=s
  cases k<;>rfl
theorem COk.lose {x:Cell Tg} (h:COk E w C S X x) (holt:∀ b j,E.old b j→C b j) {S':StA} {X':List (Cell Tg)}:COk E w E.old S' X' (bZ x):=by
 have hs:∀ {g:Bool} {v:A},Shp' E.sid w C g v→Shp' E.sid w E.old g v:=fun hs=>hs.world (fun _ _=>rfl) (fun b _ j hj=>holt b j hj)
 obtain ⟨v,f⟩:=x
 cases f with
 | ow g=>exact ⟨h.1,hs h.2.1,h.2.2⟩
 | nw g=>exact ⟨h.1,hs h.2.1,h.2.2⟩
 | mp i=>exact ⟨h.1.mono (fun b _ j hj=>holt b j hj) (fun _ _=>rfl),h.2⟩
 | cp ck s c ix=>trivial
 | ap s c ix=>trivial
 | fr=>trivial
 | no=>trivial
 | _=>exact h
theorem Inv.lose (h:Inv E S X C a w):Inv E (dF S) (X.map bZ) E.old a w:=by
 have hmem:∀ b,b∈aA (dF S) (X.map bZ)→b∈aA S X:=by
  intro b hb;have h1:=oM S X b;have h2:=List.count_pos_iff.2 hb;exact List.count_pos_iff.1 (by omega)
 refine ⟨by simp[dF,h.len],h.tsz,h.nodef,?_,?_,?_,?_,?_,?_,?_,?_,?_,?_,fun _ _=>id,fun b j hj=>h.clt b j (h.olt b j hj),fun b j hj=> .inr (.inl hj),fun b hb=>h.ownlt b (hmem b hb)⟩
 ·intro i s' hi hs';obtain ⟨s,hs,rfl⟩:=dJ hs'
  have hv:=h.slv i s hi hs;have hv':SlV E.sid (dF S) s (a.tmps.getD i undef):=hv.set (fun r=>Cp r)
  obtain ⟨k,cs⟩:=s
  have hm:(cs.map bZ).map (·.v)=cs.map (·.v):=by
   simp only[List.map_map];exact List.map_congr_left fun x _=>rH x
  have hself:Same (dF S) (dF S):=⟨rfl,fun i s' hs'=>⟨s',hs',rfl,rfl⟩⟩
  cases k with
  | ept t src ix=>trivial
  | _=>
   refine SlV.same hself (s:=⟨_,cs⟩) rfl ?_ hv'
   exact hm
 ·intro i s' hi hs';obtain ⟨s,hs,rfl⟩:=dJ hs'
  rcases fw s with ⟨hk,_⟩ | ⟨hk,_⟩
  ·rw[hk];exact h.high i s hi hs
  ·exact .inl hk
 ·intro i s' hs' hk';obtain ⟨s,hs,rfl⟩:=dJ hs'
  rcases fw s with ⟨hk,hc⟩ | ⟨_,hc,_⟩
  ·rw[hk] at hk';rw[hc,h.emp i s hs hk'];rfl
  ·exact hc
 ·intro i s' hi hs' hk';obtain ⟨s,hs,rfl⟩:=dJ hs'
  rcases fw s with ⟨hk,_⟩ | ⟨hk,_⟩
  ·rw[hk] at hk';exact h.lock i s hi hs hk'
  ·rw[hk] at hk';cases hk'
 ·intro l _ _;have key:∀ x:Cell Tg,∀ p q r,(bZ x).f≠ .ap p q r:=by
   intro x p q r e;have:=uS x
   rw[e] at this;simp[xk,aN] at this
  refine ⟨fun i s' hs' x hx=>?_,fun x hx=>?_⟩
  ·obtain ⟨s,hs,rfl⟩:=dJ hs'
   rcases fw s with ⟨_,hc⟩ | ⟨_,hc,_⟩
   ·rw[hc] at hx;obtain ⟨y,_,rfl⟩:=List.mem_map.1 hx
    exact key y
   ·rw[hc] at hx;simp at hx
  ·obtain ⟨y,_,rfl⟩:=List.mem_map.1 hx
   exact key y
 ·intro i s' t hs' hk';obtain ⟨s,hs,rfl⟩:=dJ hs'
  rcases fw s with ⟨hk,hc⟩ | ⟨hk,_⟩
  ·rw[hk] at hk';obtain ⟨b,T,h1,h2,h3,h4⟩:=h.box i s t hs hk'
   refine ⟨b,T,h1,?_,fun j hj=>h3 j (h.olt b j hj),h4⟩
   rw[hc,List.map_map];rw[List.map_congr_left (g:=fun x=>x.v.val E.sid) (fun x _=>by simp[rH])]
   exact h2
  ·rw[hk] at hk';cases hk'
 ·intro i s' t src ix hs' hk';obtain ⟨s,hs,rfl⟩:=dJ hs'
  rcases fw s with ⟨hk,hc⟩ | ⟨hk,_⟩
  ·exfalso
   obtain ⟨k,cs⟩:=s
   rw[hk] at hk';simp only at hk';subst hk';simp[gV] at hk
  ·rw[hk] at hk';cases hk'
 ·intro i s' hs' x hx;obtain ⟨s,hs,rfl⟩:=dJ hs'
  rcases fw s with ⟨_,hc⟩ | ⟨_,hc,_⟩
  ·rw[hc] at hx;obtain ⟨y,hy,rfl⟩:=List.mem_map.1 hx
   exact (h.cells i s hs y hy).lose h.olt
  ·rw[hc] at hx;simp at hx
 ·intro x hx;obtain ⟨y,hy,rfl⟩:=List.mem_map.1 hx
  exact (h.hand y hy).lose h.olt
 ·exact fun b=>Nat.le_trans (oM S X b) (h.cnt b)
structure Remade (E:Env) (S S':StA):Prop where
 len:S'.length=S.length
 slot:∀ (i:Nat) (s':SA),S'[i]?=some s'→∃ s:SA,S[i]?=some s∧s'.k=s.k∧s'.cs.map (·.v.val E.sid)=s.cs.map (·.v.val E.sid)∧∀ x∈s'.cs,aN x.f=true∨x∈s.cs
 noept:∀ (i:Nat) (s:SA),S[i]?=some s→∀ t src ix,s.k≠ .ept t src ix
 calm:∀ (i:Nat) (s:SA),S[i]?=some s→∀ x∈s.cs,xk x.f
theorem Remade.box {S S':StA} (h:Remade E S S') (r:Nat):aL S' r=aL S r:=by
 unfold aL;cases h':S'[r]? with
 | none=>
  have:S[r]?=none:=by rw[List.getElem?_eq_none_iff] at h' ⊢;rw[←h.len];exact h'
  rw[this]
 | some s'=>
  obtain ⟨s,hs,hk,_⟩:=h.slot r s' h'
  rw[hs];obtain ⟨k,cs⟩:=s
  obtain ⟨k',cs'⟩:=s'
  simp only at hk;subst hk;cases k'<;>rfl
theorem SlV.vals {sid:Nat→Nat} {S:StA} {s s':SA} {v:Value} (hk:s'.k=s.k) (hv:s'.cs.map (·.v.val sid)=s.cs.map (·.v.val sid)) (hs:SlV sid S s v):SlV sid S s' v:=by
 obtain ⟨k,cs⟩:=s
 obtain ⟨k',cs'⟩:=s'
 simp only at hk hv;subst hk;cases k' with
 | val=>
  obtain ⟨c,h1,h2⟩:=hs
  obtain ⟨c',e1,e2⟩:=fA hv h1
  exact ⟨c',e1,by rw[h2];exact e2.symm⟩
 | agg=>simp only[SlV] at hs ⊢;rw[hv];exact hs
 | tup sh=>simp only[SlV] at hs ⊢;rw[hv];exact hs
 | _=>exact hs
theorem Inv.remake (h:Inv E S X E.old a w) {S':StA} (hm:Remade E S S') (hown:∀ (i:Nat) (s:SA),S'[i]?=some s→∀ x∈s.cs,aN x.f=true→COk E w' E.old S' [] x)
  (hcnt:∀ b,(aA S' []).count b≤1) (hlt:∀ b∈aA S' [],b < w'.heap.size∧∀ j,¬E.old b j)
  (hbox:∀ s∈S,∀ b∈s.boxOwn,w'.heap[b]?=w.heap[b]?) (hold:∀ b j,E.old b j→w'.heap[b]?=w.heap[b]?) (hsz:w.heap.size≤w'.heap.size):Inv E S' [] E.old a w':=by
 refine ⟨by rw[hm.len,h.len],h.tsz,h.nodef,?_,?_,?_,?_,?_,?_,?_,?_,?_,hcnt,h.olt,fun b j hj=>Nat.lt_of_lt_of_le (h.clt b j hj) hsz,h.cbase,hlt⟩
 ·intro i s' hi hs';obtain ⟨s,hs,hk,hv,_⟩:=hm.slot i s' hs'
  exact ((h.slv i s hi hs).set (fun r=>hm.box r)).vals hk hv
 ·intro i s' hi hs';obtain ⟨s,hs,hk,_⟩:=hm.slot i s' hs'
  rw[hk];exact h.high i s hi hs
 ·intro i s' hs' hk';obtain ⟨s,hs,hk,hv,_⟩:=hm.slot i s' hs'
  have:=h.emp i s hs (by rw[←hk];exact hk')
  rw[this] at hv
  simpa using hv
 ·intro i s' hi hs' hk';obtain ⟨s,hs,hk,_⟩:=hm.slot i s' hs'
  exact h.lock i s hi hs (hk▸hk')
 ·intro l hl hk';obtain ⟨l0,hl0,hk,_⟩:=hm.slot _ l hl
  refine ⟨fun i s' hs' x hx=>?_,by simp⟩
  obtain ⟨s,hs,_,_,hx'⟩:=hm.slot i s' hs'
  intro p q r e;rcases hx' x hx with ho | hmem
  ·rw[e] at ho;simp[aN] at ho
  ·have:=hm.calm i s hs x hmem
   rw[e] at this;simp[xk,aN] at this
 ·intro i s' t hs' hk';obtain ⟨s,hs,hk,hv,_⟩:=hm.slot i s' hs'
  obtain ⟨b,T,h1,h2,h3,h4⟩:=h.box i s t hs (hk▸hk')
  refine ⟨b,T,h1,?_,h3,h4⟩
  rw[hv,hbox s (List.mem_of_getElem? hs) b (by simp[Sl.boxOwn,hk▸hk',h1])]
  exact h2
 ·intro i s' t src ix hs' hk';obtain ⟨s,hs,hk,_⟩:=hm.slot i s' hs'
  exact absurd (hk▸hk') (hm.noept i s hs t src ix)
 ·intro i s' hs' x hx;obtain ⟨s,hs,_,_,hx'⟩:=hm.slot i s' hs'
  by_cases ho:aN x.f=true
  ·exact hown i s' hs' x hx ho
  ·have hmem:=(hx' x hx).resolve_left ho;have hc:=hm.calm i s hs x hmem;have hk:=h.cells i s hs x hmem;have hro:∀ {v:A},Rd E.sid w E.old v→Rd E.sid w' E.old v:=fun hr=>hr.mono (fun _ _=>id) (fun b j hj=>gS (hold b j hj))
   obtain ⟨v,f⟩:=x
   rcases hc with hc | ⟨p,q,hc⟩ | hc | hc | hc | hc
   ·simp only at hc;subst hc;exact hk
   ·simp only at hc;subst hc;exact ⟨hk.1,hro hk.2.1,hk.2.2⟩
   ·simp only at hc;subst hc;exact hro hk
   ·simp only at hc;subst hc;exact hk
   ·exact absurd hc ho
   ·simp only at hc;subst hc;trivial
 ·simp
end
end Go.Vm
end
section
namespace Go.Vm
theorem pT {α:Type}:∀ {es:List (List α)} {ix i j:Nat},fm ix es=some (i,j)→∃ e,es[i]?=some e∧j < e.length∧ix < es.flatten.length∧∀ v,(es.set i (e.set j v)).flatten=es.flatten.set ix v
 | [],ix,i,j,h=>by simp[fm] at h
 | e::es,ix,i,j,h=>by
  simp only[fm] at h;split at h
  ·rename_i hlt;simp only[Option.some.injEq,Prod.mk.injEq] at h;obtain ⟨rfl,rfl⟩:=h
   refine ⟨e,rfl,hlt,by simp;omega,fun v=>?_⟩
   simp only[List.set_cons_zero,List.flatten_cons];rw[List.set_append_left _ _ hlt]
  ·rename_i hge;rw[Option.map_eq_some_iff] at h;obtain ⟨p,hp,he⟩:=h
   obtain ⟨i',j'⟩:=p
   simp only[Prod.mk.injEq] at he;obtain ⟨rfl,rfl⟩:=he
   obtain ⟨e',h1,h2,h3,h4⟩:=pT hp
   refine ⟨e',by simpa using h1,h2,by rw[List.flatten_cons,List.length_append];omega,fun v=>?_⟩
   simp only[List.set_cons_succ,List.flatten_cons,h4 v];rw[List.set_append_right _ _ (by omega)]
theorem nu {α β:Type}:∀ {es:List (List α)} {fs:List (List β)},es.map List.length=fs.map List.length→∀ ix,fm ix es=fm ix fs
 | [],[],_,_=>rfl
 | [],f::fs,h,_=>by simp at h
 | e::es,[],h,_=>by simp at h
 | e::es,f::fs,h,ix=>by
  simp only[List.map_cons,List.cons.injEq] at h;simp only[fm,h.1,nu h.2]
theorem cW {α:Type}:∀ {vs:List α} {es es':List (List α)} {ix:Nat},bh es ix vs=some es'→es'.flatten=splice es.flatten ix vs∧es'.map List.length=es.map List.length∧(vs≠[]→ix+vs.length≤es.flatten.length)
 | [],es,es',ix,h=>by
  simp only[bh,Option.some.injEq] at h;subst h;exact ⟨rfl,rfl,by simp⟩
 | v::vs,es,es',ix,h=>by
  simp only[bh] at h;split at h
  ·rename_i i j hs;obtain ⟨e,h1,h2,h3,h4⟩:=pT hs
   rw[h1] at h;obtain ⟨k1,k2,k3⟩:=cW h
   rw[h4] at k1 k3;refine ⟨k1,?_,fun _=>?_⟩
   ·rw[k2,List.map_set];apply List.ext_getElem?;intro q;rw[List.getElem?_set]
    split
    ·rename_i hq;subst hq;obtain ⟨hl,he⟩:=List.getElem?_eq_some_iff.1 h1
     simp[hl,he]
    ·rfl
   ·simp only[List.length_cons];by_cases hvs:vs=[]
    ·subst hvs;simp only[List.length_nil];omega
    ·have:=k3 hvs
     rw[List.length_set] at this;omega
  ·cases h
theorem oV:∀ {vs:List A} {es:List (List A)} {ix:Nat} {r:List (List V)},bh (erR es) ix (vs.map VA.er)=some r→∃ es',bh es ix vs=some es'∧erR es'=r
 | [],es,ix,r,h=>by
  simp only[List.map_nil,bh,Option.some.injEq] at h;exact ⟨es,rfl,h⟩
 | v::vs,es,ix,r,h=>by
  have hlen:(erR es).map List.length=es.map List.length:=by
   rw[ce,List.map_map];exact List.map_congr_left fun e _=>by simp
  simp only[List.map_cons,bh,nu hlen] at h;simp only[bh];split at h
  ·rename_i i j hs;split at h
   ·rename_i e he;rw[ce,List.getElem?_map,Option.map_eq_some_iff] at he
    obtain ⟨e',he',rfl⟩:=he
    simp only[he'];refine oV ?_
    rw[←h]
    congr 1
    rw[ce,ce,List.map_set,List.map_set]
   ·cases h
  ·cases h
theorem zd {α:Type} {xs cs:List α} {off n:Nat} (h:off+xs.length≤n) (hn:n≤cs.length):(splice cs off xs).take n=splice (cs.take n) off xs:=by
 apply List.ext_getElem?;intro q;rw[List.getElem?_take,oZ (by omega),oZ (by rw[List.length_take];omega),List.getElem?_take]
 by_cases hq:q < n
 ·simp only[hq,if_true]
 ·simp only[hq,if_false];rw[if_neg (by omega)]
def du (S:StA) (s c:Nat) (v:A):StA:=
 match S[s]? with
 | some sl=>match sl.cs[c]? with
  | some x=>S.set s ⟨sl.k,sl.cs.set c ⟨v,x.f⟩⟩
  | none=>S
 | none=>S
theorem oW (S:StA) (s c:Nat) (v:A):erS (du S s c v)=setRow (erS S) s c v.er:=by
 unfold du setRow;rw[nK];cases S[s]? with
 | none=>rfl
 | some sl=>
  simp only[Option.map_some,aP,List.getElem?_map]
  cases sl.cs[c]? with
  | none=>rfl
  | some x=>
   simp only[Option.map_some];rw[fi]
   congr 1
   simp[Sl.er,List.map_set,Cell.er]
section
variable {E:Env} {cx:Cx} {S:StA} {X:List (Cell Tg)} {C:Nat→Nat→Prop} {a:Act} {w w':World}
theorem Kt (h:Inv E S X E.old a w) (hne:∀ (i:Nat) (s:SA),S[i]?=some s→∀ t src ix,s.k≠ .ept t src ix) (hcalm:∀ (i:Nat) (s:SA),S[i]?=some s→∀ x∈s.cs,xk x.f)
  {s c:Nat} {y:Cell Tg} (hy:aD S s c=some y) (hyf:y.f= .ow false∨∃ i,y.f= .mp i) {b0 cap k:Nat} {es es':List (List A)} (hyv:y.v= .row ⟨some ⟨b0,0,none⟩,cap,k⟩ es) {ix:Nat} {vs:List A} (hset:bh es ix vs=some es') (hvs:vs≠[])
  (hel:∀ v∈vs,Shp E.sid w E.old v∧∀ b∈v.blks,E.base≤b) {extra:List Nat} (hle:∀ b,(es'.flatten.flatMap VA.blks).count b≤(es.flatten.flatMap VA.blks).count b+extra.count b)
  (hcnt:∀ b,(aA S []).count b+extra.count b≤1) (hlt:∀ b∈extra,b < w.heap.size∧∀ j,¬E.old b j):
  ∃ cur T,w.heap[b0]?=some (.cells cur T (0,0))∧ix+vs.length≤cur.size∧
   Inv E (du S s c (.row ⟨some ⟨b0,0,none⟩,cap,k⟩ es')) [] E.old a (w.setRow b0 (splice cur.toList ix (vs.map (VA.val E.sid))).toArray)∧(E.base≤b0∨E.chg b0):=by
 obtain ⟨sl,hs,hc⟩:=aE hy
 have hsS:=(List.getElem?_eq_some_iff.1 hs).1
 have hcs:=(List.getElem?_eq_some_iff.1 hc).1
 have hym:y∈aF S X:=aX hs (List.mem_of_getElem? hc);have hyo:aN y.f=true:=by rcases hyf with hf | ⟨i,hf⟩<;>rw[hf]<;>rfl
 have hyk:=h.ok y hym;have hshp:Shp E.sid w E.old y.v:=by
  obtain ⟨v,f⟩:=y
  rcases hyf with hf | ⟨i,hf⟩
  ·simp only at hf;subst hf;have:=hyk.2.1
   simpa [Shp'] using this
  ·simp only at hf;subst hf;exact hyk.1
 have hybase:=hyk.own_base hyo;rw[hyv] at hshp hybase;have hb0m:b0∈(VA.row ⟨some ⟨b0,0,none⟩,cap,k⟩ es:A).blks:=by simp[VA.blks]
 obtain ⟨k1,k2,k3⟩:=cW hset
 have k3:=k3 hvs;have hlen:es'.length=es.length:=by
  have:=congrArg List.length k2
  simpa using this
 have hblks:∀ fs:List (List A),(VA.row ⟨some ⟨b0,0,none⟩,cap,k⟩ fs:A).blks=b0::fs.flatten.flatMap VA.blks:=by
  intro fs;simp only[VA.blks,cG];rfl
 cases hshp with
 | row _ _ _ _ cur T hheap hcap hmax hsize hk hk0 hnil htake hfree hr=>
  have hfl:es.flatten.length=es.length * k:=aR hk;have hfit:ix+vs.length≤cur.size:=by
   rw[hsize];refine Nat.le_trans k3 ?_
   rw[hfl];exact Nat.mul_le_mul_right _ hcap
  refine ⟨cur,T,hheap,hfit,?_,hybase b0 hb0m⟩
  have hfitl:ix+(vs.map (VA.val E.sid)).length≤cur.toList.length:=by simpa using hfit
  have hh':=setRow_heap w b0 cur (splice cur.toList ix (vs.map (VA.val E.sid))).toArray T (0,0) hheap;have hother:=fun b (hb:b≠b0)=>setRow_other w b0 b (splice cur.toList ix (vs.map (VA.val E.sid))).toArray hb
  have hsize':(splice cur.toList ix (vs.map (VA.val E.sid))).toArray.size=cap * k:=by simp[kF,hsize]
  have htake':(splice cur.toList ix (vs.map (VA.val E.sid))).toArray.toList.take (es'.length * k)=es'.flatten.map (VA.val E.sid):=by
   have hle2:es.length * k≤cur.toList.length:=by
    have:cur.toList.length=cur.size:=Array.length_toList
    rw[this,hsize];exact Nat.mul_le_mul_right _ hcap
   rw[hlen];show (splice cur.toList ix (vs.map (VA.val E.sid))).take (es.length * k)=_;rw[zd (by rw[List.length_map,←hfl];exact k3) hle2,htake,k1,gl]
  generalize (splice cur.toList ix (vs.map (VA.val E.sid))).toArray=cur' at hh' hother hsize' htake'
  have hSeq:du S s c (.row ⟨some ⟨b0,0,none⟩,cap,k⟩ es')=S.set s ⟨sl.k,sl.cs.set c ⟨.row ⟨some ⟨b0,0,none⟩,cap,k⟩ es',y.f⟩⟩:=by
   simp[du,hs,hc]
  rw[hSeq];have hown':∀ x,(aA (S.set s ⟨sl.k,sl.cs.set c ⟨.row ⟨some ⟨b0,0,none⟩,cap,k⟩ es',y.f⟩⟩) []).count x≤(aA S []).count x+extra.count x:=by
   intro x;have h1:=bk Sl.own x S s sl ⟨sl.k,sl.cs.set c ⟨.row ⟨some ⟨b0,0,none⟩,cap,k⟩ es',y.f⟩⟩ hs;have h2:=bk Cell.own x sl.cs c y ⟨.row ⟨some ⟨b0,0,none⟩,cap,k⟩ es',y.f⟩ hc;have h3:(Sl.own ⟨sl.k,sl.cs.set c ⟨.row ⟨some ⟨b0,0,none⟩,cap,k⟩ es',y.f⟩⟩).count x+(Cell.own y).count x=sl.own.count x+(Cell.own ⟨.row ⟨some ⟨b0,0,none⟩,cap,k⟩ es',y.f⟩).count x:=by
    unfold Sl.own;rw[List.count_append,List.count_append];have:Sl.boxOwn ⟨sl.k,sl.cs.set c ⟨.row ⟨some ⟨b0,0,none⟩,cap,k⟩ es',y.f⟩⟩=sl.boxOwn:=rfl
    rw[this];simp only;omega
   have h4:(Cell.own y).count x=(b0::es.flatten.flatMap VA.blks).count x:=by
    have:Cell.own y=y.v.blks:=by simp[Cell.own,hyo]
    rw[this,hyv,hblks]
   have h5:(Cell.own ⟨.row ⟨some ⟨b0,0,none⟩,cap,k⟩ es',y.f⟩).count x=(b0::es'.flatten.flatMap VA.blks).count x:=by
    have:Cell.own ⟨.row ⟨some ⟨b0,0,none⟩,cap,k⟩ es',y.f⟩=(VA.row ⟨some ⟨b0,0,none⟩,cap,k⟩ es':A).blks:=by simp[Cell.own,hyo]
    rw[this,hblks]
   have h6:=hle x;simp only[List.count_cons] at h4 h5;simp only[aA,List.flatMap_nil,List.append_nil] at h1 ⊢;omega
  have hcnt':∀ x,(aA (S.set s ⟨sl.k,sl.cs.set c ⟨.row ⟨some ⟨b0,0,none⟩,cap,k⟩ es',y.f⟩⟩) []).count x≤1:=fun x=>Nat.le_trans (hown' x) (hcnt x)
  have hnewat:(S.set s ⟨sl.k,sl.cs.set c ⟨.row ⟨some ⟨b0,0,none⟩,cap,k⟩ es',y.f⟩⟩)[s]?=some ⟨sl.k,sl.cs.set c ⟨.row ⟨some ⟨b0,0,none⟩,cap,k⟩ es',y.f⟩⟩:=List.getElem?_set_self hsS
  have hnewm:(⟨.row ⟨some ⟨b0,0,none⟩,cap,k⟩ es',y.f⟩:Cell Tg)∈aF (S.set s ⟨sl.k,sl.cs.set c ⟨.row ⟨some ⟨b0,0,none⟩,cap,k⟩ es',y.f⟩⟩) []:=
   aX hnewat (List.mem_of_getElem? (List.getElem?_set_self hcs))
  have hnod:((aF (S.set s ⟨sl.k,sl.cs.set c ⟨.row ⟨some ⟨b0,0,none⟩,cap,k⟩ es',y.f⟩⟩) []).flatMap Cell.own).Nodup:=
   mY fun x=>by have:=hcnt' x;rw[cI] at this;omega
  have hnewnd:(VA.row ⟨some ⟨b0,0,none⟩,cap,k⟩ es':A).blks.Nodup:=by
   have:=jC hnod _ hnewm
   simpa [Cell.own,hyo] using this
  rw[hblks,List.nodup_cons] at hnewnd;have hb0not:∀ u∈es'.flatten,b0∉u.blks:=fun u hu hb=>hnewnd.1 (List.mem_flatMap.2 ⟨u,hu,hb⟩)
  have hmem':∀ u∈es'.flatten,u∈es.flatten∨u∈vs:=by
   intro u hu;rw[k1] at hu;exact jH _ _ _ hu
  have helw:∀ u∈es'.flatten,Shp E.sid (w.setRow b0 cur') E.old u:=by
   intro u hu;have hw:∀ b∈u.blks,(w.setRow b0 cur').heap[b]?=w.heap[b]?:=fun b hb=>hother b (fun e=>hb0not u hu (e▸hb))
   rcases hmem' u hu with hu' | hu'
   ·exact (hr u hu').mono (fun _ _ _=>id) hw
   ·exact (hel u hu').1.mono (fun _ _ _=>id) hw
  have hkk:∀ e∈es',e.length=k:=by
   intro e he;have:e.length∈es'.map List.length:=List.mem_map_of_mem he
   rw[k2] at this;obtain ⟨e2,he2,heq⟩:=List.mem_map.1 this
   rw[←heq];exact hk e2 he2
  have hshp':Shp E.sid (w.setRow b0 cur') E.old (.row ⟨some ⟨b0,0,none⟩,cap,k⟩ es'):=
   .row b0 cap k es' cur' T hh' (by rw[hlen];exact hcap) hmax hsize' hkk hk0 (fun he=>hnil (List.eq_nil_of_length_eq_zero (by rw[←hlen,he];rfl))) htake' (fun j hj=>hfree j (by rw[←hlen];exact hj)) helw
  have hbase':∀ b∈(VA.row ⟨some ⟨b0,0,none⟩,cap,k⟩ es':A).blks,b∈(VA.row ⟨some ⟨b0,0,none⟩,cap,k⟩ es:A).blks∨E.base≤b:=by
   intro b hb;rw[hblks] at hb;rcases List.mem_cons.1 hb with rfl | hb
   ·exact .inl hb0m
   ·obtain ⟨u,hu,hbu⟩:=List.mem_flatMap.1 hb
    rcases hmem' u hu with hu' | hu'
    ·exact .inl (dD hu' hbu)
    ·exact .inr ((hel u hu').2 b hbu)
  have hb0in:b0∈aA S X:=by
   rw[←List.count_pos_iff,cI];have:=List.count_pos_iff.2 (List.mem_flatMap.2 ⟨y,hym,dh hyo (by rw[hyv];exact hb0m)⟩)
   omega
  refine h.remake ⟨by simp,?_,hne,hcalm⟩ ?_ hcnt' ?_ ?_ ?_ (by rw[setRow_size];exact Nat.le_refl _)
  ·intro i s' hs';rw[List.getElem?_set] at hs'
   split at hs'
   ·rename_i e;subst e;simp only[Option.some.injEq] at hs';subst hs';refine ⟨sl,hs,rfl,?_,fun x hx=>?_⟩
    ·simp only[List.map_set];apply List.ext_getElem?;intro q;rw[List.getElem?_set]
     split
     ·rename_i hq;subst hq;simp only[List.length_map,hcs,if_true,List.getElem?_map,hc,Option.map_some]
      rw[hyv];simp[VA.val,hlen]
     ·rfl
    ·rcases List.mem_or_eq_of_mem_set hx with hx | rfl
     ·exact .inr hx
     ·exact .inl hyo
   ·exact ⟨s',hs',rfl,rfl,fun x hx=> .inr hx⟩
  ·intro i s' hs' x hx hox;have hxm:x∈aF (S.set s ⟨sl.k,sl.cs.set c ⟨.row ⟨some ⟨b0,0,none⟩,cap,k⟩ es',y.f⟩⟩) []:=aX hs' hx;by_cases hb:b0∈x.v.blks
   ·obtain rfl:=lO hnod x hxm _ hnewm b0 (dh hox hb) (dh (x:=⟨.row ⟨some ⟨b0,0,none⟩,cap,k⟩ es',y.f⟩) hyo (by rw[hblks];exact List.mem_cons_self ..))
    rcases hyf with hf | ⟨i,hf⟩
    ·rw[hf];refine ⟨rfl,by simpa [Shp'] using hshp',fun b hb1=>?_⟩
     rcases hbase' b hb1 with hb2 | hb2
     ·obtain ⟨v,f⟩:=y
      simp only at hf hyv;subst hf;subst hyv;exact hyk.2.2 b hb2
     ·exact hb2
    ·rw[hf];obtain ⟨v,f⟩:=y
     simp only at hf hyv;subst hf;subst hyv;obtain ⟨_,⟨t1,es1,e1,e2⟩,e3⟩:=hyk
     have e1:(VA.row ⟨some ⟨b0,0,none⟩,cap,k⟩ es:A)= .row t1 es1:=e1;simp only[VA.row.injEq] at e1;obtain ⟨rfl,rfl⟩:=e1
     refine ⟨hshp',⟨_,_,rfl,by rw[hlen];exact e2⟩,fun b hb1=>?_⟩
     rcases hbase' b hb1 with hb2 | hb2
     ·exact e3 b hb2
     ·exact .inl hb2
   ·have hxS:x∈aF S X:=by
     rw[List.getElem?_set] at hs'
     split at hs'
     ·rename_i e;subst e;simp only[Option.some.injEq] at hs';subst hs';rcases List.mem_or_eq_of_mem_set hx with hx | rfl
      ·exact aX hs hx
      ·exact absurd (by rw[hblks];exact List.mem_cons_self ..) hb
     ·exact aX hs' hx
    have hk:=h.ok x hxS;have hw:∀ b∈x.v.blks,(w.setRow b0 cur').heap[b]?=w.heap[b]?:=fun b hb'=>hother b (fun e=>hb (e▸hb'))
    obtain ⟨v,f⟩:=x
    cases f with
    | ow g=>exact ⟨hk.1,hk.2.1.world hw (fun _ _ _=>id),hk.2.2⟩
    | nw g=>exact ⟨hk.1,hk.2.1.world hw (fun _ _ _=>id),hk.2.2⟩
    | mp i=>exact ⟨hk.1.mono (fun _ _ _=>id) hw,hk.2⟩
    | _=>simp[aN] at hox
  ·intro b hb;rw[setRow_size];have h1:=List.count_pos_iff.2 hb;have h2:=hown' b;by_cases hbe:b∈extra
   ·exact hlt b hbe
   ·have:=List.count_eq_zero.2 hbe
    have h3:b∈aA S []:=List.count_pos_iff.1 (by omega)
    refine h.ownlt b ?_
    simp only[aA,List.flatMap_nil,List.append_nil] at h3;exact List.mem_append.2 (.inl h3)
  ·intro s' hs' b hb;refine hother b (fun e=>?_)
   subst e;obtain ⟨i,hi⟩:=List.mem_iff_getElem?.1 hs'
   exact h.boxApart hi hb hym (dh hyo (by rw[hyv];exact hb0m))
  ·intro b j hj;refine hother b (fun e=>?_)
   subst e;exact (h.ownlt b hb0in).2 j hj
end
end Go.Vm
end
section
namespace Go.Vm
section
variable {E:Env} {cx:Cx} {S:StA} {X:List (Cell Tg)} {C:Nat→Nat→Prop} {a:Act} {w w':World}
theorem AC {s c:Nat} {es:List (List V)} {f:Fl} (h:nq (lose (erS S)) s c=some (es,f)):
  ∃ y,aD S s c=some y∧aD (dF S) s c=some y∧(y.f= .ow false∨∃ i,y.f= .mp i)∧y.f=f∧y.v.er= .row () es:=by
 rw[←tB] at h;unfold nq at h;rw[nK] at h;cases hs:(dF S)[s]? with
 | none=>rw[hs] at h;cases h
 | some sl=>
  rw[hs] at h;simp only[Option.map_some,aP,List.getElem?_map] at h
  obtain ⟨s0,hs0,rfl⟩:=dJ hs
  cases hc:(gV s0).cs[c]? with
  | none=>rw[hc] at h;cases h
  | some y=>
   rw[hc] at h;simp only[Option.map_some] at h;have hy:(y.f= .ow false∨∃ i,y.f= .mp i)∧y.f=f∧y.v.er= .row () es:=by
    obtain ⟨v,fy⟩:=y
    simp only[Cell.er] at h ⊢;split at h
    ·rename_i u es1 heq;simp only[Option.some.injEq,Cell.mk.injEq] at heq;simp only[Option.some.injEq,Prod.mk.injEq] at h;obtain ⟨h1,h2⟩:=heq
     obtain ⟨rfl,rfl⟩:=h
     exact ⟨.inl h2,h2,h1⟩
    ·rename_i u es1 i heq;simp only[Option.some.injEq,Cell.mk.injEq] at heq;simp only[Option.some.injEq,Prod.mk.injEq] at h;obtain ⟨h1,h2⟩:=heq
     obtain ⟨rfl,rfl⟩:=h
     exact ⟨.inr ⟨i,h2⟩,h2,h1⟩
    ·cases h
   refine ⟨y,?_,bN hs hc,hy.1,hy.2⟩
   rcases fw s0 with ⟨_,hcs⟩ | ⟨_,hcs,_⟩
   ·rw[hcs,List.getElem?_map,Option.map_eq_some_iff] at hc
    obtain ⟨y1,hy1,he⟩:=hc
    have:y1=y:=by
     obtain ⟨v1,f1⟩:=y1
     subst he;rcases hy.1 with hf | ⟨i,hf⟩<;>cases f1<;>simp[bZ] at hf ⊢
    rw[←this];exact bN hs0 hy1
   ·rw[hcs] at hc;simp at hc
theorem vk:(∀ (i:Nat) (s:SA),(dF S)[i]?=some s→∀ t src ix,s.k≠ .ept t src ix)∧∀ (i:Nat) (s:SA),(dF S)[i]?=some s→∀ x∈s.cs,xk x.f:=by
 refine ⟨fun i s hs t src ix e=>?_,fun i s hs x hx=>?_⟩
 ·obtain ⟨s0,hs0,rfl⟩:=dJ hs
  obtain ⟨k,cs⟩:=s0
  cases k<;>simp[gV] at e
 ·obtain ⟨s0,hs0,rfl⟩:=dJ hs
  rcases fw s0 with ⟨_,hc⟩ | ⟨_,hc,_⟩
  ·rw[hc] at hx;obtain ⟨y,_,rfl⟩:=List.mem_map.1 hx
   exact uS y
  ·rw[hc] at hx;simp at hx
theorem ub (h:Inv E S X C a w) {s c ix:Nat} {es es':List (List V)} {f:Fl} (hrow:nq (lose (erS S)) s c=some (es,f)) {vs:List A} (hset:bh es ix (vs.map VA.er)=some es') (hvs:vs≠[])
  {te:Tg} {cs0:List (Cell Tg)} (hep:EptOk E w C S te (some (s,c)) ix cs0) {b o:Nat} (hte:te.a=some ⟨b,o,none⟩)
  (hcond:∀ y t esA esA',aD S s c=some y→y.v= .row t esA→bh esA ix vs=some esA'→∃ extra:List Nat,(∀ b,(esA'.flatten.flatMap VA.blks).count b≤(esA.flatten.flatMap VA.blks).count b+extra.count b)∧
   (∀ b,(aA (dF S) []).count b+extra.count b≤1)∧∀ b∈extra,b < w.heap.size∧∀ j,¬E.old b j)
  (hel:∀ v∈vs,Shp E.sid w E.old v∧∀ b∈v.blks,E.base≤b)
  {op:Oper} {t:TypeId} {i:TypeInfo} {oa ox:Operand} (ho:op.op= .store t oa ox) (hi:E.P.info? t=some i) (hva:a.eval oa= .pointer (some ⟨b,o,none⟩)) (hvx:(a.eval ox).cells=(vs.map (VA.val E.sid)).toArray) (hn:vs.length=i.size):
  ∃ w' S1 C1,(execOp a.eval op).run E.P w= .ok .skip w'∧erS S1=setRow (lose (erS S)) s c (.row () es')∧Inv E S1 [] C1 a w'∧Frame E w w':=by
 obtain ⟨y,hy,hy',hyf,_,hyv⟩:=AC hrow
 obtain ⟨b',o',h1,h2,_,h4⟩:=hep
 rw[hte] at h1;simp only[Option.some.injEq,Addr.mk.injEq,and_true] at h1;obtain ⟨rfl,rfl⟩:=h1
 have hyff:(∃ g,y.f= .ow g)∨∃ i,y.f= .mp i:=hyf.imp (fun h=>⟨false,h⟩) id
 obtain ⟨ty,esA,e1,e2,e3,_⟩:=h4 y hy hyff
 have hes:erR esA=es:=by
  rw[e1] at hyv;simp only[VA.er,VA.row.injEq,true_and] at hyv;exact hyv
 rw[←hes] at hset;obtain ⟨esA',hsetA,rfl⟩:=oV hset
 obtain ⟨extra,q1,q2,q3⟩:=hcond y ty esA esA' hy e1 hsetA
 obtain ⟨sl,hs,hc⟩:=aE hy
 have hyk:=h.ok y (aX hs (List.mem_of_getElem? hc));have hshp:Shp E.sid w C y.v:=by
  obtain ⟨v,f⟩:=y
  rcases hyf with hf | ⟨i,hf⟩
  ·simp only at hf;subst hf;have:=hyk.2.1
   simpa [Shp'] using this
  ·simp only at hf;subst hf;exact hyk.1
 rw[e1] at hshp;cases hshp with
 | nil=>simp at e2
 | row b0 cap k _ cur0 T0 hb0=>
  simp only[Option.some.injEq,Addr.mk.injEq,and_true] at e2;obtain ⟨rfl,e2⟩:=e2
  have hoix:o=ix:=by omega
  subst hoix;obtain ⟨p1,p2⟩:=vk (S:=S)
  obtain ⟨cur,T,r1,r2,r3,r4⟩:=Kt h.lose p1 p2 hy' hyf e1 hsetA hvs hel q1 q2 q3
  have hrun:=rV (P:=E.P) (w:=w) hi (v:=a.eval ox) hvx (by simpa using hn) (by
   intro u hu;obtain ⟨z,_,rfl⟩:=List.mem_map.1 hu
   exact ng _) r1 (by simpa using r2)
  refine ⟨_,_,_,?_,?_,r3,jf w b0 _ r4⟩
  ·unfold execOp;rw[ho];simp only[hva];rw[Sem.run_bind,hrun];rfl
  ·rw[oW,tB];rfl
theorem dj {α:Type} {p:FM α} {st:St} {k:α→St→Option St} {r:St} (h:gw p st k=some r):∃ x st1,p.run st=some (x,st1)∧k x st1=some r:=by
 unfold gw at h;cases hp:p.run st with
 | none=>rw[hp] at h;cases h
 | some y=>
  rw[hp] at h;exact ⟨y.1,y.2,rfl,h⟩
theorem yM (hf:Fits E cx) (h:Inv E S [] C a w) {op:Oper} {t:TypeId} {i:TypeInfo} {oa ox:Operand} {x y:Opd} (ho:op.op= .store t oa ox) (hi:E.P.info? t=some i) (hx:bj cx oa=some x) (hy:bj cx ox=some y)
  {st1:St} (hr:xi i.size x y (erS S)=some st1):
  ∃ w' S1 C1,(execOp a.eval op).run E.P w= .ok .skip w'∧erS S1=st1∧Inv E S1 [] C1 a w'∧Frame E w w':=by
 unfold xi at hr;obtain ⟨sl,st2,h1,h2⟩:=dj hr
 clear hr;obtain ⟨rfl,s0,rfl,hop⟩:=da hf h hx h1
 split at h2
 ·rename_i tu s c ix hk;have hk':∃ te,s0.k= .ept te (some (s,c)) ix:=by
   rw[bg] at hk;cases hk':s0.k<;>rw[hk'] at hk<;>simp[Kd.er] at hk ⊢
   obtain ⟨rfl,rfl⟩:=hk
   exact ⟨rfl,rfl⟩
  obtain ⟨te,hk'⟩:=hk'
  have hslot:∃ j:Nat,S[j]?=some s0∧∃ b o,te.a=some ⟨b,o,none⟩∧a.eval oa= .pointer (some ⟨b,o,none⟩):=by
   cases hop with
   | slot j s0 hj hs hv=>
    unfold SlV at hv;rw[hk'] at hv;exact ⟨j,hs,hv⟩
   | const agg vs s0 hk he hok hv h1'=>cases agg<;>rw[hk'] at hk<;>simp at hk
   | fn g hv=>simp at hk'
  obtain ⟨j,hj,b,o,hte,hva⟩:=hslot
  obtain ⟨cs,st3,h3,h4⟩:=dj h2
  clear h2;split at h4
  ·rename_i hh;obtain ⟨hn0,hn,how⟩:=hh
   split at h4
   ·rename_i es f hrow;split at h4
    ·rename_i es' hset;simp only[Option.some.injEq] at h4;subst h4;unfold AS at h3;obtain ⟨sl2,st4,h5,h6⟩:=FM.bind_some h3
     clear h3;obtain ⟨rfl,s2,rfl,hop2⟩:=da hf h hy h5
     split at h6
     ·rename_i v s' c' ix' hk2 hcs2;obtain ⟨sl3,st5,h7,h8⟩:=FM.bind_some h6
      clear h6;obtain ⟨h9,rfl⟩:=cO h7
      obtain ⟨s3,hs3,rfl⟩:=bJ h9
      split at h8
      ·rename_i hfl;split at h8
       ·rename_i heq;obtain ⟨rfl,rfl,rfl⟩:=heq
        obtain ⟨rfl,rfl⟩:=au h8
        simp only[qt,aP,List.getElem?_map,Option.map_map,Option.map_eq_some_iff] at hfl
        obtain ⟨y0,hy0,hy0f⟩:=hfl
        have hy0f:y0.f= .ow false:=hy0f;have hy0at:=bN hs3 hy0;obtain ⟨z,hz,hzer⟩:∃ z:Cell Tg,s2.cs=[z]∧z.er=⟨v, .ap s' c' ix'⟩:=by
         rw[aP] at hcs2;cases hs:s2.cs with
         | nil=>rw[hs] at hcs2;simp at hcs2
         | cons q r=>cases r with
          | nil=>rw[hs] at hcs2;simp at hcs2;exact ⟨q,rfl,hcs2⟩
          | cons q' r=>rw[hs] at hcs2;simp at hcs2
        have hkv:s2.k= .val:=by
         rw[bg] at hk2;cases hk':s2.k<;>rw[hk'] at hk2<;>simp[Kd.er] at hk2 ⊢
        obtain ⟨vz,fz⟩:=z
        simp only[Cell.er,Cell.mk.injEq] at hzer;obtain ⟨hver,rfl⟩:=hzer
        have hzz:COk E w C S [] ⟨vz, .ap s' c' ix'⟩∧a.eval ox=vz.val E.sid:=by
         cases hop2 with
         | slot q s2 hq hs hv=>
          refine ⟨h.cells q s2 hs _ (by simp[hz]),?_⟩
          unfold SlV at hv;rw[hkv] at hv;obtain ⟨z',hz',hv⟩:=hv
          rw[hz] at hz';simp at hz';subst hz';exact hv
         | const agg vs s2 hk he hok hv h1'=>
          have:=(hok _ (by rw[hz];exact List.mem_singleton.2 rfl)).2.2
          simp[eO] at this
         | fn g hv=>simp at hz
        obtain ⟨⟨hsc,hrowat,hap⟩,hvx⟩:=hzz
        obtain ⟨hfst,hal⟩:=hap y0 hy0at ⟨false,hy0f⟩
        have hy0m:y0∈aF S []:=aX hs3 (List.mem_of_getElem? hy0);have hnold:∀ b∈vz.blks,∀ j,¬E.old b j:=by
         intro b hb j hj;rcases hal with hal | ⟨t1,es1,u,e1,e2,e3,_⟩
         ·exact (hal b hb).2 j (h.olt b j hj)
         ·have hin:b∈aA S []:=by
           rw[←List.count_pos_iff,cI];have:=List.count_pos_iff.2 (List.mem_flatMap.2 ⟨y0,hy0m,dh (by rw[hy0f];rfl) (by rw[e1];exact dD (List.mem_of_getElem? e2) (e3▸hb))⟩)
           omega
          exact (h.ownlt b hin).2 j hj
        have hlen1:([vz]:List A).length=i.size:=by simpa using hn
        have hset':bh es ix' ([vz].map VA.er)=some es':=by
         simp only[List.map_cons,List.map_nil];rw[hver];exact hset
        refine ub (vs:=[vz]) h hrow hset' (by simp) (h.ept j s0 te _ _ hj hk') hte (fun yy ty esA esA' hyy hyv hsA=>?_) (fun v' hv'=>?_) ho hi hva (by rw[hvx,rf];rfl) hlen1
        ·obtain rfl:=Option.some.inj (hyy.symm.trans hy0at)
         obtain ⟨k1,_,k3⟩:=cW hsA
         rcases hal with hal | ⟨t1,es1,u,e1,e2,e3,_⟩
         ·refine ⟨vz.blks,fun b=>?_,fun b=>?_,fun b hb=>⟨hfst.1.lt b hb,hnold b hb⟩⟩
          ·rw[k1];have:=fK VA.blks b [vz] esA.flatten ix'
           simpa using this
          ·by_cases hb:b∈vz.blks
           ·have h0:(aA (dF S) []).count b=0:=by
             have h1:=oM S [] b;have h2:=List.count_eq_zero.2 (hal b hb).1;simp only[List.map_nil] at h1;omega
            rw[h0];have h9:vz.blks.count b≤1:=List.nodup_iff_count.1 hfst.2.1 b;omega
           ·rw[List.count_eq_zero.2 hb];exact h.lose.cnt b
         ·rw[hyv] at e1;simp only[VA.row.injEq] at e1;obtain ⟨rfl,rfl⟩:=e1
          refine ⟨[],fun b=>?_,fun b=>by simpa using h.lose.cnt b,by simp⟩
          rw[k1];have:=bk VA.blks b esA.flatten ix' u vz e2
          rw[e3] at this;simp only[splice,List.count_nil];omega
        ·simp only[List.mem_singleton] at hv';subst hv';exact ⟨hfst.1.mono (fun b hb j hj=>hnold b hb j hj) (fun _ _=>rfl),hfst.2.2⟩
       ·exact (aM h8).elim
      ·exact (aM h8).elim
     ·obtain ⟨yy,st5,h7,h8⟩:=FM.bind_some h6
      clear h6;obtain ⟨rfl,rfl⟩:=au h8
      obtain ⟨S1,C1,zs,rfl,e2,e3,e4,e5,e6,e7⟩:=gy hf h hy h7
      have e4:Inv E S1 zs C1 a w:=by simpa using e4
      rw[←e2] at hn how hset;obtain ⟨s01,hs01,hk01,hv01⟩:=e5.to hj
      rw[hk'] at hk01;have hep:=e4.ept j s01 te _ _ hs01 hk01;have hset':bh es ix ((zs.map (·.v)).map VA.er)=some es':=by
       rw[←hset]
       congr 1
       simp[vals,Cell.er]
      have hcok:∀ z∈zs,COk E w C1 S1 zs z:=fun z hz=>e4.hand z hz
      obtain ⟨p1,p2⟩:=rR hcok how
      have hl:=e4.lose;have hlc:∀ z∈zs,bZ z=z:=by
       intro z hz;have:=e3 z hz
       have how':=List.all_eq_true.1 how z.er (List.mem_map_of_mem hz);obtain ⟨v,f⟩:=z
       cases f<;>simp_all[eO,bZ,qI,Cell.er]
      have hzl:zs.map bZ=zs:=by
       rw[List.map_congr_left hlc];simp
      rw[hzl] at hl;refine ub (vs:=zs.map (·.v)) e4 hrow hset' (by
       intro e;rw[List.map_eq_nil_iff] at e;subst e;exact hn0 (by simpa using hn.symm)) hep hte (fun yy ty esA esA' hyy hyv hsA=>?_) (fun v' hv'=>?_) ho hi hva (by rw[ki e7];simp[List.map_map,Function.comp_def]) (by simpa using hn)
      ·obtain ⟨k1,_,_⟩:=cW hsA
       refine ⟨zs.flatMap Cell.own,fun b=>?_,fun b=>?_,fun b hb=>?_⟩
       ·rw[k1];have:=fK VA.blks b (zs.map (·.v)) esA.flatten ix
        have:=p2 b
        omega
       ·have:=hl.cnt b
        simp only[aA,List.count_append,List.flatMap_nil,List.append_nil] at this ⊢;omega
       ·exact hl.ownlt b (List.mem_append.2 (.inr hb))
      ·obtain ⟨z,hz,rfl⟩:=List.mem_map.1 hv'
       rcases p1 z hz with ⟨q1,q2⟩ | hzf
       ·exact ⟨q1 _,by rw[q2];simp⟩
       ·have:=hl.hand z hz
        obtain ⟨v,f⟩:=z
        simp only at hzf;subst hzf;have h6:Shp' E.sid w E.old false v:=this.2.1;exact ⟨by simpa [Shp'] using h6,this.2.2⟩
    ·cases h4
   ·cases h4
  ·cases h4
 ·cases h2
end
end Go.Vm
end
section
namespace Go.Vm
section
variable {E:Env} {cx:Cx} {S:StA} {X:List (Cell Tg)} {C:Nat→Nat→Prop} {a:Act} {w w':World}
theorem zk (h:Inv E S X C a w):∃ C1,Inv E S X C1 a w∧(∀ b j,C b j→C1 b j)∧∀ (i:Nat) (s:SA),S[i]?=some s→∀ x∈s.cs,x.f≠ .dd→(∀ p q r,x.f≠ .ap p q r)→Rd E.sid w C1 x.v:=by
 obtain ⟨C1,h1,h2,h3⟩:=nI (S.flatMap (·.cs)) h (fun z hz=>List.mem_append.2 (.inl hz))
 refine ⟨C1,h1,h2,fun i s hs x hx hd hap=>?_⟩
 have hm:x∈S.flatMap (·.cs):=List.mem_flatMap.2 ⟨s,List.mem_of_getElem? hs,hx⟩;have hk:=h1.cells i s hs x hx;have ho:=h3 x hm;obtain ⟨v,f⟩:=x
 have own':∀ g,Shp' E.sid w C1 g v→aN f=true→Rd E.sid w C1 v:=fun g hs hof=>
  (nh hs).mono (fun b j hj=>hj.elim id (ho hof b j)) (fun _ _ _=>rfl)
 cases f with
 | sc=>exact .of_scal hk
 | sp p q=>exact hk.2.1.mono h1.olt (fun _ _ _=>rfl)
 | sh=>exact Rd.mono hk h1.olt (fun _ _ _=>rfl)
 | nl=>
  obtain ⟨k,hv⟩:=hk
  have hv:v= .row ⟨none,0,k⟩ []:=hv;subst hv;exact .row _ _ (by simp) (by simp) (by simp) (by simp)
 | ow g=>exact own' g hk.2.1 rfl
 | nw g=>exact own' g hk.2.1 rfl
 | mp i=>exact own' false (by simpa [Shp'] using hk.1) rfl
 | cp ck p q ix=>exact hk.2.1
 | ap p q r=>exact absurd rfl (hap p q r)
 | fr=>exact hk.2.1
 | no=>exact hk.2
 | dd=>exact absurd rfl hd
theorem Inv.widen (h:Inv E S X C a w) (hg:Grow w w') {D:Nat→Nat→Prop} (hD:∀ b j,D b j→w.heap.size≤b∧b < w'.heap.size) (hb:E.base≤w.heap.size):Inv E S X (fun b j=>C b j∨D b j) a w':=by
 have hw:=h.grow hg;have hmono:∀ b j,C b j→C b j∨D b j:=fun _ _=> .inl
 have hrd:∀ {v:A},Rd E.sid w' C v→Rd E.sid w' (fun b j=>C b j∨D b j) v:=fun hr=>hr.mono hmono (fun _ _ _=>rfl)
 have hne:∀ {b:Nat},b < w.heap.size→∀ j,C b j∨D b j→C b j:=fun hb j hj=>hj.resolve_right (fun hd=>by have:=(hD _ j hd).1;omega)
 have hshp':∀ {g:Bool} {v:A},Shp' E.sid w C g v→Shp' E.sid w' C g v→Shp' E.sid w' (fun b j=>C b j∨D b j) g v:=by
  intro g v hs hs';exact hs'.world (fun _ _=>rfl) (fun b hb j hj=>hne (hs.lt b hb) j hj)
 have hcell:∀ x,COk E w C S X x→COk E w' C S X x→COk E w' (fun b j=>C b j∨D b j) S X x:=by
  intro x hx0 hx;obtain ⟨v,f⟩:=x
  cases f with
  | ow g=>exact ⟨hx.1,hshp' hx0.2.1 hx.2.1,hx.2.2⟩
  | nw g=>exact ⟨hx.1,hshp' hx0.2.1 hx.2.1,hx.2.2⟩
  | mp i=>exact ⟨hx.1.mono (fun b hb j hj=>hne (hx0.1.lt b hb) j hj) (fun _ _=>rfl),hx.2⟩
  | cp ck s c ix=>exact ⟨hx.1,hrd hx.2.1,hx.2.2⟩
  | fr=>exact ⟨hx.1,hrd hx.2.1,hx.2.2⟩
  | no=>exact ⟨hx.1,hrd hx.2⟩
  | ap s c ix=>exact ⟨hx.1,hx.2.1,fun y hy hyg=>⟨(hx.2.2 y hy hyg).1,(hx.2.2 y hy hyg).2.imp (fun hn b hb=>⟨(hn b hb).1,fun j hj=>(hn b hb).2 j (hne ((hx0.2.2 y hy hyg).1.1.lt b hb) j hj)⟩) id⟩⟩
  | _=>exact hx
 refine ⟨hw.len,hw.tsz,hw.nodef,hw.slv,hw.high,hw.emp,hw.lock,hw.noap,?_,?_,?_,?_,hw.cnt,fun b j ho=> .inl (hw.olt b j ho),?_,?_,hw.ownlt⟩
 ·intro i s t hs hk;obtain ⟨b,T,k1,k2,k3⟩:=h.box i s t hs hk
  obtain ⟨b',T',m1,m2,m3⟩:=hw.box i s t hs hk
  rw[k1] at m1;simp only[Option.some.injEq,Addr.mk.injEq,and_true] at m1;subst m1;exact ⟨b,T',k1,m2,fun j hj=>k3.1 j (hne (Array.getElem?_eq_some_iff.1 k2).1 j hj),k3.2⟩
 ·intro i s t src ix hs hk;obtain ⟨b,o,k1,k2,k3⟩:=hw.ept i s t src ix hs hk
  exact ⟨b,o,k1,fun j y hy=>⟨.inl (k2 j y hy).1,(k2 j y hy).2⟩,k3⟩
 ·exact fun i s hs x hx=>hcell x (h.cells i s hs x hx) (hw.cells i s hs x hx)
 ·exact fun x hx=>hcell x (h.hand x hx) (hw.hand x hx)
 ·rintro b j (hj | hj)
  ·exact hw.clt b j hj
  ·exact (hD b j hj).2
 ·rintro b j (hj | hj)
  ·exact hw.cbase b j hj
  ·exact .inl (Nat.le_trans hb (hD b j hj).1)
theorem Inv.gain {rs:List (Cell Tg)} (h:Inv E S X C a w) (hg:Grow w w') {D:Nat→Nat→Prop} (hD:∀ b j,D b j→w.heap.size≤b∧b < w'.heap.size) (hb:E.base≤w.heap.size)
  (hr:∀ r∈rs,COk E w' (fun b j=>C b j∨D b j) S (rs++X) r∧∀ p q k,r.f≠ .ap p q k)
  (hcnt:∀ b,(rs.flatMap Cell.own).count b≤1) (hlt:∀ b∈rs.flatMap Cell.own,w.heap.size≤b∧b < w'.heap.size):Inv E S (rs++X) (fun b j=>C b j∨D b j) a w':=by
 have h1:=h.widen hg hD hb;have hzero:∀ b,w.heap.size≤b→(aA S X).count b=0:=by
  intro b hb;rw[List.count_eq_zero];intro hm;have:=(h.ownlt b hm).1
  omega
 have hnew:∀ b,b < w.heap.size→(rs.flatMap Cell.own).count b=0:=by
  intro b hb;rw[List.count_eq_zero];intro hm;have:=(hlt b hm).1
  omega
 have hown:∀ b,(aA S (rs++X)).count b=(aA S X).count b+(rs.flatMap Cell.own).count b:=by
  intro b;simp only[aA,List.flatMap_append,List.count_append];omega
 have hcok:∀ x,COk E w C S X x→COk E w' (fun b j=>C b j∨D b j) S X x→COk E w' (fun b j=>C b j∨D b j) S (rs++X) x:=by
  intro x h0 hx;obtain ⟨v,f⟩:=x
  cases f with
  | ap s c ix=>
   obtain ⟨k2,k3,k4⟩:=hx
   refine ⟨k2,k3,fun y hy hyg=>⟨(k4 y hy hyg).1,(k4 y hy hyg).2.imp (fun hn b hb=>⟨fun hm=>?_,(hn b hb).2⟩) id⟩⟩
   have hb':b < w.heap.size:=(h0.2.2 y hy hyg).1.1.lt b hb;have h2:=hown b;rw[hnew b hb'] at h2;have h3:=List.count_pos_iff.2 hm;exact (hn b hb).1 (List.count_pos_iff.1 (by omega))
  | _=>exact hx
 refine ⟨h1.len,h1.tsz,h1.nodef,h1.slv,h1.high,h1.emp,h1.lock,?_,h1.box,?_,?_,?_,?_,h1.olt,h1.clt,h1.cbase,?_⟩
 ·intro l hl hd;obtain ⟨k1,k2⟩:=h1.noap l hl hd
  refine ⟨k1,fun x hx=>?_⟩
  rcases List.mem_append.1 hx with hx | hx
  ·exact (hr x hx).2
  ·exact k2 x hx
 ·intro i s t src ix hs hk;obtain ⟨b,o,k1,k2,k3⟩:=h1.ept i s t src ix hs hk
  exact ⟨b,o,k1,k2,k3⟩
 ·exact fun i s hs x hx=>hcok x (h.cells i s hs x hx) (h1.cells i s hs x hx)
 ·intro x hx;rcases List.mem_append.1 hx with hx | hx
  ·exact (hr x hx).1
  ·exact hcok x (h.hand x hx) (h1.hand x hx)
 ·intro b;rw[hown b];by_cases hb':w.heap.size≤b
  ·have h2:=hzero b hb';have h3:=hcnt b;omega
  ·rw[hnew b (by omega)]
   have:=h.cnt b
   omega
 ·intro b hm;simp only[aA,List.flatMap_append,List.mem_append] at hm;rcases hm with hm | hm | hm
  ·exact h1.ownlt b (List.mem_append.2 (.inl hm))
  ·refine ⟨(hlt b hm).2,fun j hj=>?_⟩
   have:=h.clt b j (h.olt b j hj)
   have:=(hlt b hm).1
   omega
  ·exact h1.ownlt b (List.mem_append.2 (.inr hm))
end
def bm (sid:Nat→Nat) (s:SA):Value:=
 match s.k with
 | .val=>match s.cs with
  | [c]=>c.v.val sid
  | _=>undef
 | .agg=> .agg (s.cs.map (·.v.val sid)).toArray
 | .box t=> .pointer t.a
 | _=>undef
def gY (sid:Nat→Nat) (rs:List SA):Value:=
 match rs with
 | [s]=>bm sid s
 | rs=> .tuple (rs.map (bm sid)).toArray
structure Entry (E:Env) (w:World) (args:List SA):Prop where
 base:E.base=w.heap.size
 kinds:∀ (i:Nat) (s:SA),args[i]?=some s→(s.k= .val∧∃ c,s.cs=[c])∨s.k= .agg∨(i=0∧∃ t,s.k= .box t)
 flags:∀ s∈args,∀ x∈s.cs,x.f= .sc∨(∃ p q,x.f= .sp p q)∨x.f= .sh∨x.f= .nl∨∃ i,x.f= .mp i
 cells:∀ s∈args,∀ x∈s.cs,COk E w E.old [] [] x
 box:∀ s∈args,∀ t,s.k= .box t→o6 E w E.old t s.cs
 cnt:∀ b,(args.flatMap Sl.own).count b≤1
 own:∀ b∈args.flatMap Sl.own,b < w.heap.size∧∀ j,¬E.old b j
 olt:∀ b j,E.old b j→b < w.heap.size
def vY (E:Env) (w':World) (C:Nat→Nat→Prop) (arg:SA) (cs':List V):Prop:=
 ∃ t b T,∃ vs:List A,arg.k= .box t∧t.a=some ⟨b,0,none⟩∧w'.heap[b]?=some (.cells (vs.map (VA.val E.sid)).toArray T (0,0))∧vs.map VA.er=cs'∧vs.length=arg.cs.length∧(∀ j,¬C b j)∧
  ∀ (c:Nat) (x:Cell Tg) (v:A),arg.cs[c]?=some x→vs[c]?=some v→(scal x.v=true∧scal v=true)∨(scal x.v=false∧v.val E.sid=x.v.val E.sid)
structure Leave (E:Env) (w w':World) (args:List SA) (ret:Ret) (v:Value) (rs:List SA) (outs:List A) (C:Nat→Nat→Prop):Prop where
 er:rs.map Sl.er=ret.res
 val:v=gY E.sid rs
 kinds:∀ s∈rs,(s.k= .val∧∃ c,s.cs=[c])∨s.k= .agg∨((∃ t,s.k= .box t)∧rs.length=1∧ret.obox=none)
 flags:∀ s∈rs,∀ x∈s.cs,x.f= .sc∨x.f= .nl∨(∃ g,x.f= .ow g)∨x.f= .no
 cells:∀ s∈rs,∀ x∈s.cs,COk E w' C [] [] x
 box:∀ s∈rs,∀ t,s.k= .box t→o6 E w' C t s.cs∧∀ b,t.a=some ⟨b,0,none⟩→E.base≤b
 cnt:∀ b,(rs.flatMap Sl.own).count b+(outs.flatMap VA.blks).count b≤1
 own:∀ b∈rs.flatMap Sl.own,E.base≤b∧b < w'.heap.size
 clt:∀ b j,C b j→b < w'.heap.size
 cbase:∀ b j,C b j→E.base≤b∨E.old b j∨E.chg b
 frame:Frame E w w'
 outer:outs.map VA.er=ret.outs
 outok:∀ (i:Nat) (v:A),outs[i]?=some v→Shp E.sid w' C v∧(∃ t es,v= .row t es∧E.mt i=some (t,es.length))∧∀ b∈v.blks,(E.base≤b∨E.chg b)∧b < w'.heap.size∧∀ j,¬E.old b j
 left:∀ cs',ret.obox=some cs'→∃ arg,args.head?=some arg∧vY E w' C arg cs'
def dG (P:Program) (sid:Nat→Nat) (orac:dH) (g:Nat):Prop:=
 ∀ (E:Env) (w:World) (args:List SA) (ret:Ret),E.P=P→E.sid=sid→Entry E w args→orac g (args.map Sl.er)=some ret→
  (callFunc (sid g) (args.map (bm sid)).toArray).run P w= .ok (.enter (sid g) (args.map (bm sid)).toArray) w∧
  Calls P (sid g) (args.map (bm sid)).toArray w fun e w'=>∃ v rs outs C,e= .returned v∧Leave E w w' args ret v rs outs C
end Go.Vm
end
section
namespace Go.Vm
def bE (p c:Nat) (x:Cell Tg):Cell Tg:=
 match x.f with
 | .sc | .nl=>x
 | _=>match x.v with
  | .row _ _=>⟨x.v, .sp p c⟩
  | _=>⟨x.v,if scal x.v then .sc else .sh⟩
def ba (p:Nat):Nat→List (Cell Tg)→List (Cell Tg)
 | _,[]=>[]
 | c,x::xs=>bE p c x::ba p (c+1) xs
theorem gO (p c:Nat) (x:Cell Tg):(bE p c x).v=x.v:=by
 obtain ⟨v,f⟩:=x
 cases f<;>cases v<;>rfl
theorem ij (p:Nat):∀ (cs:List (Cell Tg)) (c j:Nat),(ba p c cs)[j]?=(cs[j]?).map (bE p (c+j))
 | [],_,_=>rfl
 | x::xs,c,0=>rfl
 | x::xs,c,j+1=>by
  simp only[ba,List.getElem?_cons_succ]
  rw[ij p xs (c+1) j,show c+1+j=c+(j+1) by omega]
theorem jL (p:Nat):∀ (cs:List (Cell Tg)) (c:Nat),(ba p c cs).map (·.v)=cs.map (·.v)
 | [],_=>rfl
 | x::xs,c=>by simp only[ba,List.map_cons,gO,jL p xs]
theorem zo {p c:Nat} {x:Cell Tg} {y:Cell Unit} (h:vZ p c x.er=some y):(bE p c x).er=y∧x.f≠ .dd∧∀ i j k,x.f≠ .ap i j k:=by
 obtain ⟨v,f⟩:=x
 cases f<;>simp only[vZ,Cell.er,Option.some.injEq,reduceCtorEq] at h<;>(subst h;refine ⟨?_,by simp,by simp⟩;cases v<;>rfl)
theorem mw {p:Nat}:∀ {cs:List (Cell Tg)} {c:Nat} {ys:List (Cell Unit)},iB p c (cs.map Cell.er)=some ys→(ba p c cs).map Cell.er=ys∧∀ x∈cs,x.f≠ .dd∧∀ i j k,x.f≠ .ap i j k
 | [],c,ys,h=>by
  simp only[List.map_nil,iB,Option.some.injEq] at h;subst h;exact ⟨rfl,by simp⟩
 | x::cs,c,ys,h=>by
  simp only[List.map_cons,iB] at h;split at h
  ·rename_i y ys' h1 h2;simp only[Option.some.injEq] at h;subst h;obtain ⟨e1,e2⟩:=zo h1
   obtain ⟨k1,k2⟩:=mw h2
   refine ⟨by simp[ba,e1,k1],fun z hz=>?_⟩
   rcases List.mem_cons.1 hz with rfl | hz
   ·exact e2
   ·exact k2 z hz
  ·cases h
section
variable {E:Env} {cx:Cx} {S:StA} {X:List (Cell Tg)} {C:Nat→Nat→Prop} {a:Act} {w w':World}
def pV (S:StA) (b:Nat):Prop:=∃ (i:Nat) (s:SA) (t:Tg),S[i]?=some s∧s.k= .box t∧t.a=some ⟨b,0,none⟩
theorem ri {w:World} {E':Env} {p c:Nat} {x:Cell Tg} (hs:E'.sid=E.sid) (hk:COk E w C S X x) (hd:x.f≠ .dd) (hap:∀ i j k,x.f≠ .ap i j k) (hr:Rd E.sid w E'.old x.v) (hp:aY x.v=true→E'.par p c=some x.v):
  COk E' w E'.old [] [] (bE p c x)∧((bE p c x).f= .sc∨(∃ i j,(bE p c x).f= .sp i j)∨(bE p c x).f= .sh∨(bE p c x).f= .nl):=by
 have row:aY x.v=true→x.f≠ .sc→x.f≠ .nl→COk E' w E'.old [] [] (bE p c x)∧((bE p c x).f= .sc∨(∃ i j,(bE p c x).f= .sp i j)∨(bE p c x).f= .sh∨(bE p c x).f= .nl):=by
  intro hrow h1 h2;have he:bE p c x=⟨x.v, .sp p c⟩:=by
   obtain ⟨v,f⟩:=x
   cases v<;>simp[aY] at hrow
   cases f<;>first | rfl | exact absurd rfl h1 | exact absurd rfl h2
  rw[he];exact ⟨⟨hrow,hs▸hr,hp hrow⟩, .inr (.inl ⟨p,c,rfl⟩)⟩
 have other:aY x.v=false→x.f≠ .sc→x.f≠ .nl→COk E' w E'.old [] [] (bE p c x)∧((bE p c x).f= .sc∨(∃ i j,(bE p c x).f= .sp i j)∨(bE p c x).f= .sh∨(bE p c x).f= .nl):=by
  intro hrow h1 h2;have he:bE p c x=⟨x.v,if scal x.v then .sc else .sh⟩:=by
   obtain ⟨v,f⟩:=x
   cases v<;>simp[aY] at hrow<;>(cases f<;>first | rfl | exact absurd rfl h1 | exact absurd rfl h2)
  rw[he];cases hsc:scal x.v with
  | true=>exact ⟨hsc, .inl rfl⟩
  | false=>exact ⟨by show Rd E'.sid w E'.old x.v;rw[hs];exact hr, .inr (.inr (.inl rfl))⟩
 by_cases h1:x.f= .sc
 ·have he:bE p c x=x:=by
   obtain ⟨v,f⟩:=x
   simp only at h1;subst h1;rfl
  rw[he];obtain ⟨v,f⟩:=x
  simp only at h1;subst h1;exact ⟨hk, .inl rfl⟩
 ·by_cases h2:x.f= .nl
  ·have he:bE p c x=x:=by
    obtain ⟨v,f⟩:=x
    simp only at h2;subst h2;rfl
   rw[he];obtain ⟨v,f⟩:=x
   simp only at h2;subst h2;exact ⟨hk, .inr (.inr (.inr rfl))⟩
  ·cases hrow:aY x.v with
   | true=>exact row hrow h1 h2
   | false=>exact other hrow h1 h2
theorem mD (h:Inv E S X C a w) (hrd:∀ (i:Nat) (s:SA),S[i]?=some s→∀ x∈s.cs,x.f≠ .dd→(∀ p q r,x.f≠ .ap p q r)→Rd E.sid w C x.v):∀ (rs:List Nat) {ps:List V} {st1:St},(mC rs).run (erS S)=some (ps,st1)→
  st1=erS S∧∃ psA:List A,erL psA=ps∧psA.map gQ=rs.map (fun r=> .pointer (aL S r))∧(∀ p∈psA,∃ t cs,p= .ptr t cs)∧∀ p∈psA,Rd E.sid w (fun b j=>C b j∨pV S b) p
 | [],ps,st1,hr=>by
  obtain ⟨rfl,rfl⟩:=au hr
  exact ⟨rfl,[],rfl,rfl,by simp,by simp⟩
 | r::rs,ps,st1,hr=>by
  unfold mC at hr;obtain ⟨b,st2,h1,h2⟩:=FM.bind_some hr
  clear hr;obtain ⟨h3,rfl⟩:=cO h1
  obtain ⟨s,hs,rfl⟩:=bJ h3
  obtain ⟨vs,st3,h4,h5⟩:=FM.bind_some h2
  clear h2;obtain ⟨h6,rfl⟩:=ip h4
  obtain ⟨ps',st4,h7,h8⟩:=FM.bind_some h5
  clear h5;obtain ⟨rfl,rfl⟩:=au h8
  obtain ⟨e1,psA,e2,e3,e4,e5⟩:=mD h hrd rs h7
  unfold A3 at h6;split at h6
  ·rename_i u hk;have hk':∃ t,s.k= .box t:=by
    rw[bg] at hk;cases hk':s.k<;>rw[hk'] at hk<;>simp[Kd.er] at hk ⊢
   obtain ⟨t,hk'⟩:=hk'
   split at h6
   ·rename_i hall;simp only[Option.some.injEq] at h6;obtain ⟨b,T,q1,q2,_⟩:=h.box r s t hs hk'
    have hba:aL S r=t.a:=by
     unfold aL;rw[hs];obtain ⟨k,cs⟩:=s
     simp only at hk';subst hk';rfl
    refine ⟨e1, .ptr t (s.cs.map (·.v))::psA,?_,?_,?_,?_⟩
    ·rw[erL,e2];simp only[VA.er,il,List.map_map]
     congr 2
     rw[←h6];simp[vals,aP,Cell.er]
    ·simp only[List.map_cons,e3,gQ,hba]
    ·intro p hp;rcases List.mem_cons.1 hp with rfl | hp
     ·exact ⟨t,_,rfl⟩
     ·exact e4 p hp
    ·intro p hp;rcases List.mem_cons.1 hp with rfl | hp
     ·refine .ptr _ _ (fun j c hc=>⟨b,0,q1, .inr ⟨r,s,t,hs,hk',q1⟩,?_⟩) (fun c hc=>?_)
      ·rw[List.getElem?_map,Option.map_eq_some_iff] at hc
       obtain ⟨x,hx,rfl⟩:=hc
       rw[dM q2];simp[hx]
      ·obtain ⟨x,hx,rfl⟩:=List.mem_map.1 hc
       have:=List.all_eq_true.1 hall x.er (by rw[aP];exact List.mem_map_of_mem hx)
       refine (hrd r s hs x hx ?_ ?_).mono (fun _ _=> .inl) (fun _ _ _=>rfl)
       ·intro e;simp[Cell.er,e] at this
       ·intro p q k e;simp[Cell.er,e] at this
     ·exact e5 p hp
   ·cases h6
  ·cases h6
structure ArgOk (E:Env) (S:StA) (C:Nat→Nat→Prop) (w:World) (v:Value) (s:SA):Prop where
 kind:(s.k= .val∧∃ c,s.cs=[c])∨s.k= .agg
 val:bm E.sid s=v
 src:∀ (c:Nat) (x:Cell Tg),s.cs[c]?=some x→Rd E.sid w (fun b j=>C b j∨pV S b) x.v∧(jB s.er=true→Rd E.sid w C x.v)
theorem B4 (h:Inv E S X C a w) (hrd:∀ (i:Nat) (s:SA),S[i]?=some s→∀ x∈s.cs,x.f≠ .dd→(∀ p q r,x.f≠ .ap p q r)→Rd E.sid w C x.v) {x:Opd} {v:Value} {s:SA} (ho:OpR E S w C X v x s) {p:Nat} {y:SU} {st1:St} (hr:(G6 p s.er).run (erS S)=some (y,st1)):
  st1=erS S∧∃ z:SA,z.er=y∧ArgOk E S C w v z∧(∀ E':Env,E'.sid=E.sid→(∀ (c:Nat) (x:Cell Tg),z.cs[c]?=some x→Rd E.sid w E'.old x.v)→(∀ (c:Nat) (x:Cell Tg),z.cs[c]?=some x→E'.par p c=some x.v)→
   ∀ (c:Nat) (x:Cell Tg),z.cs[c]?=some x→COk E' w E'.old [] [] x∧(x.f= .sc∨(∃ i j,x.f= .sp i j)∨x.f= .sh∨x.f= .nl)):=by
 have hcell:∀ x∈s.cs,COk E w C S X x:=by
  cases ho with
  | slot i s hi hs hv=>exact h.cells i s hs
  | const agg vs s hk he hok hv h1=>exact fun x hx=>(hok x hx).1
  | fn g hv=>simp only[List.mem_singleton];rintro x rfl;exact .fn g [] (by simp) (by simp)
 have hrdx:∀ x∈s.cs,x.f≠ .dd→(∀ p q r,x.f≠ .ap p q r)→Rd E.sid w C x.v:=by
  intro x hx hd hap;cases ho with
  | slot i s hi hs hv=>exact hrd i s hs x hx hd hap
  | const agg vs s hk he hok hv h1=>
   have hk:=(hok x hx).1;have ho:=(hok x hx).2.1;have ht:=(hok x hx).2.2;obtain ⟨v,f⟩:=x
   cases f with
   | sc=>exact .of_scal hk
   | sp p q=>exact hk.2.1.mono h.olt (fun _ _ _=>rfl)
   | sh=>exact Rd.mono hk h.olt (fun _ _ _=>rfl)
   | nl=>
    obtain ⟨k,hv⟩:=hk
    have hv:v= .row ⟨none,0,k⟩ []:=hv;subst hv;exact .row _ _ (by simp) (by simp) (by simp) (by simp)
   | fr=>exact hk.2.1
   | no=>exact hk.2
   | _=>first | (simp[aN] at ho;done) | (simp[eO] at ht;done)
  | fn g hv=>simp only[List.mem_singleton] at hx;subst hx;exact .fn g [] (by simp) (by simp)
 have cells:∀ (k:Kd Tg),(k= .val∧(∃ c,s.cs=[c]∧v=c.v.val E.sid)∨k= .agg∧v= .agg (s.cs.map (·.v.val E.sid)).toArray)→∀ {cs:List (Cell Unit)},iB p 0 s.er.cs=some cs→
   ∃ z:SA,z.er=⟨k.er,cs⟩∧ArgOk E S C w v z∧(∀ E':Env,E'.sid=E.sid→(∀ (c:Nat) (x:Cell Tg),z.cs[c]?=some x→Rd E.sid w E'.old x.v)→(∀ (c:Nat) (x:Cell Tg),z.cs[c]?=some x→E'.par p c=some x.v)→
   ∀ (c:Nat) (x:Cell Tg),z.cs[c]?=some x→COk E' w E'.old [] [] x∧(x.f= .sc∨(∃ i j,x.f= .sp i j)∨x.f= .sh∨x.f= .nl)):=by
  intro k hk cs hcs;rw[aP] at hcs;obtain ⟨e1,e2⟩:=mw hcs
  have hget:∀ (c:Nat) (x:Cell Tg),(ba p 0 s.cs)[c]?=some x→∃ x0,s.cs[c]?=some x0∧x=bE p c x0:=by
   intro c x hx;rw[ij,Option.map_eq_some_iff] at hx;obtain ⟨x0,hx0,rfl⟩:=hx
   exact ⟨x0,hx0,by rw[Nat.zero_add]⟩
  have hrc:∀ (c:Nat) (x:Cell Tg),(ba p 0 s.cs)[c]?=some x→Rd E.sid w C x.v:=by
   intro c x hx;obtain ⟨x0,hx0,rfl⟩:=hget c x hx
   have hm:=List.mem_of_getElem? hx0;rw[gO];exact hrdx x0 hm (e2 x0 hm).1 (e2 x0 hm).2
  refine ⟨⟨k,ba p 0 s.cs⟩,by simp only[Sl.er,e1],⟨?_,?_,fun c x hx=>⟨(hrc c x hx).mono (fun _ _=> .inl) (fun _ _ _=>rfl),fun _=>hrc c x hx⟩⟩,fun E' hs' hE hpar c x hx=>?_⟩
  ·rcases hk with ⟨rfl,c,hc,_⟩ | ⟨rfl,_⟩
   ·exact .inl ⟨rfl,bE p 0 c,by simp[hc,ba]⟩
   ·exact .inr rfl
  ·rcases hk with ⟨rfl,c,hc,hv⟩ | ⟨rfl,hv⟩
   ·simp[bm,hc,ba,gO,hv]
   ·simp only[bm,hv];rw[d9 (jL p s.cs 0)]
  ·obtain ⟨x0,hx0,rfl⟩:=hget c x hx
   have hm:=List.mem_of_getElem? hx0;have h1:=hE c _ hx;have h2:=hpar c _ hx;rw[gO] at h1 h2;exact ri hs' (hcell x0 hm) (e2 x0 hm).1 (e2 x0 hm).2 h1 (fun _=>h2)
 unfold G6 at hr;split at hr
 ·rename_i hk;have hkv:s.k= .val:=by
   rw[bg] at hk;cases hk':s.k<;>rw[hk'] at hk<;>simp[Kd.er] at hk ⊢
  obtain ⟨cs,st2,h1,h2⟩:=FM.bind_some hr
  obtain ⟨h3,rfl⟩:=ip h1
  obtain ⟨rfl,rfl⟩:=au h2
  obtain ⟨z,q1,q2⟩:=cells .val (.inl ⟨rfl,by
   cases ho with
   | slot i s hi hs hv=>unfold SlV at hv;rw[hkv] at hv;exact hv
   | const agg vs s hk he hok hv h1'=>
    cases agg with
    | true=>rw[hk] at hkv;simp at hkv
    | false=>
     obtain ⟨z,hz⟩:=h1' rfl
     exact ⟨z,hz,by rw[hv,hz];simp⟩
   | fn g hv=>exact ⟨_,rfl,by rw[hv];simp[VA.val]⟩⟩) h3
  exact ⟨rfl,z,q1,q2⟩
 ·rename_i hk;have hkv:s.k= .agg:=by
   rw[bg] at hk;cases hk':s.k<;>rw[hk'] at hk<;>simp[Kd.er] at hk ⊢
  obtain ⟨cs,st2,h1,h2⟩:=FM.bind_some hr
  obtain ⟨h3,rfl⟩:=ip h1
  obtain ⟨rfl,rfl⟩:=au h2
  obtain ⟨z,q1,q2⟩:=cells .agg (.inr ⟨rfl,by
   cases ho with
   | slot i s hi hs hv=>unfold SlV at hv;rw[hkv] at hv;exact hv
   | const agg vs s hk he hok hv h1'=>
    cases agg with
    | true=>simpa using hv
    | false=>rw[hk] at hkv;simp at hkv
   | fn g hv=>simp at hkv⟩) h3
  exact ⟨rfl,z,q1,q2⟩
 ·rename_i g roots hk;have hkv:s.k= .clo g roots:=by
   rw[bg] at hk;cases hk':s.k<;>rw[hk'] at hk<;>simp[Kd.er] at hk ⊢
   exact hk
  obtain ⟨ps,st2,h1,h2⟩:=FM.bind_some hr
  obtain ⟨rfl,psA,e2,e3,e4,e5⟩:=mD h hrd roots h1
  obtain ⟨rfl,rfl⟩:=au h2
  have hv:v= .func (.func (E.sid g)) #[] (roots.map fun r=> .pointer (aL S r)).toArray:=by
   cases ho with
   | slot i s hi hs hv=>unfold SlV at hv;rw[hkv] at hv;exact hv.2
   | const agg vs s hk he hok hv h1'=>cases agg<;>rw[hk] at hkv<;>simp at hkv
   | fn g hv=>simp at hkv
  refine ⟨rfl,⟨.val,[⟨.fn g psA, .sh⟩]⟩,by simp[Sl.er,Kd.er,Cell.er,VA.er,e2],⟨.inl ⟨rfl,_,rfl⟩,by simp[bm,VA.val,e3,hv],fun c x hx=>?_⟩,fun E' hs' hE hpar c x hx=>?_⟩
  ·cases c with
   | zero=>
    simp only[List.getElem?_cons_zero,Option.some.injEq] at hx
    subst hx;refine ⟨.fn g psA e4 e5,fun hn=>?_⟩
    have:psA=[]:=by
     cases psA with
     | nil=>rfl
     | cons p r=>simp[jB,Sl.er,Cell.er,VA.er,erL] at hn
    subst this;exact .fn g [] (by simp) (by simp)
   | succ c=>simp at hx
  ·have h1:=hE c x hx;cases c with
   | zero=>
    simp only[List.getElem?_cons_zero,Option.some.injEq] at hx
    subst hx;exact ⟨by show Rd E'.sid w E'.old _;rw[hs'];exact h1, .inr (.inr (.inl rfl))⟩
   | succ c=>simp at hx
 ·exact (aM hr).elim
end
end Go.Vm
end
section
namespace Go.Vm
section
variable {E:Env} {cx:Cx} {S:StA} {X:List (Cell Tg)} {C:Nat→Nat→Prop} {a:Act} {w w':World}
def Gp (E:Env) (w:World) (p:Nat) (s:SA):Prop:=
 ∀ E':Env,E'.sid=E.sid→(∀ (c:Nat) (x:Cell Tg),s.cs[c]?=some x→Rd E.sid w E'.old x.v)→(∀ (c:Nat) (x:Cell Tg),s.cs[c]?=some x→E'.par p c=some x.v)→
  ∀ (c:Nat) (x:Cell Tg),s.cs[c]?=some x→COk E' w E'.old [] [] x∧(x.f= .sc∨(∃ i j,x.f= .sp i j)∨x.f= .sh∨x.f= .nl)
theorem ov (hf:Fits E cx) (h:Inv E S X C a w) (hrd:∀ (i:Nat) (s:SA),S[i]?=some s→∀ x∈s.cs,x.f≠ .dd→(∀ p q r,x.f≠ .ap p q r)→Rd E.sid w C x.v):∀ (os:List Operand) {xs:List Opd},bU (bj cx) os=some xs→∀ (p:Nat) {ys:List SU} {st1:St},
  (sB p xs).run (erS S)=some (ys,st1)→
  st1=erS S∧∃ zs:List SA,zs.map Sl.er=ys∧zs.length=os.length∧zs.map (bm E.sid)=os.map a.eval∧∀ (i:Nat) (z:SA),zs[i]?=some z→(∃ v,ArgOk E S C w v z)∧Gp E w (p+i) z
 | [],xs,hc,p,ys,st1,hr=>by
  simp only[bU,Option.some.injEq] at hc;subst hc;obtain ⟨rfl,rfl⟩:=au hr
  exact ⟨rfl,[],rfl,rfl,rfl,by simp⟩
 | o::os,xs,hc,p,ys,st1,hr=>by
  unfold bU at hc;cases h1:bj cx o with
  | none=>simp[h1] at hc
  | some x=>cases h2:bU (bj cx) os with
   | none=>simp[h1,h2] at hc
   | some xs'=>
    simp[h1,h2] at hc;subst hc;unfold sB at hr;obtain ⟨s,st2,h3,h4⟩:=FM.bind_some hr
    clear hr;obtain ⟨rfl,s0,rfl,hop⟩:=da hf h h1 h3
    obtain ⟨y,st3,h5,h6⟩:=FM.bind_some h4
    clear h4;obtain ⟨rfl,z,rfl,hz1,hz2⟩:=B4 h hrd hop h5
    obtain ⟨ys',st4,h7,h8⟩:=FM.bind_some h6
    clear h6;obtain ⟨rfl,zs,rfl,e2,e3,e4⟩:=ov hf h hrd os h2 (p+1) h7
    obtain ⟨rfl,rfl⟩:=au h8
    refine ⟨rfl,z::zs,rfl,by simp[e2],by simp[e3,hz1.val],fun i z' hz'=>?_⟩
    cases i with
    | zero=>
     simp only[List.getElem?_cons_zero,Option.some.injEq] at hz'
     subst hz';exact ⟨⟨_,hz1⟩,hz2⟩
    | succ i=>
     have:=e4 i z' (by simpa using hz')
     rwa [show p+1+i=p+(i+1) by omega] at this
def gj (caps:List A):List SA:=caps.map fun p=>⟨.val,[⟨p, .sh⟩]⟩
theorem Ca (caps:List A):(gj caps).map Sl.er=kK (erL caps):=by
 simp[gj,kK,il,List.map_map,Function.comp_def,Sl.er,Kd.er,Cell.er]
theorem zP (caps:List A) (hp:∀ c∈caps,∃ t cs,c= .ptr t cs):(gj caps).map (bm E.sid)=caps.map gQ:=by
 simp only[gj,List.map_map];refine List.map_congr_left fun c hc=>?_
 obtain ⟨t,cs,rfl⟩:=hp c hc
 rfl
def iL (E:Env) (w:World) (old:Nat→Nat→Prop) (args:List SA):Env:=
 ⟨E.P,E.sid,0,w.heap.size,old,fun _=>False,fun p c=>((args[p]?).bind fun s=>s.cs[c]?).map (·.v),fun _=>none,⟨none,0,0⟩⟩
theorem E2 {old:Nat→Nat→Prop} {args:List SA} {p c:Nat} {s:SA} {x:Cell Tg} (hs:args[p]?=some s) (hx:s.cs[c]?=some x):(iL E w old args).par p c=some x.v:=by
 simp[iL,hs,hx]
theorem iZ {s:SA} (hk:∀ t,s.k≠ .box t) (hfl:∀ x∈s.cs,aN x.f=false):s.own=[]:=by
 unfold Sl.own Sl.boxOwn;have:s.cs.flatMap Cell.own=[]:=by
  rw[List.flatMap_eq_nil_iff];intro x hx;simp[Cell.own,hfl x hx]
 rw[this];cases h:s.k with
 | box t=>exact absurd h (hk t)
 | _=>rfl
theorem sO {old:Nat→Nat→Prop} {args:List SA} (hold:∀ b j,old b j→b < w.heap.size) (hm:∀ (i:Nat) (z:SA),args[i]?=some z→((z.k= .val∧∃ c,z.cs=[c])∨z.k= .agg)∧Gp E w i z∧∀ (c:Nat) (x:Cell Tg),z.cs[c]?=some x→Rd E.sid w old x.v):
  Entry (iL E w old args) w args:=by
 have hall:∀ s∈args,(∀ t,s.k≠ .box t)∧∀ x∈s.cs,COk (iL E w old args) w old [] [] x∧(x.f= .sc∨(∃ i j,x.f= .sp i j)∨x.f= .sh∨x.f= .nl):=by
  intro s hs;obtain ⟨i,hi⟩:=List.mem_iff_getElem?.1 hs
  obtain ⟨h1,h2,h3⟩:=hm i s hi
  refine ⟨fun t=>by rcases h1 with ⟨h,_⟩ | h<;>rw[h]<;>simp,fun x hx=>?_⟩
  obtain ⟨c,hc⟩:=List.mem_iff_getElem?.1 hx
  exact h2 (iL E w old args) rfl h3 (fun c x hx=>E2 hi hx) c x hc
 have hown:args.flatMap Sl.own=[]:=by
  rw[List.flatMap_eq_nil_iff];intro s hs;refine iZ (hall s hs).1 (fun x hx=>?_)
  rcases ((hall s hs).2 x hx).2 with h | ⟨i,j,h⟩ | h | h<;>rw[h]<;>rfl
 refine ⟨rfl,fun i s hs=>?_,fun s hs x hx=>?_,fun s hs x hx=>((hall s hs).2 x hx).1,fun s hs t hk=>absurd hk ((hall s hs).1 t),by rw[hown];simp,by rw[hown];simp,hold⟩
 ·rcases (hm i s hs).1 with h | h
  ·exact .inl h
  ·exact .inr (.inl h)
 ·rcases ((hall s hs).2 x hx).2 with h | h | h | h
  ·exact .inl h
  ·exact .inr (.inl h)
  ·exact .inr (.inr (.inl h))
  ·exact .inr (.inr (.inr (.inl h)))
def lV (s:SA):Bool×Nat:=(match s.k with | .agg=>true | _=>false,s.cs.length)
def bL:List SA→SA
 | [s]=>s
 | ss=>⟨.tup (ss.map lV),ss.flatMap (·.cs)⟩
theorem qR (rs:List SA):(bL rs).er=oj (rs.map Sl.er):=by
 have key:∀ ss:List SA,(⟨.tup (ss.map lV),ss.flatMap (·.cs)⟩:SA).er=⟨.tup ((ss.map Sl.er).map fun s=>(match s.k with | .agg=>true | _=>false,s.cs.length)),(ss.map Sl.er).flatMap (·.cs)⟩:=by
  intro ss;have h1:(ss.map Sl.er).map (fun s=>((match s.k with | .agg=>true | _=>false:Bool),s.cs.length))=ss.map lV:=by
   rw[List.map_map];refine List.map_congr_left fun s _=>?_
   obtain ⟨k,cs⟩:=s
   cases k<;>simp[lV,Sl.er,Kd.er]
  rw[h1];simp only[Sl.er,Kd.er]
  congr 1
  clear h1;induction ss with
  | nil=>rfl
  | cons s ss ih=>
   simp only[List.flatMap_cons,List.map_append,List.map_cons,ih];rfl
 match rs with
 | []=>rfl
 | [s]=>rfl
 | s::s'::ss=>exact key (s::s'::ss)
theorem qQ (rs:List SA):(bL rs).cs=rs.flatMap (·.cs):=by
 match rs with
 | []=>rfl
 | [s]=>simp[bL]
 | s::s'::ss=>rfl
theorem kG:∀ {ss:List SA},(∀ s∈ss,(s.k= .val∧∃ c,s.cs=[c])∨s.k= .agg)→kj (ss.map lV) ((ss.flatMap (·.cs)).map (·.v.val E.sid))=ss.map (bm E.sid)
 | [],_=>rfl
 | s::ss,h=>by
  have ih:=kG (ss:=ss) (fun s hs=>h s (List.mem_cons_of_mem _ hs))
  simp only[List.map_cons,List.flatMap_cons,List.map_append];have hl:(s.cs.map (·.v.val E.sid)).length=s.cs.length:=by simp
  rcases h s (List.mem_cons_self ..) with ⟨hk,c,hc⟩ | hk
  ·simp only[lV,hk,kj,hc,bm,List.map_cons,List.map_nil,List.length_cons,List.length_nil,Bool.false_eq_true,if_false,List.cons_append,List.nil_append,List.head?_cons,Option.getD_some,List.cons.injEq,true_and]
   exact ih
  ·simp only[lV,hk,kj,bm,if_true];rw[List.take_left' hl,List.drop_left' hl];simp only[List.cons.injEq,true_and];exact ih
theorem yd (h:Inv E S X C a w) (hb:E.base≤w.heap.size) {E':Env} (hsid:E'.sid=E.sid) (hbase:E'.base=w.heap.size) (hg:Grow w w') {args:List SA} {ret:Ret} {v:Value} {rs:List SA} {outs:List A} {C':Nat→Nat→Prop} (hl:Leave E' w w' args ret v rs outs C')
  (hno:(∀ b j,C' b j→E'.base≤b∨C b j)∨∀ s∈rs,∀ x∈s.cs,x.f≠ .no):
  ∃ C1,Made E S X C1 a w' (bL rs) v∧(∀ b j,C b j→C1 b j):=by
 have hcellsOwn:∀ b,((bL rs).cs.flatMap Cell.own).count b≤(rs.flatMap Sl.own).count b:=by
  intro b;rw[qQ];clear hl hno;induction rs with
  | nil=>simp
  | cons s rs ih=>
   have h1:s.own.count b=s.boxOwn.count b+(s.cs.flatMap Cell.own).count b:=by unfold Sl.own;rw[List.count_append]
   simp only[List.flatMap_cons,List.flatMap_append,List.count_append];omega
 have hmem:∀ x∈(bL rs).cs,∃ s∈rs,x∈s.cs:=by
  intro x hx;rw[qQ] at hx;exact List.mem_flatMap.1 hx
 have hcok:∀ x∈(bL rs).cs,∀ X',COk E w' (fun b j=>C b j∨(C' b j∧w.heap.size≤b)) S X' x∧∀ p q k,x.f≠ .ap p q k:=by
  intro x hx X';obtain ⟨s,hs,hxs⟩:=hmem x hx
  have hk:=hl.cells s hs x hxs;have hfl:=hl.flags s hs x hxs;have hshp:∀ {g:Bool} {v:A},Shp' E'.sid w' C' g v→(∀ b∈v.blks,E'.base≤b)→Shp' E.sid w' (fun b j=>C b j∨(C' b j∧w.heap.size≤b)) g v:=by
   intro g v hs' hbb;rw[hsid] at hs';refine hs'.world (fun _ _=>rfl) (fun b hb j hj=>?_)
   rcases hj with hj | hj
   ·have:=h.clt b j hj
    have:=hbb b hb
    omega
   ·exact hj.1
  have hno':x.f= .no→∀ b j,C' b j→C b j∨(C' b j∧w.heap.size≤b):=by
   intro hf b j hj;rcases hno with hno | hno
   ·rcases hno b j hj with h1 | h1
    ·exact .inr ⟨hj,by omega⟩
    ·exact .inl h1
   ·exact absurd hf (hno s hs x hxs)
  obtain ⟨v,f⟩:=x
  rcases hfl with hf | hf | ⟨g,hf⟩ | hf
  ·simp only at hf;subst hf;exact ⟨hk,by simp⟩
  ·simp only at hf;subst hf;exact ⟨hk,by simp⟩
  ·simp only at hf;subst hf;exact ⟨⟨hk.1,hshp hk.2.1 hk.2.2,fun b hb'=>Nat.le_trans hb (by have:=hk.2.2 b hb';omega)⟩,by simp⟩
  ·simp only at hf;subst hf;refine ⟨⟨hk.1,?_⟩,by simp⟩
   have h2:=hk.2;rw[hsid] at h2;exact h2.mono (hno' rfl) (fun _ _ _=>rfl)
 have hinv:Inv E S ((bL rs).cs++X) (fun b j=>C b j∨(C' b j∧w.heap.size≤b)) a w':=by
  refine h.gain hg (fun b j hj=>⟨hj.2,hl.clt b j hj.1⟩) hb (fun x hx=>hcok x hx _) (fun b=>?_) (fun b hb'=>?_)
  ·have:=hcellsOwn b
   have:=hl.cnt b
   omega
  ·have h1:=List.count_pos_iff.2 hb';have h2:=hcellsOwn b;have:=hl.own b (List.count_pos_iff.1 (by omega))
   rw[hbase] at this;exact this
 have hkn:∀ t,(bL rs).k= .box t→∃ s,rs=[s]∧s.k= .box t:=by
  intro t ht
  match rs with
  | []=>simp[bL] at ht
  | [s]=>exact ⟨s,rfl,ht⟩
  | s::s'::ss=>simp[bL] at ht
 refine ⟨_,⟨hinv,fun hnb=>?_,fun t ht=>?_,fun t src ix ht=>?_,fun hk=>?_⟩,fun _ _=> .inl⟩
 ·have hv:=hl.val;rw[hsid] at hv
  match rs,hl,hnb with
  | [],hl,_=>exact hv
  | [s],hl,hnb=>
   rcases hl.kinds s (by simp) with ⟨hk,c,hc⟩ | hk | ⟨⟨t,hk⟩,_⟩
   ·show SlV E.sid S s v;unfold SlV;rw[hk];exact ⟨c,hc,by rw[hv];simp[gY,bm,hk,hc]⟩
   ·show SlV E.sid S s v;unfold SlV;rw[hk];simp only[hv,gY,bm,hk]
   ·exact absurd hk (hnb t)
  | s::s'::ss,hl,_=>
   have hks:∀ q∈s::s'::ss,(q.k= .val∧∃ c,q.cs=[c])∨q.k= .agg:=by
    intro q hq;rcases hl.kinds q hq with h1 | h1 | ⟨_,h1,_⟩
    ·exact .inl h1
    ·exact .inr h1
    ·simp at h1
   show v=_;rw[hv];simp only[gY,bL,kG hks]
 ·obtain ⟨s,rfl,hk⟩:=hkn t ht
  obtain ⟨⟨b,T,q1,q2,q3,q4⟩,hbb⟩:=hl.box s (by simp) t hk
  have hb':=hbb b q1;rw[hbase] at hb';have hbin:b∈s.own:=by
   unfold Sl.own;exact List.mem_append.2 (.inl (by simp[Sl.boxOwn,hk,q1]))
  have hblt:=hl.own b (by simpa using hbin)
  refine ⟨⟨b,T,q1,by rw[←hsid];exact q2,fun j hj=>?_, .inl (Nat.le_trans hb hb')⟩,b,q1,?_,?_,Nat.le_trans hb hb',hblt.2,fun j hj=>?_,?_⟩
  ·rcases hj with hj | hj
   ·have:=h.clt b j hj;omega
   ·exact q3 j hj.1
  ·rw[hl.val];simp[gY,bm,hk,q1]
  ·intro hm;simp only[aA,bL,List.flatMap_append,List.mem_append] at hm;have hold:b∉aA S X:=fun hm=>by have:=(h.ownlt b hm).1;omega
   rcases hm with hm | hm | hm
   ·exact hold (List.mem_append.2 (.inl hm))
   ·have h1:=hl.cnt b;have h2:2≤([s].flatMap Sl.own).count b:=by
     simp only[List.flatMap_cons,List.flatMap_nil,List.append_nil];unfold Sl.own;rw[List.count_append];have e1:0 < s.boxOwn.count b:=List.count_pos_iff.2 (by simp[Sl.boxOwn,hk,q1])
     have e2:=List.count_pos_iff.2 hm;omega
    omega
   ·exact hold (List.mem_append.2 (.inr hm))
  ·have:=h.clt b j (h.olt b j hj);omega
  ·intro x hx p q r hxf y hy hyg;rcases List.mem_append.1 hx with hx | hx
   ·exact h.apBelow (by omega) x (List.mem_append.2 (.inl hx)) p q r hxf y hy hyg
   ·rcases List.mem_append.1 hx with hx | hx
    ·exact absurd hxf ((hcok x hx []).2 p q r)
    ·exact h.apBelow (by omega) x (dT hx) p q r hxf y hy hyg
 ·exfalso
  match rs,hl,ht with
  | [],_,ht=>simp[bL] at ht
  | [s],hl,ht=>
   have ht:s.k= .ept t src ix:=ht;rcases hl.kinds s (by simp) with ⟨hk,_⟩ | hk | ⟨⟨t,hk⟩,_⟩<;>rw[hk] at ht<;>simp at ht
  | s::s'::ss,_,ht=>simp[bL] at ht
 ·exfalso
  match rs,hl,hk with
  | [],_,hk=>simp[bL] at hk
  | [s],hl,hk=>
   have hk:s.k= .dead∨s.k= .und∨(∃ r o,s.k= .ptr r o)∨∃ g rs,s.k= .clo g rs:=hk;rcases hl.kinds s (by simp) with ⟨hk',_⟩ | hk' | ⟨⟨t,hk'⟩,_⟩<;>rw[hk'] at hk<;>simp at hk
  | s::s'::ss,_,hk=>simp[bL] at hk
end
end Go.Vm
end
section
namespace Go.Vm
section
variable {E:Env} {cx:Cx} {S:StA} {X:List (Cell Tg)} {C:Nat→Nat→Prop} {a:Act} {w w':World}
def kH (E:Env) (X:List (Cell Tg)) (a:Act) (w:World) (o:Oper) (s:SU) (st1:St):Prop:=
 ∃ f args,(execOp a.eval o).run E.P w= .ok (.enter f args) w∧
  Calls E.P f args w fun e w'=>∃ v S1 C1 sA,e= .returned v∧erS S1=st1∧sA.er=s∧Made E S1 X C1 a w' sA v∧Frame E w w'
def Kh (E:Env) (X:List (Cell Tg)) (a:Act) (w:World) (o:Oper) (s:SU) (st1:St):Prop:=dK E X a w o s st1∨kH E X a w o s st1
theorem B6 (h:Inv E S X C a w) {b:Nat} (hb:pV S b):b < w.heap.size:=by
 obtain ⟨i,s,t,hs,hk,hta⟩:=hb
 obtain ⟨b',T,q1,q2,_⟩:=h.box i s t hs hk
 rw[hta] at q1;simp only[Option.some.injEq,Addr.mk.injEq,and_true] at q1;subst q1;exact (Array.getElem?_eq_some_iff.1 q2).1
theorem sT {E':Env} {args:List SA} {ret:Ret} {v:Value} {rs:List SA} {outs:List A} {C':Nat→Nat→Prop} (hl:Leave E' w w' args ret v rs outs C') (hbase:E'.base=w.heap.size) (hchg:∀ b,¬E'.chg b) (hb:E.base≤w.heap.size):
  Grow w w'∧Frame E w w':=by
 have hg:Grow w w':=⟨hl.frame.size,fun b hbl=>hl.frame.block b (by rw[hbase];exact hbl) (hchg b)⟩
 exact ⟨hg,hl.frame.os,hl.frame.tape,hl.frame.output,hl.frame.size,fun b hbl _=>hg.block b (Nat.lt_of_lt_of_le hbl hb)⟩
theorem nZ {orac:dH} (hf:Fits E cx) (h:Inv E S X C a w) (hrd:∀ (i:Nat) (s:SA),S[i]?=some s→∀ x∈s.cs,x.f≠ .dd→(∀ p q r,x.f≠ .ap p q r)→Rd E.sid w C x.v) (hb:E.base≤w.heap.size) (hO:∀ g,dG E.P E.sid orac g)
  {os:List Operand} {xs:List Opd} (hc:bU (bj cx) os=some xs) {capsA:List A} (hp:∀ c∈capsA,∃ t cs,c= .ptr t cs) (hcr:∀ c∈capsA,Rd E.sid w (fun b j=>C b j∨pV S b) c)
  {g:Nat} {s:SU} {st1:St} (hr:(dn orac g xs (erL capsA)).run (erS S)=some (s,st1)):
  st1=erS S∧(callFunc (E.sid g) (os.map a.eval++capsA.map gQ).toArray).run E.P w= .ok (.enter (E.sid g) (os.map a.eval++capsA.map gQ).toArray) w∧
   Calls E.P (E.sid g) (os.map a.eval++capsA.map gQ).toArray w fun e w'=>∃ v C1 sA,e= .returned v∧sA.er=s∧Made E S X C1 a w' sA v∧Frame E w w':=by
 unfold dn at hr;obtain ⟨as,st2,h1,h2⟩:=FM.bind_some hr
 clear hr;obtain ⟨rfl,zs,rfl,e2,e3,e4⟩:=ov hf h hrd os hc 0 h1
 split at h2
 ·rename_i rs hor;split at h2
  ·rename_i hflag;obtain ⟨rfl,rfl⟩:=au h2
   refine ⟨rfl,?_⟩
   have her:(zs++gj capsA).map Sl.er=zs.map Sl.er++kK (erL capsA):=by rw[List.map_append,Ca]
   have hvals:((zs++gj capsA).map (bm E.sid))=os.map a.eval++capsA.map gQ:=by rw[List.map_append,e3,zP capsA hp]
   rw[←her] at hor;obtain ⟨old,hold,holdlt,hread,hno⟩:∃ old:Nat→Nat→Prop,(∀ b j,C b j→old b j)∧(∀ b j,old b j→b < w.heap.size)∧
     (∀ (i:Nat) (z:SA),(zs++gj capsA)[i]?=some z→∀ (c:Nat) (x:Cell Tg),z.cs[c]?=some x→Rd E.sid w old x.v)∧((∀ b j,old b j→C b j)∨rs.all wF=true):=by
    cases hfl:((zs.map Sl.er).all jB&&(erL capsA).isEmpty) with
    | true=>
     simp only[Bool.and_eq_true,List.all_map,List.all_eq_true,List.isEmpty_iff] at hfl;have hcn:capsA=[]:=by
      have:=hfl.2
      rw[il,List.map_eq_nil_iff] at this;exact this
     subst hcn;refine ⟨C,fun _ _=>id,h.clt,fun i z hz c x hx=>?_, .inl fun _ _=>id⟩
     have hz:zs[i]?=some z:=by simpa [gj] using hz
     obtain ⟨⟨v,ha⟩,_⟩:=e4 i z hz
     exact (ha.src c x hx).2 (hfl.1 z (List.mem_of_getElem? hz))
    | false=>
     rw[hfl] at hflag;refine ⟨fun b j=>C b j∨pV S b,fun _ _=> .inl,fun b j hj=>hj.elim (h.clt b j) (B6 h),fun i z hz c x hx=>?_, .inr (by simpa using hflag)⟩
     rw[List.getElem?_append] at hz
     split at hz
     ·obtain ⟨⟨v,ha⟩,_⟩:=e4 i z hz
      exact (ha.src c x hx).1
     ·simp only[gj,List.getElem?_map,Option.map_eq_some_iff] at hz
      obtain ⟨p,hp',rfl⟩:=hz
      cases c with
      | zero=>
       simp only[List.getElem?_cons_zero,Option.some.injEq] at hx
       subst hx;exact hcr p (List.mem_of_getElem? hp')
      | succ c=>simp at hx
   have hentry:Entry (iL E w old (zs++gj capsA)) w (zs++gj capsA):=by
    refine sO holdlt (fun i z hz=>?_)
    have hz0:=hz;rw[List.getElem?_append] at hz
    split at hz
    ·obtain ⟨⟨v,ha⟩,hm⟩:=e4 i z hz
     exact ⟨ha.kind,by rw[Nat.zero_add] at hm;exact hm,hread i z hz0⟩
    ·simp only[gj,List.getElem?_map,Option.map_eq_some_iff] at hz
     obtain ⟨p,hp',rfl⟩:=hz
     refine ⟨.inl ⟨rfl,_,rfl⟩,fun E' hs' hE hpar c x hx=>?_,hread i _ hz0⟩
     have h1:=hE c x hx;cases c with
     | zero=>
      simp only[List.getElem?_cons_zero,Option.some.injEq] at hx
      subst hx;exact ⟨by show Rd E'.sid w E'.old _;rw[hs'];exact h1, .inr (.inr (.inl rfl))⟩
     | succ c=>simp at hx
   obtain ⟨k1,k2⟩:=hO g (iL E w old (zs++gj capsA)) w (zs++gj capsA) _ rfl rfl hentry hor
   rw[hvals] at k1 k2;refine ⟨k1,Calls.mono k2 ?_⟩
   rintro e w' ⟨v,rsA,outs,C',he,hl⟩
   obtain ⟨hg,hfr⟩:=sT (E:=E) hl rfl (fun _=>id) hb
   obtain ⟨C1,hm,_⟩:=yd (E':=iL E w old (zs++gj capsA)) h hb rfl rfl hg hl (by
    rcases hno with hno | hno
    ·refine .inl fun b j hj=>?_
     rcases hl.cbase b j hj with h1 | h1 | h1
     ·exact .inl h1
     ·exact .inr (hno b j h1)
     ·exact h1.elim
    ·refine .inr fun s hs x hx e=>?_
     have hs':s.er∈rs:=by
      have:=List.mem_map_of_mem (f:=Sl.er) hs
      rw[hl.er] at this;exact this
     have:=List.all_eq_true.1 hno s.er hs'
     simp only[wF,aP,List.all_map,List.all_eq_true,Function.comp] at this;have:=this x hx
     simp[Cell.er,e] at this)
   exact ⟨v,C1,bL rsA,he,by rw[qR,hl.er],hm,hfr⟩
  ·exact (aM h2).elim
 ·exact (aM h2).elim
theorem nM {o:Oper} {k:Call} {f:Operand} (ho:o.op= .call k) (hk:k.callee= .value f) {fn:FuncId} {caps:Array Value} (hv:a.eval f= .func (.func fn) #[] caps):
  execOp a.eval o=callFunc fn (k.args.map a.eval++caps):=by
 unfold execOp;rw[ho];simp[resolve,hk,Deferred.ofValue,hv,invoke]
theorem Au (hf:Fits E cx) {f g:Nat} (hg:cx.canon f=some g):a.eval (.func f)= .func (.func (E.sid g)) #[] #[]:=by
 rw[hf.fn f g hg];rfl
theorem uo {orac:dH} (hf:Fits E cx) (h:Inv E S X C a w) (hb:E.base≤w.heap.size) (hO:∀ g,dG E.P E.sid orac g) {o:Oper} {k:Call} (ho:o.op= .call k) {f g:Nat} (hk:k.callee= .value (.func f)) (hg:cx.canon f=some g) {xs:List Opd} (hc:bU (bj cx) k.args.toList=some xs)
  {s:SU} {st1:St} (hr:(dn orac g xs []).run (erS S)=some (s,st1)):kH E X a w o s st1:=by
 obtain ⟨C1,h1,_,hrd⟩:=zk h
 obtain ⟨rfl,k1,k2⟩:=nZ hf h1 hrd hb hO hc (capsA:=[]) (by simp) (by simp) hr
 have hex:=nM (a:=a) ho hk (Au hf hg);simp only[List.map_nil,List.append_nil] at k1 k2;have hargs:(k.args.map a.eval++#[])=(k.args.toList.map a.eval).toArray:=by rw[←Array.toList_inj];simp
 rw[hargs] at hex;refine ⟨_,_,by rw[hex];exact k1,Calls.mono k2 ?_⟩
 rintro e w' ⟨v,C2,sA,h1,h2,h3,h4⟩
 exact ⟨v,S,C2,sA,h1,rfl,h2,h3,h4⟩
theorem yY {orac:dH} {modes:bO} (hf:Fits E cx) (h:Inv E S X C a w) (hb:E.base≤w.heap.size) (hO:∀ g,dG E.P E.sid orac g) {o:Oper} {k:Call} (ho:o.op= .call k) {of:Operand} (hk:k.callee= .value of) {xf:Opd} (hxf:bj cx of=some xf) {xs:List Opd} (hc:bU (bj cx) k.args.toList=some xs)
  {s:SU} {st1:St} (hr:(cY orac modes cx.nt (.callv xf xs)).run (erS S)=some (s,st1)):kH E X a w o s st1:=by
 unfold cY at hr;obtain ⟨sl,st2,h1,h2⟩:=FM.bind_some hr
 clear hr;obtain ⟨C1,hi,_,hrd⟩:=zk h
 obtain ⟨rfl,s0,rfl,hop⟩:=da hf hi hxf h1
 have fin:∀ {g:Nat} {capsA:List A},a.eval of= .func (.func (E.sid g)) #[] (capsA.map gQ).toArray→(∀ c∈capsA,∃ t cs,c= .ptr t cs)→(∀ c∈capsA,Rd E.sid w (fun b j=>C1 b j∨pV S b) c)→
   (dn orac g xs (erL capsA)).run (erS S)=some (s,st1)→kH E X a w o s st1:=by
  intro g capsA hv hp hcr hr;obtain ⟨rfl,k1,k2⟩:=nZ hf hi hrd hb hO hc hp hcr hr
  have hex:=nM (a:=a) ho hk hv;have hargs:(k.args.map a.eval++(capsA.map gQ).toArray)=(k.args.toList.map a.eval++capsA.map gQ).toArray:=by rw[←Array.toList_inj];simp
  rw[hargs] at hex;refine ⟨_,_,by rw[hex];exact k1,Calls.mono k2 ?_⟩
  rintro e w' ⟨v,C2,sA,h1,h2,h3,h4⟩
  exact ⟨v,S,C2,sA,h1,rfl,h2,h3,h4⟩
 split at h2
 ·rename_i g caps hk0 hcs;split at h2
  ·exact (aM h2).elim
  ·have hkv:s0.k= .val:=by
    rw[bg] at hk0;cases hk':s0.k<;>rw[hk'] at hk0<;>simp[Kd.er] at hk0 ⊢
   obtain ⟨z,hz,hzer⟩:∃ z:Cell Tg,s0.cs=[z]∧z.er=⟨.fn g caps, .sh⟩:=by
    rw[aP] at hcs;cases hs:s0.cs with
    | nil=>rw[hs] at hcs;simp at hcs
    | cons q r=>cases r with
     | nil=>rw[hs] at hcs;simp at hcs;exact ⟨q,rfl,hcs⟩
     | cons q' r=>rw[hs] at hcs;simp at hcs
   obtain ⟨vz,fz⟩:=z
   simp only[Cell.er,Cell.mk.injEq] at hzer;obtain ⟨hver,rfl⟩:=hzer
   obtain ⟨capsA,rfl,hcaps⟩:∃ capsA,vz= .fn g capsA∧erL capsA=caps:=by
    cases vz with
    | fn g' c=>
     simp only[VA.er,VA.fn.injEq] at hver;obtain ⟨rfl,hver⟩:=hver
     exact ⟨c,rfl,hver⟩
    | _=>simp[VA.er] at hver
   have hzz:Rd E.sid w C1 (.fn g capsA)∧a.eval of= .func (.func (E.sid g)) #[] (capsA.map gQ).toArray:=by
    cases hop with
    | slot q s2 hq hs hv=>
     refine ⟨hrd q s0 hs _ (by rw[hz];exact List.mem_singleton.2 rfl) (by simp) (by simp),?_⟩
     unfold SlV at hv;rw[hkv] at hv;obtain ⟨z',hz',hv⟩:=hv
     rw[hz] at hz';simp at hz';subst hz';exact hv
    | const agg vs s2 hk he hok hv h1'=>
     have h3:=(hok _ (by rw[hz];exact List.mem_singleton.2 rfl)).1
     refine ⟨Rd.mono h3 hi.olt (fun _ _ _=>rfl),?_⟩
     cases agg with
     | true=>rw[hk] at hkv;simp at hkv
     | false=>rw[hv,hz];simp[VA.val]
    | fn g' hv=>
     simp only[List.cons.injEq,Cell.mk.injEq,VA.fn.injEq,and_true] at hz;obtain ⟨rfl,rfl⟩:=hz
     exact ⟨.fn _ [] (by simp) (by simp),by rw[hv];rfl⟩
   obtain ⟨hzr,hzv⟩:=hzz
   rw[←hcaps] at h2;cases hzr with
   | fn _ _ hp hrc=>exact fin hzv hp (fun c hc=>(hrc c hc).mono (fun _ _=> .inl) (fun _ _ _=>rfl)) h2
 ·rename_i g roots hk0;split at h2
  ·exact (aM h2).elim
  ·have hkv:s0.k= .clo g roots:=by
    rw[bg] at hk0;cases hk':s0.k<;>rw[hk'] at hk0<;>simp[Kd.er] at hk0 ⊢
    exact hk0
   obtain ⟨ps,st3,h3,h4⟩:=FM.bind_some h2
   obtain ⟨rfl,psA,e2,e3,e4,e5⟩:=mD hi hrd roots h3
   have hv:a.eval of= .func (.func (E.sid g)) #[] (psA.map gQ).toArray:=by
    cases hop with
    | slot i s hi hs hv=>unfold SlV at hv;rw[hkv] at hv;rw[e3];exact hv.2
    | const agg vs s hk he hok hv h1'=>cases agg<;>rw[hk] at hkv<;>simp at hkv
    | fn g hv=>simp at hkv
   rw[←e2] at h4;exact fin hv e4 e5 h4
 ·exact (aM h2).elim
end
end Go.Vm
end
