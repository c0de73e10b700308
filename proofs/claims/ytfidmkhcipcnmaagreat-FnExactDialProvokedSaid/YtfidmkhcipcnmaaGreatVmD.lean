/- The value machine, part 4: code read as work on values, and its soundness over memory. -/
import Derived.Test.YtfidmkhcipcnmaaGreatVmC
set_option maxHeartbeats 4000000
set_option maxRecDepth 10000
set_option linter.unusedVariables false
set_option linter.unusedSimpArgs false
section
namespace Go.Vm
def fG:List A→List (Cell Tg)→List (Cell Tg)
 | v::vs,x::xs=>(if scal x.v then ⟨v, .sc⟩ else x)::fG vs xs
 | _,_=>[]
theorem vI:∀ {vs:List A} {xs:List (Cell Tg)} {cs:List (Cell Unit)},pO (vs.map VA.er) (xs.map Cell.er)=some cs→(fG vs xs).map Cell.er=cs
 | [],[],cs,h=>by simp only[List.map_nil,pO,Option.some.injEq] at h;subst h;rfl
 | [],x::xs,cs,h=>by simp[pO] at h
 | v::vs,[],cs,h=>by simp[pO] at h
 | v::vs,x::xs,cs,h=>by
  simp only[List.map_cons,pO] at h;split at h
  ·rename_i r hr;simp only[Option.some.injEq] at h;subst h;simp only[fG,List.map_cons,vI hr,Cell.er,nT]
   congr 1
   split<;>rfl
  ·cases h
theorem jG:∀ {vs:List A} {xs:List (Cell Tg)},vs.length=xs.length→∀ (c:Nat) (y:Cell Tg),(fG vs xs)[c]?=some y→∃ v x,vs[c]?=some v∧xs[c]?=some x∧y=if scal x.v then ⟨v, .sc⟩ else x
 | [],[],_,c,y,h=>by simp[fG] at h
 | [],x::xs,hl,c,y,h=>by simp at hl
 | v::vs,[],hl,c,y,h=>by simp at hl
 | v::vs,x::xs,hl,c,y,h=>by
  simp only[fG] at h;cases c with
  | zero=>exact ⟨v,x,rfl,rfl,by simpa using h.symm⟩
  | succ c=>exact jG (by simpa using hl) c y (by simpa using h)
theorem oS:∀ {vs:List A} {xs:List (Cell Tg)},vs.length=xs.length→(fG vs xs).length=xs.length
 | [],[],_=>rfl
 | [],x::xs,hl=>by simp at hl
 | v::vs,[],hl=>by simp at hl
 | v::vs,x::xs,hl=>by simp only[fG,List.length_cons,oS (by simpa using hl:vs.length=xs.length)]
def iK (w:World) (b:Nat) (o:Obj):World:={ w with heap:=w.heap.setIfInBounds b o }
theorem CG {w:World} {b:Nat} {o:Obj} (h:b < w.heap.size):(iK w b o).heap[b]?=some o:=by simp[iK,h]
theorem qU {w:World} {b b':Nat} {o:Obj} (h:b'≠b):(iK w b o).heap[b']?=w.heap[b']?:=by
 have:b≠b':=fun e=>h e.symm
 simp[iK,this]
theorem gx (w:World) (b:Nat) (o:Obj):(iK w b o).heap.size=w.heap.size:=by simp[iK]
section
variable {E:Env} {cx:Cx} {S:StA} {X:List (Cell Tg)} {C:Nat→Nat→Prop} {a:Act} {w w':World}
def ko (E:Env) (w:World) (old:Nat→Nat→Prop) (args:List SA) (b0:Nat):Env:={ iL E w old args with chg:=fun b=>b=b0 }
theorem Cv {s:SA} {v:Value} (h:ArgOk E S C w v s) (hn:jB s.er=true) (c:Nat) (x:Cell Tg) (hx:s.cs[c]?=some x):Rd E.sid w C x.v:=(h.src c x hx).2 hn
theorem v6 {orac:dH} (hf:Fits E cx) (h:Inv E S X C a w) (hrd:∀ (i:Nat) (s:SA),S[i]?=some s→∀ x∈s.cs,x.f≠ .dd→(∀ p q r,x.f≠ .ap p q r)→Rd E.sid w C x.v) (hb:E.base≤w.heap.size) (hO:∀ g,dG E.P E.sid orac g)
  {os:List Operand} {xs:List Opd} (hc:bU (bj cx) os=some xs) {r:Nat} {o1:SA} (ho1:S[r]?=some o1)
  {g:Nat} {s:SU} {st1:St} (hr:(gB orac g xs r o1.er).run (erS S)=some (s,st1)):
  (callFunc (E.sid g) (.pointer (aL S r)::os.map a.eval).toArray).run E.P w= .ok (.enter (E.sid g) (.pointer (aL S r)::os.map a.eval).toArray) w∧
   Calls E.P (E.sid g) (.pointer (aL S r)::os.map a.eval).toArray w fun e w'=>∃ v S1 C1 sA,e= .returned v∧erS S1=st1∧sA.er=s∧Made E S1 X C1 a w' sA v∧Frame E w w':=by
 unfold gB at hr;split at hr
 ·rename_i tu hk;have hk':∃ t,o1.k= .box t:=by
   rw[bg] at hk;cases hk':o1.k<;>rw[hk'] at hk<;>simp[Kd.er] at hk ⊢
  obtain ⟨t,hk'⟩:=hk'
  split at hr
  ·rename_i hplain;obtain ⟨b',st2,h1,h2⟩:=FM.bind_some hr
   clear hr;obtain ⟨h3,rfl⟩:=ip h1
   obtain ⟨as,st3,h4,h5⟩:=FM.bind_some h2
   clear h2;obtain ⟨rfl,zs,rfl,e2,e3,e4⟩:=ov hf h hrd os hc 1 h4
   split at h5
   ·exact (aM h5).elim
   ·rename_i hcaps;split at h5
    ·rename_i rs cs hor;obtain ⟨cs',st4,h6,h7⟩:=FM.bind_some h5
     clear h5;obtain ⟨h8,rfl⟩:=ip h6
     obtain ⟨un,st5,h9,h10⟩:=FM.bind_some h7
     clear h7;obtain ⟨_,rfl⟩:=fH h9
     obtain ⟨rfl,rfl⟩:=au h10
     unfold zw at h3;rw[Option.map_eq_some_iff] at h3;obtain ⟨bcs,hbcs,rfl⟩:=h3
     rw[aP] at hbcs;obtain ⟨a1,a2⟩:=mw hbcs
     obtain ⟨b0,T1,q1,q2,q3,q4⟩:=h.box r o1 t ho1 hk'
     have hb0lt:b0 < w.heap.size:=(Array.getElem?_eq_some_iff.1 q2).1
     have hba:aL S r=t.a:=by
      unfold aL;rw[ho1];obtain ⟨k,cs⟩:=o1
      simp only at hk';subst hk';rfl
     have hplain':∀ x∈o1.cs,aN x.f=false:=by
      intro x hx;have:=List.all_eq_true.1 hplain x.er (by rw[aP];exact List.mem_map_of_mem hx)
      obtain ⟨v,f⟩:=x
      cases f<;>simp_all[qL,Cell.er,aN]
     simp only[Bool.not_eq_true',Bool.not_eq_false,List.all_map,List.all_eq_true] at hcaps;have hcaps:∀ z∈zs,jB z.er=true:=by simpa using hcaps
     have hargs:((⟨.box t,ba 0 0 o1.cs⟩:SA)::zs).map Sl.er=(⟨.box (),bcs⟩:SU)::zs.map Sl.er:=by simp[Sl.er,Kd.er,a1]
     rw[←hargs] at hor;have hvals:((⟨.box t,ba 0 0 o1.cs⟩:SA)::zs).map (bm E.sid)= .pointer (aL S r)::os.map a.eval:=by
      simp[bm,hba,e3]
     have hget0:∀ (c:Nat) (x:Cell Tg),(ba 0 0 o1.cs)[c]?=some x→∃ x0,o1.cs[c]?=some x0∧x=bE 0 c x0:=by
      intro c x hx;rw[ij,Option.map_eq_some_iff] at hx;obtain ⟨x0,hx0,rfl⟩:=hx
      exact ⟨x0,hx0,by rw[Nat.zero_add]⟩
     have harg0:∀ x∈ba 0 0 o1.cs,COk (ko E w C (⟨.box t,ba 0 0 o1.cs⟩::zs) b0) w C [] [] x∧(x.f= .sc∨(∃ i j,x.f= .sp i j)∨x.f= .sh∨x.f= .nl):=by
      intro x hx;obtain ⟨c,hcx⟩:=List.mem_iff_getElem?.1 hx
      obtain ⟨x0,hx0,rfl⟩:=hget0 c x hcx
      have hm:=List.mem_of_getElem? hx0;refine ri (E:=E) (E':=ko E w C (⟨.box t,ba 0 0 o1.cs⟩::zs) b0) rfl (h.cells r o1 ho1 x0 hm) (a2 x0 hm).1 (a2 x0 hm).2 (hrd r o1 ho1 x0 hm (a2 x0 hm).1 (a2 x0 hm).2) (fun _=>?_)
      show ((((⟨.box t,ba 0 0 o1.cs⟩:SA)::zs)[0]?).bind fun s=>s.cs[c]?).map (·.v)=some x0.v
      simp[hcx,gO]
     have hargz:∀ s∈zs,(∀ t,s.k≠ .box t)∧∀ x∈s.cs,COk (ko E w C (⟨.box t,ba 0 0 o1.cs⟩::zs) b0) w C [] [] x∧(x.f= .sc∨(∃ i j,x.f= .sp i j)∨x.f= .sh∨x.f= .nl):=by
      intro s hs;obtain ⟨i,hi⟩:=List.mem_iff_getElem?.1 hs
      obtain ⟨⟨v,ha⟩,hm⟩:=e4 i s hi
      refine ⟨fun t=>by rcases ha.kind with ⟨h,_⟩ | h<;>rw[h]<;>simp,fun x hx=>?_⟩
      obtain ⟨c,hcx⟩:=List.mem_iff_getElem?.1 hx
      refine hm (ko E w C (⟨.box t,ba 0 0 o1.cs⟩::zs) b0) rfl (fun c x hx=>Cv ha (hcaps s hs) c x hx) (fun c x hx=>?_) c x hcx
      show ((((⟨.box t,ba 0 0 o1.cs⟩:SA)::zs)[1+i]?).bind fun s=>s.cs[c]?).map (·.v)=some x.v
      rw[Nat.add_comm,List.getElem?_cons_succ,hi]
      simp[hx]
     have hown:((⟨.box t,ba 0 0 o1.cs⟩:SA)::zs).flatMap Sl.own=[b0]:=by
      have h1:zs.flatMap Sl.own=[]:=by
       rw[List.flatMap_eq_nil_iff];intro s hs;refine iZ (hargz s hs).1 (fun x hx=>?_)
       rcases ((hargz s hs).2 x hx).2 with h | ⟨i,j,h⟩ | h | h<;>rw[h]<;>rfl
      have h2:(ba 0 0 o1.cs).flatMap Cell.own=[]:=by
       rw[List.flatMap_eq_nil_iff];intro x hx;have:aN x.f=false:=by rcases (harg0 x hx).2 with h | ⟨i,j,h⟩ | h | h<;>rw[h]<;>rfl
       simp[Cell.own,this]
      simp only[List.flatMap_cons,h1,List.append_nil];simp[Sl.own,Sl.boxOwn,q1,h2]
     have hentry:Entry (ko E w C (⟨.box t,ba 0 0 o1.cs⟩::zs) b0) w (⟨.box t,ba 0 0 o1.cs⟩::zs):=by
      refine ⟨rfl,fun i s hs=>?_,fun s hs x hx=>?_,fun s hs x hx=>?_,fun s hs t' hk=>?_,fun b=>?_,fun b hb'=>?_,h.clt⟩
      ·cases i with
       | zero=>
        simp only[List.getElem?_cons_zero,Option.some.injEq] at hs
        subst hs;exact .inr (.inr ⟨rfl,t,rfl⟩)
       | succ i=>
        obtain ⟨⟨v,ha⟩,_⟩:=e4 i s (by simpa using hs)
        rcases ha.kind with h | h
        ·exact .inl h
        ·exact .inr (.inl h)
      ·have:x.f= .sc∨(∃ i j,x.f= .sp i j)∨x.f= .sh∨x.f= .nl:=by
        rcases List.mem_cons.1 hs with rfl | hs
        ·exact (harg0 x hx).2
        ·exact ((hargz s hs).2 x hx).2
       rcases this with h | h | h | h
       ·exact .inl h
       ·exact .inr (.inl h)
       ·exact .inr (.inr (.inl h))
       ·exact .inr (.inr (.inr (.inl h)))
      ·rcases List.mem_cons.1 hs with rfl | hs
       ·exact (harg0 x hx).1
       ·exact ((hargz s hs).2 x hx).1
      ·rcases List.mem_cons.1 hs with rfl | hs
       ·simp only[Kd.box.injEq] at hk;subst hk;exact ⟨b0,T1,q1,by rw[d9 (jL 0 o1.cs 0)];exact q2,q3, .inr rfl⟩
       ·exact absurd hk ((hargz s hs).1 t')
      ·rw[hown];by_cases e:b0=b
       ·subst e;simp
       ·rw[List.count_eq_zero.2]
        ·omega
        ·simpa using fun h=>e h.symm
      ·rw[hown,List.mem_singleton] at hb';subst hb';exact ⟨hb0lt,q3⟩
     obtain ⟨k1,k2⟩:=hO g (ko E w C (⟨.box t,ba 0 0 o1.cs⟩::zs) b0) w (⟨.box t,ba 0 0 o1.cs⟩::zs) _ rfl rfl hentry hor
     rw[hvals] at k1 k2;refine ⟨k1,Calls.mono k2 ?_⟩
     rintro e w' ⟨v,rsA,outs,C',he,hl⟩
     obtain ⟨arg,harg,t2,b2,T2,vs,l1,l2,l3,l4,l5,l6,l7⟩:=hl.left cs rfl
     simp only[List.head?_cons,Option.some.injEq] at harg
     subst harg;simp only[Kd.box.injEq] at l1;subst l1;rw[q1] at l2;simp only[Option.some.injEq,Addr.mk.injEq,and_true] at l2;subst l2;have l5:vs.length=o1.cs.length:=by
      rw[l5];have:=congrArg List.length (jL 0 o1.cs 0)
      simpa using this
     have l7:∀ (c:Nat) (x:Cell Tg) (v:A),o1.cs[c]?=some x→vs[c]?=some v→(scal x.v=true∧scal v=true)∨(scal x.v=false∧v.val E.sid=x.v.val E.sid):=by
      intro c x v hx hv;have:=l7 c (bE 0 c x) v (by show (ba 0 0 o1.cs)[c]?=_;rw[ij,hx,Nat.zero_add];rfl) hv
      rw[gO] at this;exact this
     have hcs':(fG vs o1.cs).map Cell.er=cs':=by
      refine vI ?_
      rw[l4];exact h8
     have hcsv:(fG vs o1.cs).map (·.v.val E.sid)=vs.map (VA.val E.sid):=by
      apply List.ext_getElem?;intro c;rw[List.getElem?_map,List.getElem?_map]
      cases hy:(fG vs o1.cs)[c]? with
      | none=>
       have:vs[c]?=none:=by
        rw[List.getElem?_eq_none_iff] at hy ⊢
        rw[oS l5] at hy;omega
       rw[this];rfl
      | some y=>
       obtain ⟨v',x,hv',hx,rfl⟩:=jG l5 c y hy
       rw[hv'];rcases l7 c x v' hx hv' with ⟨hs1,_⟩ | ⟨hs1,hs2⟩
       ·rw[hs1];rfl
       ·rw[hs1];simp only[Bool.false_eq_true,if_false,Option.map_some,hs2]
     have hw1:(iK w b0 (.cells (vs.map (VA.val E.sid)).toArray T2 (0,0))).heap[b0]?=some (.cells (vs.map (VA.val E.sid)).toArray T2 (0,0)):=CG hb0lt;have htail:Tail w (iK w b0 (.cells (vs.map (VA.val E.sid)).toArray T2 (0,0))) b0 0:=
      ⟨⟨_,_,T1,T2,q2,hw1,by simp[l5],by simp⟩,gx w b0 _,fun b hb'=>qU hb'⟩
     have hnew:∀ y∈fG vs o1.cs,COk E w C S X y∧aN y.f=false∧((∀ p q k,y.f≠ .ap p q k)∨y∈o1.cs):=by
      intro y hy;obtain ⟨c,hcy⟩:=List.mem_iff_getElem?.1 hy
      obtain ⟨v',x,hv',hx,rfl⟩:=jG l5 c y hcy
      rcases l7 c x v' hx hv' with ⟨hs1,hs2⟩ | ⟨hs1,_⟩
      ·rw[hs1];exact ⟨hs2,rfl, .inl (by simp)⟩
      ·rw[hs1];have hm:=List.mem_of_getElem? hx;exact ⟨h.cells r o1 ho1 x hm,hplain' x hm, .inr hm⟩
     have hi1:Inv E (S.set r ⟨.box t,fG vs o1.cs⟩) X C a (iK w b0 (.cells (vs.map (VA.val E.sid)).toArray T2 (0,0))):=by
      refine Inv.setBox (zs:=[]) h ho1 hk' q1 htail ⟨b0,T2,q1,by rw[hcsv];exact hw1,q3,q4⟩ (iY ho1 ?_ (fun b=>?_) (fun c x hx hxr=>?_) (fun c x hx=>?_)) (fun y hy=>⟨(hnew y hy).1,(hnew y hy).2.2⟩)
      ·simp[Sl.boxOwn,hk']
      ·have:(fG vs o1.cs).flatMap Cell.own=[]:=by
        rw[List.flatMap_eq_nil_iff];intro y hy;simp[Cell.own,(hnew y hy).2.1]
       rw[this];simp
      ·have hlt:c < (fG vs o1.cs).length:=by rw[oS l5];exact (List.getElem?_eq_some_iff.1 hx).1
       have hy:=List.getElem?_eq_getElem hlt
       obtain ⟨v',x',hv',hx',heq⟩:=jG l5 c _ hy
       rw[hx] at hx';obtain rfl:=Option.some.inj hx'
       have hsf:scal x.v=false:=by
        obtain ⟨v,f⟩:=x
        cases v<;>simp_all[aY,scal]
       rw[hsf] at heq;exact ⟨_,hy,by rw[heq];exact hxr⟩
      ·have hx:(fG vs o1.cs)[c]?=some x:=hx;obtain ⟨v',x',hv',hx',rfl⟩:=jG l5 c x hx
       rcases l7 c x' v' hx' hv' with ⟨hs1,_⟩ | ⟨hs1,_⟩
       ·rw[hs1];exact .inl ⟨by simp,by simp,by simp⟩
       ·rw[hs1];exact .inr hx'
     have hblk:∀ b,b < w.heap.size→w'.heap[b]?=(iK w b0 (.cells (vs.map (VA.val E.sid)).toArray T2 (0,0))).heap[b]?:=by
      intro b hbl;by_cases e:b=b0
      ·subst e;rw[hw1];exact l3
      ·rw[qU e];exact hl.frame.block b hbl e
     have hg:Grow (iK w b0 (.cells (vs.map (VA.val E.sid)).toArray T2 (0,0))) w':=by
      refine ⟨by rw[gx];exact hl.frame.size,fun b hbl=>hblk b (by rw[gx] at hbl;exact hbl)⟩
     have hl':Leave (ko E w C (⟨.box t,ba 0 0 o1.cs⟩::zs) b0) (iK w b0 (.cells (vs.map (VA.val E.sid)).toArray T2 (0,0))) w' (⟨.box t,ba 0 0 o1.cs⟩::zs) ⟨rs,[],some cs⟩ v rsA outs C':=
      { hl with frame:=⟨hl.frame.os,hl.frame.tape,hl.frame.output,by rw[gx];exact hl.frame.size,fun b hbl hn=>by
        rw[qU (fun e=>hn e)];exact hl.frame.block b hbl hn⟩ }
     obtain ⟨C1,hm,_⟩:=yd (E':=ko E w C (⟨.box t,ba 0 0 o1.cs⟩::zs) b0) hi1 (by rw[gx];exact hb) rfl (by rw[gx];rfl) hg hl' (.inl fun b j hj=>by
      rcases hl.cbase b j hj with h1 | h1 | h1
      ·exact .inl h1
      ·exact .inr h1
      ·exact absurd (h1▸hj) (l6 j))
     refine ⟨v,S.set r ⟨.box t,fG vs o1.cs⟩,C1,bL rsA,he,?_,by rw[qR,hl.er],hm,hl.frame.os,hl.frame.tape,hl.frame.output,hl.frame.size,fun b hbl hn=>?_⟩
     ·rw[fi]
      congr 1
      simp only[Sl.er,Kd.er,hcs']
     ·refine hl.frame.block b (Nat.lt_of_lt_of_le hbl hb) (fun e=>?_)
      have e:b=b0:=e;subst e;rcases q4 with q4 | q4
      ·omega
      ·exact hn q4
    ·exact (aM h5).elim
  ·exact (aM hr).elim
 ·exact (aM hr).elim
end
end Go.Vm
end
section
namespace Go.Vm
def ej:Ir→Bool
 | .assign _ | .clear | .store .. | .rstore .. | .call .. | .callv ..=>false
 | _=>true
theorem jk {cx:Cx} {k:Call} {ir:Ir} (h:uP cx k=some ir):
  (∃ f g xs,k.callee= .value (.func f)∧cx.canon f=some g∧bU (bj cx) k.args.toList=some xs∧ir= .call g xs)∨
  (∃ f xf xs,k.callee= .value f∧bj cx f=some xf∧bU (bj cx) k.args.toList=some xs∧ir= .callv xf xs)∨ej ir=true:=by
 unfold uP at h;split at h
 ·rename_i f as h1 h2;rw[Option.map_eq_some_iff] at h;obtain ⟨g,h3,rfl⟩:=h
  exact .inl ⟨f,g,as,h1,h3,h2,rfl⟩
 ·rename_i f as h3 h1 h2;rw[Option.map_eq_some_iff] at h;obtain ⟨xf,h4,rfl⟩:=h
  exact .inr (.inl ⟨f,xf,as,h1,h4,h2,rfl⟩)
 all_goals refine .inr (.inr ?_)
 ·split at h
  ·split at h<;>first | (simp only[Option.some.injEq] at h;subst h;rfl) | cases h
  ·cases h
 ·simp only[Option.some.injEq] at h;subst h;rfl
 ·simp only[Option.some.injEq] at h;subst h;rfl
 ·split at h
  ·split at h<;>first | (simp only[Option.some.injEq] at h;subst h;rfl) | cases h
  ·cases h
 ·cases h
theorem nF {cx:Cx} {inRow:Nat→Bool} {o:Oper} {ir:Ir} (h:cOp cx inRow o=some ir):
  (∃ ox x,o.op= .assign ox∧bj cx ox=some x∧ir= .assign x)∨((o.op= .assign (.const (.pointer none))∨o.op= .assign (.const .nilFunc))∧ir= .clear)∨
  (∃ t oa ox i x y,o.op= .store t oa ox∧cx.P.info? t=some i∧bj cx oa=some x∧bj cx ox=some y∧(ir= .rstore i.size x y∨ir= .store i.size x y))∨
  (∃ k,o.op= .call k∧uP cx k=some ir)∨ej ir=true:=by
 unfold cOp at h;split at h
 ·rw[Option.map_eq_some_iff] at h;obtain ⟨x,_,rfl⟩:=h
  exact .inr (.inr (.inr (.inr rfl)))
 ·rename_i ox ho;split at h
  ·simp only[Option.some.injEq] at h;exact .inr (.inl ⟨.inl ho,h.symm⟩)
  ·simp only[Option.some.injEq] at h;exact .inr (.inl ⟨.inr ho,h.symm⟩)
  ·rw[Option.map_eq_some_iff] at h;obtain ⟨x,hx,rfl⟩:=h
   exact .inl ⟨_,x,ho,hx,rfl⟩
 ·refine .inr (.inr (.inr (.inr ?_)))
  split at h
  ·simp only[Option.some.injEq] at h;subst h;rfl
  ·cases h
 ·refine .inr (.inr (.inr (.inr ?_)))
  rw[Option.map_eq_some_iff] at h;obtain ⟨x,_,rfl⟩:=h
  rfl
 ·refine .inr (.inr (.inr (.inr ?_)))
  rw[Option.map_eq_some_iff] at h;obtain ⟨x,_,rfl⟩:=h
  rfl
 ·refine .inr (.inr (.inr (.inr ?_)))
  split at h
  ·rw[Option.map_eq_some_iff] at h;obtain ⟨x,_,rfl⟩:=h
   rfl
  ·cases h
 ·refine .inr (.inr (.inr (.inr ?_)))
  split at h
  ·split at h
   ·simp only[Option.some.injEq] at h;subst h;rfl
   ·cases h
  ·cases h
 ·refine .inr (.inr (.inr (.inr ?_)))
  split at h
  ·simp only[Option.some.injEq] at h;subst h;rfl
  ·cases h
 ·rename_i t oa ox ho;split at h
  ·rename_i x y i h1 h2 h3;simp only[Option.some.injEq] at h;refine .inr (.inr (.inl ⟨t,oa,ox,i,x,y,ho,h3,h1,h2,?_⟩))
   subst h;split
   ·split
    ·exact .inl rfl
    ·exact .inr rfl
   ·exact .inr rfl
  ·cases h
 ·refine .inr (.inr (.inr (.inr ?_)))
  rw[Option.map_eq_some_iff] at h;obtain ⟨x,_,rfl⟩:=h
  rfl
 ·refine .inr (.inr (.inr (.inr ?_)))
  split at h
  ·simp only[Option.some.injEq] at h;subst h;rfl
  ·split at h<;>first | (simp only[Option.some.injEq] at h;subst h;rfl) | cases h
  ·cases h
 ·refine .inr (.inr (.inr (.inr ?_)))
  rw[Option.map_eq_some_iff] at h;obtain ⟨x,_,rfl⟩:=h
  rfl
 ·refine .inr (.inr (.inr (.inr ?_)))
  split at h
  ·rw[Option.map_eq_some_iff] at h;obtain ⟨x,_,rfl⟩:=h
   rfl
  ·cases h
 ·refine .inr (.inr (.inr (.inr ?_)))
  split at h
  ·split at h
   ·simp only[Option.some.injEq] at h;subst h;rfl
   ·cases h
  ·cases h
 ·refine .inr (.inr (.inr (.inr ?_)))
  split at h
  ·simp only[Option.some.injEq] at h;subst h;rfl
  ·cases h
 ·refine .inr (.inr (.inr (.inr ?_)))
  split at h
  ·simp only[Option.some.injEq] at h;subst h;rfl
  ·cases h
 ·refine .inr (.inr (.inr (.inr ?_)))
  split at h
  ·split at h
   ·cases h
   ·simp only[Option.some.injEq] at h;subst h;rfl
  ·cases h
 ·refine .inr (.inr (.inr (.inr ?_)))
  split at h
  ·split at h
   ·simp only[Option.some.injEq] at h;subst h;rfl
   ·cases h
  ·cases h
 ·refine .inr (.inr (.inr (.inr ?_)))
  split at h
  ·simp only[Option.some.injEq] at h;subst h;rfl
  ·cases h
 ·refine .inr (.inr (.inr (.inr ?_)))
  split at h
  ·simp only[Option.some.injEq] at h;subst h;rfl
  ·cases h
 ·refine .inr (.inr (.inr (.inr ?_)))
  rw[Option.map_eq_some_iff] at h;obtain ⟨x,_,rfl⟩:=h
  rfl
 ·rename_i k ho;exact .inr (.inr (.inr (.inl ⟨k,ho,h⟩)))
 ·cases h
section
variable {E:Env} {cx:Cx} {S:StA} {X:List (Cell Tg)} {C:Nat→Nat→Prop} {a:Act} {w w':World}
theorem mL {orac:dH} {modes:bO} {nt:Nat} {ir:Ir} (h:ej ir=true):cY orac modes nt ir=bn nt ir:=by
 cases ir<;>first | rfl | (simp[ej] at h;done)
theorem uE (orac:dH) (modes:bO) (nt g:Nat) (args:List Opd):cY orac modes nt (.call g args)=(match modes g with
  | .mbox::ms=>match args with
   | x::xs=>if fj ms then .fail else (oT x).bind fun r=>(eP r).bind fun b=>gB orac g xs r b
   | []=> .fail
  | ms=>if fj ms then .fail else dn orac g args []):=rfl
theorem uF {orac:dH} (hf:Fits E cx) (h:Inv E S X C a w) (hb:E.base≤w.heap.size) (hO:∀ g,dG E.P E.sid orac g) {o:Oper} {k:Call} (ho:o.op= .call k) {f g:Nat} (hk:k.callee= .value (.func f)) (hg:cx.canon f=some g) {x:Opd} {xs:List Opd} (hc:bU (bj cx) k.args.toList=some (x::xs))
  {s:SU} {st1:St} (hr:((oT x).bind fun r=>(eP r).bind fun b=>gB orac g xs r b).run (erS S)=some (s,st1)):kH E X a w o s st1:=by
 obtain ⟨C1,hi,_,hrd⟩:=zk h
 obtain ⟨r,st2,h1,h2⟩:=FM.bind_some hr
 clear hr;cases hal:k.args.toList with
 | nil=>rw[hal] at hc;simp[bU] at hc
 | cons ox os=>
  rw[hal] at hc;unfold bU at hc;cases hx:bj cx ox with
  | none=>simp[hx] at hc
  | some x'=>
   cases hxs:bU (bj cx) os with
   | none=>simp[hx,hxs] at hc
   | some xs'=>
    simp only[hx,hxs,Option.some.injEq,List.cons.injEq] at hc;obtain ⟨rfl,rfl⟩:=hc
    unfold oT at h1;obtain ⟨sl,st3,h3,h4⟩:=FM.bind_some h1
    obtain ⟨rfl,s0,rfl,hop⟩:=da hf hi hx h3
    split at h4
    ·rename_i r' hk0;obtain ⟨rfl,rfl⟩:=au h4
     have hkv:s0.k= .ptr r 0:=by
      rw[bg] at hk0;cases hk':s0.k<;>rw[hk'] at hk0<;>simp[Kd.er] at hk0 ⊢
      exact hk0
     have hv:∃ b,aL S r=some ⟨b,0,none⟩∧a.eval ox= .pointer (some ⟨b,0,none⟩):=by
      cases hop with
      | slot j s0 hj hs hv=>unfold SlV at hv;rw[hkv] at hv;exact hv
      | const agg vs s0 hk he hok hv h1'=>cases agg<;>rw[hkv] at hk<;>simp at hk
      | fn g hv=>simp at hkv
     obtain ⟨b,hba,hva⟩:=hv
     obtain ⟨bb,st4,h5,h6⟩:=FM.bind_some h2
     obtain ⟨h7,rfl⟩:=cO h5
     obtain ⟨o1,ho1,rfl⟩:=bJ h7
     obtain ⟨k1,k2⟩:=v6 hf hi hrd hb hO hxs ho1 h6
     have hex:=nM (a:=a) ho hk (Au hf hg);have hargs:(k.args.map a.eval++#[])=(.pointer (aL S r)::os.map a.eval).toArray:=by
      rw[←Array.toList_inj];simp[hal,hva,hba]
     rw[hargs] at hex;exact ⟨_,_,by rw[hex];exact k1,k2⟩
    ·exact (aM h4).elim
theorem nr {orac:dH} {modes:bO} (hf:Fits E cx) (h:Inv E S X C a w) (hb:E.base≤w.heap.size) (hO:∀ g,dG E.P E.sid orac g) {inRow:Nat→Bool} {o:Oper} {ir:Ir} (hc:cOp cx inRow o=some ir)
  {s:SU} {st1:St} (hr:(cY orac modes cx.nt ir).run (erS S)=some (s,st1)):Kh E X a w o s st1:=by
 rcases nF hc with ⟨ox,x,_,_,rfl⟩ | ⟨_,rfl⟩ | ⟨t,oa,ox,i,x,y,_,_,_,_,rfl | rfl⟩ | ⟨k,ho,hk⟩ | hp
 ·exact (aM hr).elim
 ·exact (aM hr).elim
 ·exact (aM hr).elim
 ·exact (aM hr).elim
 ·rcases jk hk with ⟨f,g,xs,h1,h2,h3,rfl⟩ | ⟨f,xf,xs,h1,h2,h3,rfl⟩ | hp
  ·refine .inr ?_
   rw[uE] at hr;split at hr
   ·split at hr
    ·split at hr
     ·exact (aM hr).elim
     ·exact uF hf h hb hO ho h1 h2 h3 hr
    ·exact (aM hr).elim
   ·split at hr
    ·exact (aM hr).elim
    ·exact uo hf h hb hO ho h1 h2 h3 hr
  ·exact .inr (yY hf h hb hO ho h1 h2 h3 hr)
  ·rw[mL hp] at hr;exact .inl (y7 hf h hb hc hr)
 ·rw[mL hp] at hr;exact .inl (y7 hf h hb hc hr)
end
end Go.Vm
end
section
namespace Go.Vm
abbrev jp:=Nat×Nat×Option Nat
theorem gN {s c:Nat} {ix:Option Nat} {hs:List jp} (h:dV ((s,c,ix)::hs)=true):
  (∀ ix',(s,c,ix')∈hs→∃ i j,ix=some i∧ix'=some j∧i≠j)∧dV hs=true:=by
 simp only[dV,Bool.and_eq_true,List.all_eq_true] at h;refine ⟨fun ix' hm=>?_,h.2⟩
 have:=h.1 (s,c,ix') hm
 simp only[ne_eq,not_true_eq_false,decide_false,Bool.false_or] at this;cases ix with
 | none=>simp at this
 | some i=>cases ix' with
  | none=>simp at this
  | some j=>exact ⟨i,j,rfl,rfl,by simpa using this⟩
inductive Puts:List jp→List A→List A→StA→StA→Prop
 | nil (S:StA):Puts [] [] [] S S
 | whole (s c:Nat) (t:Tg) (es:List (List A)) (f:Fl) (v:A) (hs:List jp) (us vs:List A) (S S':StA) (hc:aD S s c=some ⟨.row t es,f⟩) (hf:f= .ow false∨∃ i,f= .mp i)
   (h:Puts hs us vs (du S s c v) S'):Puts ((s,c,none)::hs) (.row t es::us) (v::vs) S S'
 | part (s c i:Nat) (t:Tg) (es es':List (List A)) (f:Fl) (u v:A) (hs:List jp) (us vs:List A) (S S':StA) (hc:aD S s c=some ⟨.row t es,f⟩) (hf:f= .ow false∨∃ i,f= .mp i)
   (hu:es.flatten[i]?=some u) (he:bh es i [v]=some es') (h:Puts hs us vs (du S s c (.row t es')) S'):Puts ((s,c,some i)::hs) (u::us) (v::vs) S S'
theorem cy {S:StA} {s c:Nat} {x:Cell Tg} (hx:aD S s c=some x) (v:A) (p q:Nat):aD (du S s c v) p q=if p=s∧q=c then some ⟨v,x.f⟩ else aD S p q:=by
 obtain ⟨sl,hs,hc⟩:=aE hx
 have he:du S s c v=S.set s ⟨sl.k,sl.cs.set c ⟨v,x.f⟩⟩:=by simp[du,hs,hc]
 rw[he];have hlt:s < S.length:=(List.getElem?_eq_some_iff.1 hs).1
 have hltc:c < sl.cs.length:=(List.getElem?_eq_some_iff.1 hc).1
 unfold aD;by_cases hp:p=s
 ·subst hp;by_cases hq:q=c
  ·subst hq;simp[hlt,hltc]
  ·have:¬c=q:=fun e=>hq e.symm
   have hsp:S[p]=sl:=(List.getElem?_eq_some_iff.1 hs).2
   simp[hlt,hq,this,hsp]
 ·have:¬s=p:=fun e=>hp e.symm
  simp[hp,this]
theorem rQ {S:StA} {s c:Nat} {x:Cell Tg} (hx:aD S s c=some x) (ho:aN x.f=true) (v:A) (b:Nat):
  (aA (du S s c v) []).count b+x.v.blks.count b=(aA S []).count b+v.blks.count b:=by
 obtain ⟨sl,hs,hc⟩:=aE hx
 have he:du S s c v=S.set s ⟨sl.k,sl.cs.set c ⟨v,x.f⟩⟩:=by simp[du,hs,hc]
 rw[he];have h1:=bk Sl.own b S s sl ⟨sl.k,sl.cs.set c ⟨v,x.f⟩⟩ hs;have h2:=bk Cell.own b sl.cs c x ⟨v,x.f⟩ hc;have h3:(Sl.own ⟨sl.k,sl.cs.set c ⟨v,x.f⟩⟩).count b+(Cell.own x).count b=sl.own.count b+(Cell.own ⟨v,x.f⟩).count b:=by
  unfold Sl.own;rw[List.count_append,List.count_append,show Sl.boxOwn ⟨sl.k,sl.cs.set c ⟨v,x.f⟩⟩=sl.boxOwn from rfl]
  simp only;omega
 have h4:Cell.own x=x.v.blks:=by simp[Cell.own,ho]
 have h5:Cell.own ⟨v,x.f⟩=v.blks:=by simp[Cell.own,ho]
 rw[h4,h5] at h3;simp only[aA,List.flatMap_nil,List.append_nil];omega
theorem nQ {f:Fl} (h:f= .ow false∨∃ i,f= .mp i):aN f=true:=by
 rcases h with h | ⟨i,h⟩<;>rw[h]<;>rfl
theorem Puts.count {hs:List jp} {us vs:List A} {S S':StA} (h:Puts hs us vs S S') (b:Nat):
  (aA S' []).count b+(us.flatMap VA.blks).count b=(aA S []).count b+(vs.flatMap VA.blks).count b:=by
 induction h with
 | nil S=>simp
 | whole s c t es f v hs us vs S S' hc hf h ih=>
  have:=rQ hc (nQ hf) v b
  simp only[List.flatMap_cons,List.count_append] at this ⊢;omega
 | part s c i t es es' f u v hs us vs S S' hc hf hu he h ih=>
  have h1:=rQ hc (nQ hf) (.row t es') b;obtain ⟨k1,_,_⟩:=cW he
  have h2:=bk VA.blks b es.flatten i u v hu;simp only[splice] at k1;simp only[VA.blks,cG,List.count_append,k1] at h1;simp only[List.flatMap_cons,List.count_append];omega
theorem Puts.len {hs:List jp} {us vs:List A} {S S':StA} (h:Puts hs us vs S S'):us.length=hs.length∧vs.length=hs.length:=by
 induction h with
 | nil S=>exact ⟨rfl,rfl⟩
 | whole s c t es f v hs us vs S S' hc hf h ih=>simp[ih.1,ih.2]
 | part s c i t es es' f u v hs us vs S S' hc hf hu he h ih=>simp[ih.1,ih.2]
theorem mP {α:Type}:∀ {xs ys:List (List α)},xs.map List.length=ys.map List.length→xs.flatten=ys.flatten→xs=ys
 | [],[],_,_=>rfl
 | [],y::ys,h,_=>by simp at h
 | x::xs,[],h,_=>by simp at h
 | x::xs,y::ys,h,hf=>by
  simp only[List.map_cons,List.cons.injEq] at h;simp only[List.flatten_cons] at hf;obtain ⟨q1,q2⟩:=List.append_inj hf h.1
  rw[q1,mP h.2 q2]
def Off (hs:List jp) (S T:StA):Prop:=∀ p q,(∀ ix,(p,q,ix)∉hs)∨(aD S p q=aD T p q)∨
 ∃ t es es' f,aD S p q=some ⟨.row t es,f⟩∧aD T p q=some ⟨.row t es',f⟩∧es.map List.length=es'.map List.length∧(p,q,none)∉hs∧∀ k,(p,q,some k)∈hs→es.flatten[k]?=es'.flatten[k]?
theorem Puts.other {hs:List jp} {us vs:List A} {S S':StA} (h:Puts hs us vs S S') (ha:dV hs=true):∀ (vs':List A),vs'.length=hs.length→∀ T,Off hs S T→∃ T',Puts hs us vs' T T':=by
 induction h with
 | nil S=>
  intro vs' hl T _;cases vs' with
  | nil=>exact ⟨T, .nil T⟩
  | cons v r=>simp at hl
 | whole s c t es f v hs us vs S S' hc hf h ih=>
  intro vs' hl T hoff;cases vs' with
  | nil=>simp at hl
  | cons v' r=>
   obtain ⟨a1,a2⟩:=gN ha
   have hcT:aD T s c=some ⟨.row t es,f⟩:=by
    rcases hoff s c with h1 | h1 | ⟨_,_,_,_,_,_,_,h1,_⟩
    ·exact absurd (List.mem_cons_self ..) (h1 none)
    ·rw[←h1];exact hc
    ·exact absurd (List.mem_cons_self ..) h1
   obtain ⟨T',hT'⟩:=ih a2 r (by simpa using hl) (du T s c v') (fun p q=>by
    by_cases hpq:p=s∧q=c
    ·obtain ⟨rfl,rfl⟩:=hpq
     refine .inl fun ix hm=>?_
     obtain ⟨i,j,h1,_⟩:=a1 ix hm
     cases h1
    ·rw[cy hc,cy hcT,if_neg hpq,if_neg hpq];rcases hoff p q with h1 | h1 | ⟨t1,e1,e2,f1,h1,h2,h3,h4,h5⟩
     ·exact .inl fun ix hm=>h1 ix (List.mem_cons_of_mem _ hm)
     ·exact .inr (.inl h1)
     ·exact .inr (.inr ⟨t1,e1,e2,f1,h1,h2,h3,fun hm=>h4 (List.mem_cons_of_mem _ hm),fun k hm=>h5 k (List.mem_cons_of_mem _ hm)⟩))
   exact ⟨T', .whole s c t es f v' hs us r T T' hcT hf hT'⟩
 | part s c i t es es' f u v hs us vs S S' hc hf hu he h ih=>
  intro vs' hl T hoff;cases vs' with
  | nil=>simp at hl
  | cons v' r=>
   obtain ⟨a1,a2⟩:=gN ha
   have hcT:∃ esT,aD T s c=some ⟨.row t esT,f⟩∧es.map List.length=esT.map List.length∧(∀ k,(s,c,some k)∈(s,c,some i)::hs→es.flatten[k]?=esT.flatten[k]?):=by
    rcases hoff s c with h1 | h1 | ⟨t1,e1,e2,f1,h1,h2,h3,h4,h5⟩
    ·exact absurd (List.mem_cons_self ..) (h1 (some i))
    ·exact ⟨es,by rw[←h1];exact hc,rfl,fun _ _=>rfl⟩
    ·rw[hc] at h1;simp only[Option.some.injEq,Cell.mk.injEq,VA.row.injEq] at h1;obtain ⟨⟨rfl,rfl⟩,rfl⟩:=h1
     exact ⟨e2,h2,h3,h5⟩
   obtain ⟨esT,hcT,hlen,hsame⟩:=hcT
   have huT:esT.flatten[i]?=some u:=by rw[←hsame i (List.mem_cons_self ..)];exact hu
   obtain ⟨esT',heT⟩:∃ esT',bh esT i [v']=some esT':=by
    have hsp:=nu hlen i;simp only[bh] at he ⊢;rw[←hsp];split at he
    ·rename_i p q hs0;rw[hs0] at hsp;split at he
     ·rename_i e0 he0;have:p < esT.length:=by
       have h1:=(List.getElem?_eq_some_iff.1 he0).1
       have h2:=congrArg List.length hlen;simp at h2;omega
      rw[List.getElem?_eq_getElem this]
      exact ⟨_,rfl⟩
     ·cases he
    ·cases he
   obtain ⟨k1,k2,_⟩:=cW he
   obtain ⟨m1,m2,_⟩:=cW heT
   simp only[splice] at k1 m1;obtain ⟨T',hT'⟩:=ih a2 r (by simpa using hl) (du T s c (.row t esT')) (fun p q=>by
    by_cases hpq:p=s∧q=c
    ·obtain ⟨rfl,rfl⟩:=hpq
     refine .inr (.inr ⟨t,es',esT',f,by rw[cy hc,if_pos ⟨rfl,rfl⟩],by rw[cy hcT,if_pos ⟨rfl,rfl⟩],by rw[k2,m2,hlen],fun hm=>?_,fun k hm=>?_⟩)
     ·obtain ⟨i',j',_,h2,_⟩:=a1 none hm
      cases h2
     ·obtain ⟨i',j',h1,h2,h3⟩:=a1 (some k) hm
      simp only[Option.some.injEq] at h1 h2;subst h1;subst h2;rw[k1,m1,List.getElem?_set_ne h3,List.getElem?_set_ne h3]
      exact hsame k (List.mem_cons_of_mem _ hm)
    ·rw[cy hc,cy hcT,if_neg hpq,if_neg hpq];rcases hoff p q with h1 | h1 | ⟨t1,e1,e2,f1,h1,h2,h3,h4,h5⟩
     ·exact .inl fun ix hm=>h1 ix (List.mem_cons_of_mem _ hm)
     ·exact .inr (.inl h1)
     ·exact .inr (.inr ⟨t1,e1,e2,f1,h1,h2,h3,fun hm=>h4 (List.mem_cons_of_mem _ hm),fun k hm=>h5 k (List.mem_cons_of_mem _ hm)⟩))
   exact ⟨T', .part s c i t esT esT' f u v' hs us r T T' hcT hf huT heT hT'⟩
def Chgd (hs:List jp) (us vs:List A) (p q:Nat) (v v':A):Prop:=
 (v'=v∧∀ ix,(p,q,ix)∉hs)∨(∃ j:Nat,hs[j]?=some (p,q,none)∧us[j]?=some v∧vs[j]?=some v')∨
 ∃ t es es',v= .row t es∧v'= .row t es'∧es'.map List.length=es.map List.length∧(p,q,none)∉hs∧∀ (k:Nat) (x':A),es'.flatten[k]?=some x'→
  (es.flatten[k]?=some x'∧(p,q,some k)∉hs)∨∃ (j:Nat) (o:A),hs[j]?=some (p,q,some k)∧us[j]?=some o∧es.flatten[k]?=some o∧vs[j]?=some x'
theorem Puts.cell {hs:List jp} {us vs:List A} {S S':StA} (h:Puts hs us vs S S') (ha:dV hs=true):∀ (p q:Nat) (x':Cell Tg),aD S' p q=some x'→∃ x,aD S p q=some x∧x'.f=x.f∧Chgd hs us vs p q x.v x'.v:=by
 induction h with
 | nil S=>exact fun p q x' hx'=>⟨x',hx',rfl, .inl ⟨rfl,by simp⟩⟩
 | whole s c t es f v hs us vs S S' hc hf h ih=>
  obtain ⟨a1,a2⟩:=gN ha
  intro p q x' hx';obtain ⟨x,hx,hxf,hch⟩:=ih a2 p q x' hx'
  rw[cy hc] at hx;by_cases hpq:p=s∧q=c
  ·rw[if_pos hpq] at hx;obtain ⟨rfl,rfl⟩:=hpq
   simp only[Option.some.injEq] at hx;subst hx;have hnone:∀ ix,(p,q,ix)∉hs:=by
    intro ix hm;obtain ⟨i,j,h1,_⟩:=a1 ix hm
    cases h1
   refine ⟨_,hc,hxf, .inr (.inl ⟨0,rfl,rfl,?_⟩)⟩
   rcases hch with ⟨h1,_⟩ | ⟨j,h1,_⟩ | ⟨t1,e1,e2,h1,h2,h3,_,h4⟩
   ·rw[h1];rfl
   ·exact absurd (List.mem_of_getElem? h1) (hnone none)
   ·have:x'.v=v:=by
     have h1:v= .row t1 e1:=h1;rw[h2,h1]
     congr 1
     have hfl:e2.flatten=e1.flatten:=by
      apply List.ext_getElem?;intro k;cases hk:e2.flatten[k]? with
      | none=>
       have hl:e2.flatten.length=e1.flatten.length:=by
        rw[List.length_flatten,List.length_flatten,h3]
       rw[List.getElem?_eq_none_iff] at hk
       rw[List.getElem?_eq_none (by omega)]
      | some x0=>
       rcases h4 k x0 hk with ⟨h5,_⟩ | ⟨j,o,h5,_⟩
       ·exact h5.symm
       ·exact absurd (List.mem_of_getElem? h5) (hnone _)
     exact mP h3 hfl
    rw[this];rfl
  ·rw[if_neg hpq] at hx;refine ⟨x,hx,hxf,?_⟩
   have hne:∀ ix,(p,q,ix)≠((s,c,none):jp):=by
    intro ix e;simp only[Prod.mk.injEq] at e;exact hpq ⟨e.1,e.2.1⟩
   rcases hch with ⟨h1,h2⟩ | ⟨j,h1,h2,h3⟩ | ⟨t1,e1,e2,h1,h2,h3,h0,h4⟩
   ·exact .inl ⟨h1,fun ix hm=>(List.mem_cons.1 hm).elim (hne ix) (h2 ix)⟩
   ·exact .inr (.inl ⟨j+1,by simpa using h1,by simpa using h2,by simpa using h3⟩)
   ·refine .inr (.inr ⟨t1,e1,e2,h1,h2,h3,fun hm=>(List.mem_cons.1 hm).elim (hne none) h0,fun k x0 hk=>?_⟩)
    rcases h4 k x0 hk with ⟨h5,h6⟩ | ⟨j,o,h5,h6,h7,h8⟩
    ·exact .inl ⟨h5,fun hm=>(List.mem_cons.1 hm).elim (hne _) h6⟩
    ·exact .inr ⟨j+1,o,by simpa using h5,by simpa using h6,h7,by simpa using h8⟩
 | part s c i t es es' f u v hs us vs S S' hc hf hu he h ih=>
  obtain ⟨a1,a2⟩:=gN ha
  obtain ⟨k1,k2,_⟩:=cW he
  simp only[splice] at k1;intro p q x' hx';obtain ⟨x,hx,hxf,hch⟩:=ih a2 p q x' hx'
  rw[cy hc] at hx;by_cases hpq:p=s∧q=c
  ·rw[if_pos hpq] at hx;obtain ⟨rfl,rfl⟩:=hpq
   simp only[Option.some.injEq] at hx;subst hx;have hmem:∀ k,(p,q,some k)∈(p,q,some i)::hs→k=i∨(p,q,some k)∈hs:=by
    intro k hm;rcases List.mem_cons.1 hm with e | hm
    ·simp only[Prod.mk.injEq,Option.some.injEq] at e;exact .inl e.2.2
    ·exact .inr hm
   have hilt:i < es.flatten.length:=(List.getElem?_eq_some_iff.1 hu).1
   refine ⟨_,hc,hxf, .inr (.inr ?_)⟩
   rcases hch with ⟨h1,h2⟩ | ⟨j,h1,_⟩ | ⟨t1,e1,e2,h1,h2,h3,h0,h4⟩
   ·refine ⟨t,es,es',rfl,h1,k2,fun hm=>?_,fun k x0 hk=>?_⟩
    ·rcases List.mem_cons.1 hm with e | hm
     ·simp at e
     ·exact h2 _ hm
    by_cases hki:k=i
    ·subst hki;rw[k1,List.getElem?_set_self hilt] at hk
     exact .inr ⟨0,u,rfl,rfl,hu,hk⟩
    ·rw[k1,List.getElem?_set_ne (fun e=>hki e.symm)] at hk
     exact .inl ⟨hk,fun hm=>(hmem k hm).elim hki (h2 _)⟩
   ·obtain ⟨i',j',_,h2,_⟩:=a1 none (List.mem_of_getElem? h1)
    cases h2
   ·have h1:(VA.row t es':A)= .row t1 e1:=h1;simp only[VA.row.injEq] at h1;obtain ⟨rfl,rfl⟩:=h1
    refine ⟨t,es,e2,rfl,h2,by rw[h3,k2],fun hm=>(List.mem_cons.1 hm).elim (by simp) h0,fun k x0 hk=>?_⟩
    rcases h4 k x0 hk with ⟨h5,h6⟩ | ⟨j,o,h5,h6,h7,h8⟩
    ·by_cases hki:k=i
     ·subst hki;rw[k1,List.getElem?_set_self hilt] at h5
      exact .inr ⟨0,u,rfl,rfl,hu,h5⟩
     ·rw[k1,List.getElem?_set_ne (fun e=>hki e.symm)] at h5
      exact .inl ⟨h5,fun hm=>(hmem k hm).elim hki h6⟩
    ·obtain ⟨i',j',q1,q2,q3⟩:=a1 _ (List.mem_of_getElem? h5)
     simp only[Option.some.injEq] at q1 q2;subst q1;subst q2;rw[k1,List.getElem?_set_ne q3] at h7
     exact .inr ⟨j+1,o,by simpa using h5,by simpa using h6,h7,by simpa using h8⟩
  ·rw[if_neg hpq] at hx;refine ⟨x,hx,hxf,?_⟩
   have hne:∀ ix,(p,q,ix)≠((s,c,some i):jp):=by
    intro ix e;simp only[Prod.mk.injEq] at e;exact hpq ⟨e.1,e.2.1⟩
   rcases hch with ⟨h1,h2⟩ | ⟨j,h1,h2,h3⟩ | ⟨t1,e1,e2,h1,h2,h3,h0,h4⟩
   ·exact .inl ⟨h1,fun ix hm=>(List.mem_cons.1 hm).elim (hne ix) (h2 ix)⟩
   ·exact .inr (.inl ⟨j+1,by simpa using h1,by simpa using h2,by simpa using h3⟩)
   ·refine .inr (.inr ⟨t1,e1,e2,h1,h2,h3,fun hm=>(List.mem_cons.1 hm).elim (hne none) h0,fun k x0 hk=>?_⟩)
    rcases h4 k x0 hk with ⟨h5,h6⟩ | ⟨j,o,h5,h6,h7,h8⟩
    ·exact .inl ⟨h5,fun hm=>(List.mem_cons.1 hm).elim (hne _) h6⟩
    ·exact .inr ⟨j+1,o,by simpa using h5,by simpa using h6,h7,by simpa using h8⟩
theorem pR (S:StA) (s c:Nat) (v:A):(du S s c v).length=S.length∧∀ (i:Nat) (s':SA),(du S s c v)[i]?=some s'→∃ s0,S[i]?=some s0∧s'.k=s0.k∧s'.cs.length=s0.cs.length:=by
 unfold du;split
 ·rename_i sl hs;split
  ·rename_i x hx;refine ⟨by simp,fun i s' h=>?_⟩
   rw[List.getElem?_set] at h
   split at h
   ·rename_i e;subst e;have hlt:=(List.getElem?_eq_some_iff.1 hs).1
    simp only[hlt,if_true,Option.some.injEq] at h;subst h;exact ⟨sl,hs,rfl,by simp⟩
   ·exact ⟨s',h,rfl,rfl⟩
  ·exact ⟨rfl,fun i s' h=>⟨s',h,rfl,rfl⟩⟩
 ·exact ⟨rfl,fun i s' h=>⟨s',h,rfl,rfl⟩⟩
theorem Puts.slot {hs:List jp} {us vs:List A} {S S':StA} (h:Puts hs us vs S S'):S'.length=S.length∧∀ (i:Nat) (s':SA),S'[i]?=some s'→∃ s0,S[i]?=some s0∧s'.k=s0.k∧s'.cs.length=s0.cs.length:=by
 induction h with
 | nil S=>exact ⟨rfl,fun i s' h=>⟨s',h,rfl,rfl⟩⟩
 | whole s c t es f v hs us vs S S' hc hf h ih=>
  obtain ⟨h1,h2⟩:=pR S s c v
  refine ⟨ih.1.trans h1,fun i s' hs'=>?_⟩
  obtain ⟨s1,k1,k2,k3⟩:=ih.2 i s' hs'
  obtain ⟨s0,m1,m2,m3⟩:=h2 i s1 k1
  exact ⟨s0,m1,k2.trans m2,k3.trans m3⟩
 | part s c i t es es' f u v hs us vs S S' hc hf hu he h ih=>
  obtain ⟨h1,h2⟩:=pR S s c (.row t es')
  refine ⟨ih.1.trans h1,fun i s' hs'=>?_⟩
  obtain ⟨s1,k1,k2,k3⟩:=ih.2 i s' hs'
  obtain ⟨s0,m1,m2,m3⟩:=h2 i s1 k1
  exact ⟨s0,m1,k2.trans m2,k3.trans m3⟩
theorem Chgd.same {hs:List jp} {us vs:List A} {p q:Nat} {v v':A} (h:Chgd hs us vs p q v v') (hn:∀ ix,(p,q,ix)∉hs):v'=v:=by
 rcases h with ⟨h,_⟩ | ⟨j,h,_⟩ | ⟨t,es,es',rfl,rfl,h3,_,h4⟩
 ·exact h
 ·exact absurd (List.mem_of_getElem? h) (hn none)
 ·have hfl:es'.flatten=es.flatten:=by
   apply List.ext_getElem?;intro k;cases hk:es'.flatten[k]? with
   | none=>
    have hl:es'.flatten.length=es.flatten.length:=by rw[List.length_flatten,List.length_flatten,h3]
    rw[List.getElem?_eq_none_iff] at hk
    rw[List.getElem?_eq_none (by omega)]
   | some x0=>
    rcases h4 k x0 hk with ⟨h5,_⟩ | ⟨j,o,h5,_⟩
    ·exact h5.symm
    ·exact absurd (List.mem_of_getElem? h5) (hn _)
  rw[mP h3 hfl]
theorem Puts.were {hs:List jp} {us vs:List A} {S S':StA} (h:Puts hs us vs S S') (ha:dV hs=true):∀ (j:Nat) (s c:Nat) (ix:Option Nat) (u:A),hs[j]?=some (s,c,ix)→us[j]?=some u→
  ∃ t es f,aD S s c=some ⟨.row t es,f⟩∧match ix with | none=>u= .row t es | some i=>es.flatten[i]?=some u:=by
 induction h with
 | nil S=>intro j s c ix u hj;simp at hj
 | whole s c t es f v hs us vs S S' hc hf h ih=>
  obtain ⟨a1,a2⟩:=gN ha
  intro j p q ix u hj hu;cases j with
  | zero=>
   simp only[List.getElem?_cons_zero,Option.some.injEq,Prod.mk.injEq] at hj hu
   obtain ⟨rfl,rfl,rfl⟩:=hj
   subst hu;exact ⟨t,es,f,hc,rfl⟩
  | succ j=>
   have hj:hs[j]?=some (p,q,ix):=by simpa using hj
   obtain ⟨t1,es1,f1,h1,h2⟩:=ih a2 j p q ix u hj (by simpa using hu)
   rw[cy hc] at h1;by_cases hpq:p=s∧q=c
   ·obtain ⟨rfl,rfl⟩:=hpq
    obtain ⟨i,j',h3,_⟩:=a1 ix (List.mem_of_getElem? hj)
    cases h3
   ·rw[if_neg hpq] at h1;exact ⟨t1,es1,f1,h1,h2⟩
 | part s c i t es es' f u0 v hs us vs S S' hc hf hu0 he h ih=>
  obtain ⟨a1,a2⟩:=gN ha
  obtain ⟨k1,_,_⟩:=cW he
  simp only[splice] at k1;intro j p q ix u hj hu;cases j with
  | zero=>
   simp only[List.getElem?_cons_zero,Option.some.injEq,Prod.mk.injEq] at hj hu
   obtain ⟨rfl,rfl,rfl⟩:=hj
   subst hu;exact ⟨t,es,f,hc,hu0⟩
  | succ j=>
   have hj:hs[j]?=some (p,q,ix):=by simpa using hj
   obtain ⟨t1,es1,f1,h1,h2⟩:=ih a2 j p q ix u hj (by simpa using hu)
   rw[cy hc] at h1;by_cases hpq:p=s∧q=c
   ·rw[if_pos hpq] at h1;obtain ⟨rfl,rfl⟩:=hpq
    simp only[Option.some.injEq,Cell.mk.injEq,VA.row.injEq] at h1;obtain ⟨⟨rfl,rfl⟩,rfl⟩:=h1
    obtain ⟨i',j',h3,rfl,h5⟩:=a1 ix (List.mem_of_getElem? hj)
    simp only[Option.some.injEq] at h3;subst h3;refine ⟨t,es,f,hc,?_⟩
    have h2:es'.flatten[j']?=some u:=h2;rw[k1,List.getElem?_set_ne h5] at h2
    exact h2
   ·rw[if_neg hpq] at h1;exact ⟨t1,es1,f1,h1,h2⟩
theorem yL {T:StA} {s c:Nat} {es:List (List V)} {f:Fl} (h:nq (erS T) s c=some (es,f)):∃ t esA,aD T s c=some ⟨.row t esA,f⟩∧erR esA=es∧(f= .ow false∨∃ i,f= .mp i):=by
 unfold nq at h;rw[nK] at h;cases hs:T[s]? with
 | none=>rw[hs] at h;cases h
 | some sl=>
  rw[hs] at h;simp only[Option.map_some,aP,List.getElem?_map] at h
  cases hc:sl.cs[c]? with
  | none=>rw[hc] at h;cases h
  | some y=>
   rw[hc] at h;simp only[Option.map_some] at h;obtain ⟨v,fy⟩:=y
   simp only[Cell.er] at h;split at h
   ·rename_i u es1 heq;simp only[Option.some.injEq,Cell.mk.injEq] at heq;simp only[Option.some.injEq,Prod.mk.injEq] at h;obtain ⟨h1,rfl⟩:=heq
    obtain ⟨rfl,rfl⟩:=h
    obtain ⟨t',es',rfl,h2⟩:=kw h1
    exact ⟨t',es',bN hs hc,h2, .inl rfl⟩
   ·rename_i u es1 i heq;simp only[Option.some.injEq,Cell.mk.injEq] at heq;simp only[Option.some.injEq,Prod.mk.injEq] at h;obtain ⟨h1,rfl⟩:=heq
    obtain ⟨rfl,rfl⟩:=h
    obtain ⟨t',es',rfl,h2⟩:=kw h1
    exact ⟨t',es',bN hs hc,h2, .inr ⟨i,rfl⟩⟩
   ·cases h
theorem i9:∀ {hs:List jp} {outs:List A} {T:StA} {st':St},iu hs (outs.map VA.er) (erS T)=some st'→∃ us S',Puts hs us outs T S'∧erS S'=st'
 | [],[],T,st',h=>by
  simp only[List.map_nil,iu,Option.some.injEq] at h;exact ⟨[],T, .nil T,h⟩
 | [],v::vs,T,st',h=>by simp[iu] at h
 | (s,c,ix)::hs,[],T,st',h=>by simp[iu] at h
 | (s,c,ix)::hs,v::vs,T,st',h=>by
  simp only[List.map_cons,iu] at h;split at h
  ·cases h
  ·rename_i es f hrow;obtain ⟨t,esA,hc,her,hf⟩:=yL hrow
   cases ix with
   | none=>
    simp only at h;rw[←oW] at h;obtain ⟨us,S',h1,h2⟩:=i9 h
    exact ⟨_,S', .whole s c t esA f v hs us vs T S' hc hf h1,h2⟩
   | some i=>
    simp only at h;split at h
    ·rename_i es' hset;rw[←her] at hset;obtain ⟨esA',hsetA,rfl⟩:=oV (vs:=[v]) hset
     have hlt:i < esA.flatten.length:=by
      have:=(cW hsetA).2.2 (by simp)
      simp only[List.length_cons,List.length_nil] at this;omega
     have heq:setRow (erS T) s c (.row () (erR esA'))=erS (du T s c (.row t esA')):=by rw[oW];rfl
     rw[heq] at h;obtain ⟨us,S',h1,h2⟩:=i9 h
     exact ⟨_,S', .part s c i t esA esA' f _ v hs us vs T S' hc hf (List.getElem?_eq_getElem hlt) hsetA h1,h2⟩
    ·cases h
end Go.Vm
end
section
namespace Go.Vm
section
variable {E:Env} {cx:Cx} {S:StA} {X:List (Cell Tg)} {C:Nat→Nat→Prop} {a:Act} {w w':World}
theorem Puts.back {hs:List jp} {us vs:List A} {T T':StA} (h:Puts hs us vs T T') {p q:Nat} {x:Cell Tg} (hx:aD T p q=some x):∃ x',aD T' p q=some x':=by
 obtain ⟨h1,h2⟩:=h.slot
 obtain ⟨sl,hs,hc⟩:=aE hx
 have hp:p < T'.length:=by rw[h1];exact (List.getElem?_eq_some_iff.1 hs).1
 obtain ⟨s0,k1,_,k3⟩:=h2 p T'[p] (List.getElem?_eq_getElem hp)
 rw[hs] at k1;obtain rfl:=Option.some.inj k1
 have hq:q < T'[p].cs.length:=by rw[k3];exact (List.getElem?_eq_some_iff.1 hc).1
 exact ⟨_,bN (List.getElem?_eq_getElem hp) (List.getElem?_eq_getElem hq)⟩
theorem tX {p q:Nat} {x:Cell Tg} (hx:aD S p q=some x) (ho:aN x.f=true) {b:Nat} (hb:b∈x.v.blks):0 < (aA S []).count b:=by
 have:=pJ hx ho hb
 simp only[aA,List.flatMap_nil,List.append_nil];exact List.count_pos_iff.2 this
theorem Km (h:Inv E S [] E.old a w) (hne:∀ (i:Nat) (s:SA),S[i]?=some s→∀ t src ix,s.k≠ .ept t src ix) (hcalm:∀ (i:Nat) (s:SA),S[i]?=some s→∀ x∈s.cs,xk x.f)
  {hs:List jp} {us outs:List A} {S':StA} (hp:Puts hs us outs S S') (ha:dV hs=true)
  (hfl:(∀ (s c:Nat) ix,(s,c,ix)∈hs→∀ y,aD S s c=some y→y.f= .ow false)∨∀ (s c:Nat) ix,(s,c,ix)∈hs→∀ y,aD S s c=some y→∃ i,y.f= .mp i)
  (hsz:w.heap.size≤w'.heap.size) (hblk:∀ b,b < w.heap.size→b∉us.flatMap VA.blks→w'.heap[b]?=w.heap[b]?)
  (hout:∀ (j:Nat) (u v:A),us[j]?=some u→outs[j]?=some v→Shp E.sid w' E.old v∧(∃ t es es',u= .row t es∧v= .row t es'∧es'.length=es.length)∧∀ b∈v.blks,(w.heap.size≤b∨b∈us.flatMap VA.blks)∧b < w'.heap.size∧∀ j,¬E.old b j)
  (hocnt:∀ b,(outs.flatMap VA.blks).count b≤1) (hb:E.base≤w.heap.size):Inv E S' [] E.old a w':=by
 obtain ⟨hl1,hl2⟩:=hp.len
 obtain ⟨T,hT⟩:=hp.other ha (us.map fun _=> .row ⟨none,0,0⟩ []) (by simp[hl1]) S (fun p q=> .inr (.inl rfl))
 have hhole:∀ b,(aA T []).count b+(us.flatMap VA.blks).count b≤1:=by
  intro b;have h1:=hT.count b;have h2:((us.map fun _=>(VA.row ⟨none,0,0⟩ []:A)).flatMap VA.blks).count b=0:=by
   rw[List.count_eq_zero];intro hm;obtain ⟨v,hv,hbv⟩:=List.mem_flatMap.1 hm
   obtain ⟨_,_,rfl⟩:=List.mem_map.1 hv
   simp[VA.blks,gh] at hbv
  have h3:=h.cnt b;omega
 have hapart:∀ {p q:Nat} {x:Cell Tg},aD T p q=some x→aN x.f=true→∀ b∈x.v.blks,b∉us.flatMap VA.blks:=by
  intro p q x hx ho b hbx hbu;have h1:=tX hx ho hbx;have h2:=List.count_pos_iff.2 hbu;have:=hhole b
  omega
 have husown:∀ b∈us.flatMap VA.blks,b∈aA S []:=by
  intro b hbu;have h1:=hT.count b;have h2:((us.map fun _=>(VA.row ⟨none,0,0⟩ []:A)).flatMap VA.blks).count b=0:=by
   rw[List.count_eq_zero];intro hm;obtain ⟨v,hv,hbv⟩:=List.mem_flatMap.1 hm
   obtain ⟨_,_,rfl⟩:=List.mem_map.1 hv
   simp[VA.blks,gh] at hbv
  have h3:=List.count_pos_iff.2 hbu;exact List.count_pos_iff.1 (by omega)
 have hlt0:∀ b∈aA S [],b < w.heap.size:=fun b hb=>(h.ownlt b hb).1
 have husbase:∀ b∈us.flatMap VA.blks,((∀ (s c:Nat) ix,(s,c,ix)∈hs→∀ y,aD S s c=some y→y.f= .ow false)→E.base≤b)∧(E.base≤b∨E.chg b):=by
  intro b hbu;obtain ⟨u,hu,hbu⟩:=List.mem_flatMap.1 hbu
  obtain ⟨j,hj⟩:=List.mem_iff_getElem?.1 hu
  have hjl:j < hs.length:=by rw[←hl1];exact (List.getElem?_eq_some_iff.1 hj).1
  obtain ⟨⟨s,c,ix⟩,hjh⟩:∃ q,hs[j]?=some q:=⟨_,List.getElem?_eq_getElem hjl⟩
  obtain ⟨t,es,f,hc,hm⟩:=hp.were ha j s c ix u hjh hj
  obtain ⟨sl,hsl,hcl⟩:=aE hc
  have hk:=h.cells s sl hsl _ (List.mem_of_getElem? hcl);have hbin:b∈(VA.row t es:A).blks:=by
   cases ix with
   | none=>rw[hm] at hbu;exact hbu
   | some i=>exact dD (List.mem_of_getElem? hm) hbu
  rcases hfl with hfl | hfl
  ·have hf:f= .ow false:=hfl s c ix (List.mem_of_getElem? hjh) _ hc;subst hf;exact ⟨fun _=>hk.2.2 b hbin, .inl (hk.2.2 b hbin)⟩
  ·obtain ⟨i,hf⟩:=hfl s c ix (List.mem_of_getElem? hjh) _ hc
   have hf:f= .mp i:=hf;subst hf;refine ⟨fun ho=>?_,hk.2.2 b hbin⟩
   have:=ho s c ix (List.mem_of_getElem? hjh) _ hc
   simp at this
 have hkeep:∀ b∈aA S [],b∉us.flatMap VA.blks→w'.heap[b]?=w.heap[b]?:=fun b hb hn=>hblk b (hlt0 b hb) hn
 have hcell:∀ {p q:Nat} {x':Cell Tg},aD S' p q=some x'→∃ x,aD S p q=some x∧x'.f=x.f∧x'.v.val E.sid=x.v.val E.sid∧(aN x'.f=true∨x'=x)∧(aN x'.f=true→COk E w' E.old S' [] x'):=by
  intro p q x' hx';obtain ⟨x,hx,hxf,hch⟩:=hp.cell ha p q x' hx'
  obtain ⟨sl,hsl,hcl⟩:=aE hx
  have hk:=h.cells p sl hsl x (List.mem_of_getElem? hcl);obtain ⟨xT,hxT⟩:=hT.back hx
  obtain ⟨x1,hx1,hxTf,hchT⟩:=hT.cell ha p q xT hxT
  rw[hx] at hx1;obtain rfl:=Option.some.inj hx1
  by_cases hn:∀ ix,(p,q,ix)∉hs
  ·have hv:=hch.same hn;have hvT:=hchT.same hn;have hxx:x'=x:=by
    obtain ⟨v',f'⟩:=x'
    obtain ⟨v,f⟩:=x
    simp only at hv hxf;subst hv;subst hxf;rfl
   refine ⟨x,hx,hxf,by rw[hv], .inr hxx,fun ho=>?_⟩
   rw[hxx] at ho ⊢;have hw:∀ b∈x.v.blks,w'.heap[b]?=w.heap[b]?:=by
    intro b hb';refine hkeep b (List.count_pos_iff.1 (tX hx ho hb')) (hapart hxT (by rw[hxTf];exact ho) b (by rw[hvT];exact hb'))
   obtain ⟨v,f⟩:=x
   cases f with
   | ow g=>exact ⟨hk.1,hk.2.1.world hw (fun _ _ _=>id),hk.2.2⟩
   | nw g=>exact ⟨hk.1,hk.2.1.world hw (fun _ _ _=>id),hk.2.2⟩
   | mp i=>exact ⟨hk.1.mono (fun _ _ _=>id) hw,hk.2⟩
   | _=>simp[aN] at ho
  ·obtain ⟨ix0,hix0⟩:∃ ix,(p,q,ix)∈hs:=Classical.byContradiction fun hc=>hn fun ix hm=>hc ⟨ix,hm⟩
   have hflag:x.f= .ow false∨∃ i,x.f= .mp i:=by
    rcases hfl with hfl | hfl
    ·exact .inl (hfl p q ix0 hix0 x hx)
    ·exact .inr (hfl p q ix0 hix0 x hx)
   have ho:aN x'.f=true:=by rw[hxf];exact nQ hflag
   have key:Shp E.sid w' E.old x'.v∧(∃ t es es',x.v= .row t es∧x'.v= .row t es'∧es'.length=es.length)∧∀ b∈x'.v.blks,b∈x.v.blks∨w.heap.size≤b∨b∈us.flatMap VA.blks:=by
    have hxshp:Shp E.sid w E.old x.v:=by
     obtain ⟨v,f⟩:=x
     rcases hflag with hf | ⟨i,hf⟩
     ·simp only at hf;subst hf;have:=hk.2.1
      simpa [Shp'] using this
     ·simp only at hf;subst hf;exact hk.1
    rcases hch with ⟨_,h2⟩ | ⟨j,h1,h2,h3⟩ | ⟨t,es,es',hv,hv',hlen,hnone,hpt⟩
    ·exact absurd hix0 (h2 ix0)
    ·obtain ⟨q1,q2,q3⟩:=hout j _ _ h2 h3
     exact ⟨q1,q2,fun b hb'=> .inr (q3 b hb').1⟩
    ·have hel:es'.length=es.length:=by
      have:=congrArg List.length hlen
      simpa using this
     have hel2:es'.flatten.length=es.flatten.length:=by rw[List.length_flatten,List.length_flatten,hlen]
     obtain ⟨esT,hvT,hptT⟩:∃ esT,xT.v= .row t esT∧∀ (k:Nat) (c:A),es.flatten[k]?=some c→(p,q,some k)∉hs→esT.flatten[k]?=some c:=by
      rcases hchT with ⟨e1,e2⟩ | ⟨j,e1,_⟩ | ⟨t1,e0,eT,e1,e2,e3,_,e4⟩
      ·exact absurd hix0 (e2 ix0)
      ·exact absurd (List.mem_of_getElem? e1) hnone
      ·rw[hv] at e1;simp only[VA.row.injEq] at e1;obtain ⟨rfl,rfl⟩:=e1
       refine ⟨eT,e2,fun k c hc hk=>?_⟩
       have hlT:eT.flatten.length=es.flatten.length:=by rw[List.length_flatten,List.length_flatten,e3]
       have hkl:k < eT.flatten.length:=by rw[hlT];exact (List.getElem?_eq_some_iff.1 hc).1
       rcases e4 k _ (List.getElem?_eq_getElem hkl) with ⟨e5,_⟩ | ⟨j,o,e5,_⟩
       ·rw[List.getElem?_eq_getElem hkl,←e5,hc]
       ·exact absurd (List.mem_of_getElem? e5) hk
     have hoT:aN xT.f=true:=by rw[hxTf];exact nQ hflag
     have hfree:∀ (k:Nat) (c:A),es.flatten[k]?=some c→(p,q,some k)∉hs→∀ b∈c.blks,w'.heap[b]?=w.heap[b]?:=by
      intro k c hc hk' b hb';refine hkeep b (List.count_pos_iff.1 (tX hx (nQ hflag) (by rw[hv];exact dD (List.mem_of_getElem? hc) hb'))) (hapart hxT hoT b ?_)
      rw[hvT];exact dD (List.mem_of_getElem? (hptT k c hc hk')) hb'
     have hval:es'.flatten.map (VA.val E.sid)=es.flatten.map (VA.val E.sid):=by
      apply List.ext_getElem?;intro k;rw[List.getElem?_map,List.getElem?_map]
      cases hk':es'.flatten[k]? with
      | none=>
       rw[List.getElem?_eq_none_iff] at hk'
       rw[List.getElem?_eq_none (by omega)]
      | some c'=>
       rcases hpt k c' hk' with ⟨e1,_⟩ | ⟨j,o,_,e2,e3,e4⟩
       ·rw[e1]
       ·obtain ⟨_,⟨t1,e5,e6,rfl,rfl,e7⟩,_⟩:=hout j o c' e2 e4
        rw[e3];simp[VA.val,e7]
     have hshel:∀ c'∈es'.flatten,Shp E.sid w' E.old c':=by
      intro c' hc';obtain ⟨k,hk'⟩:=List.mem_iff_getElem?.1 hc'
      rcases hpt k c' hk' with ⟨e1,e2⟩ | ⟨j,o,_,e2,e3,e4⟩
      ·rw[hv] at hxshp;exact (hxshp.el (List.mem_of_getElem? e1)).mono (fun _ _ _=>id) (hfree k c' e1 e2)
      ·exact (hout j o c' e2 e4).1
     refine ⟨?_,⟨t,es,es',hv,hv',hel⟩,fun b hb'=>?_⟩
     ·rw[hv] at hxshp;rw[hv'];cases hxshp with
      | nil k0=>
       have:es'=[]:=List.eq_nil_of_length_eq_zero (by rw[hel];rfl)
       rw[this];exact .nil k0
      | row b0 cap k0 _ cur e0 hb0 hcap hmax hsize hkk hk0 hnil htake hfr hr=>
       have hb0x:b0∈x.v.blks:=by rw[hv];simp[VA.blks]
       have hw0:w'.heap[b0]?=w.heap[b0]?:=by
        refine hkeep b0 (List.count_pos_iff.1 (tX hx (nQ hflag) hb0x)) (hapart hxT hoT b0 ?_)
        rw[hvT];simp[VA.blks]
       refine .row b0 cap k0 es' cur e0 (hw0.trans hb0) (by rw[hel];exact hcap) hmax hsize (fun e he=>?_) hk0 (fun he=>hnil (List.eq_nil_of_length_eq_zero (by rw[←hel,he];rfl))) (by rw[hel,htake,hval]) (fun j hj=>hfr j (by rw[←hel];exact hj)) hshel
       have:e.length∈es'.map List.length:=List.mem_map_of_mem he
       rw[hlen] at this;obtain ⟨e2,he2,heq⟩:=List.mem_map.1 this
       rw[←heq];exact hkk e2 he2
     ·rw[hv'] at hb';simp only[VA.blks,cG,List.mem_append] at hb';rcases hb' with hb' | hb'
      ·refine .inl ?_
       rw[hv];simp only[VA.blks,List.mem_append];exact .inl hb'
      ·obtain ⟨c',hc',hbc⟩:=List.mem_flatMap.1 hb'
       obtain ⟨k,hk'⟩:=List.mem_iff_getElem?.1 hc'
       rcases hpt k c' hk' with ⟨e1,e2⟩ | ⟨j,o,_,e2,e3,e4⟩
       ·refine .inl ?_
        rw[hv];exact dD (List.mem_of_getElem? e1) hbc
       ·exact .inr ((hout j o c' e2 e4).2.2 b hbc).1
   obtain ⟨k1,⟨t,es,es',hv,hv',hlen⟩,k3⟩:=key
   refine ⟨x,hx,hxf,by rw[hv,hv'];simp[VA.val,hlen], .inl ho,fun _=>?_⟩
   obtain ⟨v',f'⟩:=x'
   obtain ⟨v,f⟩:=x
   simp only at hv hv' hxf hflag k1 k3;subst hxf;subst hv;subst hv';rcases hflag with hf | ⟨i,hf⟩
   ·subst hf;refine ⟨rfl,by simpa [Shp'] using k1,fun b hb'=>?_⟩
    rcases k3 b hb' with h1 | h1 | h1
    ·exact hk.2.2 b h1
    ·omega
    ·refine (husbase b h1).1 ?_
     rcases hfl with hfl | hfl
     ·exact hfl
     ·obtain ⟨i,h2⟩:=hfl p q ix0 hix0 _ hx
      simp at h2
   ·subst hf;obtain ⟨_,⟨t1,es1,e1,e2⟩,e3⟩:=hk
    have e1:(VA.row t es:A)= .row t1 es1:=e1;simp only[VA.row.injEq] at e1;obtain ⟨rfl,rfl⟩:=e1
    refine ⟨k1,⟨_,_,rfl,by rw[hlen];exact e2⟩,fun b hb'=>?_⟩
    rcases k3 b hb' with h1 | h1 | h1
    ·exact e3 b h1
    ·exact .inl (by omega)
    ·exact (husbase b h1).2
 obtain ⟨hsl1,hsl2⟩:=hp.slot
 have hcount:∀ b,(aA S' []).count b≤1:=by
  intro b;have h1:=hp.count b;have h2:=h.cnt b;have h3:=hocnt b;by_cases hbu:b∈us.flatMap VA.blks
  ·have:=List.count_pos_iff.2 hbu
   omega
  ·have h4:(us.flatMap VA.blks).count b=0:=List.count_eq_zero.2 hbu;by_cases hbo:b∈outs.flatMap VA.blks
   ·obtain ⟨v,hv,hbv⟩:=List.mem_flatMap.1 hbo
    obtain ⟨j,hj⟩:=List.mem_iff_getElem?.1 hv
    have hjl:j < us.length:=by rw[hl1,←hl2];exact (List.getElem?_eq_some_iff.1 hj).1
    have:=((hout j _ v (List.getElem?_eq_getElem hjl) hj).2.2 b hbv).1
    rcases this with h5 | h5
    ·have:(aA S []).count b=0:=by
      rw[List.count_eq_zero];intro hm;have:=hlt0 b hm
      omega
     omega
    ·exact absurd h5 hbu
   ·have:=List.count_eq_zero.2 hbo
    omega
 refine h.remake ⟨hsl1,fun i s' hs'=>?_,hne,hcalm⟩ (fun i s' hs' x hx ho=>?_) hcount (fun b hb'=>?_) (fun s' hs' b hb'=>?_) (fun b j hj=>?_) hsz
 ·obtain ⟨s0,k1,k2,k3⟩:=hsl2 i s' hs'
  refine ⟨s0,k1,k2,?_,fun x hx=>?_⟩
  ·apply List.ext_getElem?;intro q;rw[List.getElem?_map,List.getElem?_map]
   cases hq:s'.cs[q]? with
   | none=>
    rw[List.getElem?_eq_none_iff] at hq
    rw[List.getElem?_eq_none (by omega)]
   | some x'=>
    obtain ⟨x,hx,_,hv,_⟩:=hcell (bN hs' hq)
    obtain ⟨s1,e1,e2⟩:=aE hx
    rw[k1] at e1;obtain rfl:=Option.some.inj e1
    rw[e2];simp only[Option.map_some,hv]
  ·obtain ⟨q,hq⟩:=List.mem_iff_getElem?.1 hx
   obtain ⟨x0,hx0,_,_,h4,_⟩:=hcell (bN hs' hq)
   refine h4.imp id (fun e=>?_)
   obtain ⟨s1,e1,e2⟩:=aE hx0
   rw[k1] at e1;obtain rfl:=Option.some.inj e1
   rw[e];exact List.mem_of_getElem? e2
 ·obtain ⟨q,hq⟩:=List.mem_iff_getElem?.1 hx
  obtain ⟨x0,_,_,_,_,h5⟩:=hcell (bN hs' hq)
  exact h5 ho
 ·have h1:=hp.count b;have h2:=List.count_pos_iff.2 hb';by_cases hbo:b∈outs.flatMap VA.blks
  ·obtain ⟨v,hv,hbv⟩:=List.mem_flatMap.1 hbo
   obtain ⟨j,hj⟩:=List.mem_iff_getElem?.1 hv
   have hjl:j < us.length:=by rw[hl1,←hl2];exact (List.getElem?_eq_some_iff.1 hj).1
   exact ((hout j _ v (List.getElem?_eq_getElem hjl) hj).2.2 b hbv).2
  ·have:=List.count_eq_zero.2 hbo
   have hm:b∈aA S []:=List.count_pos_iff.1 (by omega)
   have:=h.ownlt b hm
   exact ⟨by omega,this.2⟩
 ·obtain ⟨i,hi⟩:=List.mem_iff_getElem?.1 hs'
  refine hkeep b (h.boxBlk hi hb') (fun hbu=>?_)
  obtain ⟨u,hu,hbu⟩:=List.mem_flatMap.1 hbu
  obtain ⟨j,hj⟩:=List.mem_iff_getElem?.1 hu
  have hjl:j < hs.length:=by rw[←hl1];exact (List.getElem?_eq_some_iff.1 hj).1
  obtain ⟨⟨s,c,ix⟩,hjh⟩:∃ q,hs[j]?=some q:=⟨_,List.getElem?_eq_getElem hjl⟩
  obtain ⟨t,es,f,hc,hm⟩:=hp.were ha j s c ix u hjh hj
  have hbin:b∈(VA.row t es:A).blks:=by
   cases ix with
   | none=>rw[hm] at hbu;exact hbu
   | some i=>exact dD (List.mem_of_getElem? hm) hbu
  obtain ⟨sl,hsl,hcl⟩:=aE hc
  have ho:aN f=true:=by
   rcases hfl with hfl | hfl
   ·have:=hfl s c ix (List.mem_of_getElem? hjh) _ hc
    simp only at this;subst this;rfl
   ·obtain ⟨i,this⟩:=hfl s c ix (List.mem_of_getElem? hjh) _ hc
    simp only at this;subst this;rfl
  exact h.boxApart hi hb' (aX hsl (List.mem_of_getElem? hcl)) (dh (x:=⟨.row t es,f⟩) ho hbin)
 ·have hbl:=h.clt b j hj;refine hblk b hbl (fun hbu=>?_)
  exact (h.ownlt b (husown b hbu)).2 j hj
end
end Go.Vm
end
section
namespace Go.Vm
def cm:Nat→List (Cell Tg)→List (Cell Tg)
 | _,[]=>[]
 | i,x::xs=>match x.f with
  | .sc | .nl=>x::cm i xs
  | _=>⟨x.v, .mp i⟩::cm (i+1) xs
def bW:List (Cell Tg)→List A
 | []=>[]
 | x::xs=>match x.f with
  | .sc | .nl=>bW xs
  | _=>x.v::bW xs
theorem rI:∀ (cs:List (Cell Tg)) (i:Nat),(cm i cs).map Cell.er=jS i (cs.map Cell.er)
 | [],_=>rfl
 | x::xs,i=>by
  obtain ⟨v,f⟩:=x
  cases f<;>simp[cm,jS,Cell.er,rI xs]
theorem oP:∀ (cs:List (Cell Tg)) (i:Nat),(cm i cs).map (·.v)=cs.map (·.v)
 | [],_=>rfl
 | x::xs,i=>by
  obtain ⟨v,f⟩:=x
  cases f<;>simp[cm,oP xs]
theorem lN:∀ {cs:List (Cell Tg)} {i:Nat} {x:Cell Tg},x∈cm i cs→((x.f= .sc∨x.f= .nl)∧x∈cs)∨∃ j,x.f= .mp (i+j)∧(bW cs)[j]?=some x.v
 | [],i,x,h=>by simp[cm] at h
 | y::ys,i,x,h=>by
  have keep:(y.f= .sc∨y.f= .nl)→cm i (y::ys)=y::cm i ys→bW (y::ys)=bW ys→((x.f= .sc∨x.f= .nl)∧x∈y::ys)∨∃ j,x.f= .mp (i+j)∧(bW (y::ys))[j]?=some x.v:=by
   intro hy e1 e2;rw[e1] at h;rcases List.mem_cons.1 h with rfl | h
   ·exact .inl ⟨hy,List.mem_cons_self ..⟩
   ·rw[e2];exact (lN h).imp (fun h=>⟨h.1,List.mem_cons_of_mem _ h.2⟩) id
  have other:cm i (y::ys)=⟨y.v, .mp i⟩::cm (i+1) ys→bW (y::ys)=y.v::bW ys→((x.f= .sc∨x.f= .nl)∧x∈y::ys)∨∃ j,x.f= .mp (i+j)∧(bW (y::ys))[j]?=some x.v:=by
   intro e1 e2;rw[e1] at h;rcases List.mem_cons.1 h with rfl | h
   ·exact .inr ⟨0,rfl,by rw[e2];rfl⟩
   ·rcases lN h with h | ⟨j,h1,h2⟩
    ·exact .inl ⟨h.1,List.mem_cons_of_mem _ h.2⟩
    ·exact .inr ⟨j+1,by rw[h1];congr 1;omega,by rw[e2];simpa using h2⟩
  obtain ⟨v,f⟩:=y
  cases f<;>first | exact keep (.inl rfl) rfl rfl | exact keep (.inr rfl) rfl rfl | exact other rfl rfl
theorem pB:∀ (cs:List (Cell Tg)) (i:Nat),(cm i cs).flatMap Cell.own=(bW cs).flatMap VA.blks
 | [],_=>rfl
 | x::xs,i=>by
  obtain ⟨v,f⟩:=x
  cases f<;>simp[cm,bW,Cell.own,aN,pB xs]
theorem qv:∀ {cs:List (Cell Tg)} {s c:Nat} {hs:List jp},mb s c (cs.map Cell.er)=some hs→
  hs.length=(bW cs).length∧∀ (j:Nat) (h:jp) (u:A),hs[j]?=some h→(bW cs)[j]?=some u→∃ (k:Nat) (x:Cell Tg),cs[k]?=some x∧x.v=u∧gk s (c+k) x.er=some h
 | [],s,c,hs,h=>by
  simp only[List.map_nil,mb,Option.some.injEq] at h;subst h;exact ⟨rfl,by simp⟩
 | x::xs,s,c,hs,h=>by
  have keep:mb s (c+1) (xs.map Cell.er)=some hs→bW (x::xs)=bW xs→
    hs.length=(bW (x::xs)).length∧∀ (j:Nat) (h:jp) (u:A),hs[j]?=some h→(bW (x::xs))[j]?=some u→∃ (k:Nat) (y:Cell Tg),(x::xs)[k]?=some y∧y.v=u∧gk s (c+k) y.er=some h:=by
   intro h e;obtain ⟨h1,h2⟩:=qv h
   rw[e];refine ⟨h1,fun j hh u hj hu=>?_⟩
   obtain ⟨k,y,k1,k2,k3⟩:=h2 j hh u hj hu
   exact ⟨k+1,y,by simpa using k1,k2,by rw[←k3];congr 1;omega⟩
  have other:(match gk s c x.er,mb s (c+1) (xs.map Cell.er) with | some h,some hs=>some (h::hs) | _,_=>none)=some hs→bW (x::xs)=x.v::bW xs→
    hs.length=(bW (x::xs)).length∧∀ (j:Nat) (h:jp) (u:A),hs[j]?=some h→(bW (x::xs))[j]?=some u→∃ (k:Nat) (y:Cell Tg),(x::xs)[k]?=some y∧y.v=u∧gk s (c+k) y.er=some h:=by
   intro h e;split at h
   ·rename_i h0 hs0 e1 e2;simp only[Option.some.injEq] at h;subst h;obtain ⟨h1,h2⟩:=qv e2
    rw[e];refine ⟨by simp[h1],fun j hh u hj hu=>?_⟩
    cases j with
    | zero=>
     simp only[List.getElem?_cons_zero,Option.some.injEq] at hj hu
     exact ⟨0,x,rfl,hu,by rw[Nat.add_zero,←hj];exact e1⟩
    | succ j=>
     obtain ⟨k,y,k1,k2,k3⟩:=h2 j hh u (by simpa using hj) (by simpa using hu)
     exact ⟨k+1,y,by simpa using k1,k2,by rw[←k3];congr 1;omega⟩
   ·cases h
  obtain ⟨v,f⟩:=x
  cases f<;>first | exact keep h rfl | exact other h rfl
mutual
def upA:V→A
 | .int k n=> .int k n
 | .bool b=> .bool b
 | .str s=> .str s
 | .row _ es=> .row ⟨none,0,0⟩ (upR es)
 | .ptr _ cs=> .ptr ⟨none,0,0⟩ (upL cs)
 | .fn g caps=> .fn g (upL caps)
def upL:List V→List A
 | []=>[]
 | c::cs=>upA c::upL cs
def upR:List (List V)→List (List A)
 | []=>[]
 | e::es=>upL e::upR es
end
mutual
theorem H4:∀ v:V,(upA v).er=v
 | .int _ _=>rfl
 | .bool _=>rfl
 | .str _=>rfl
 | .row _ es=>by rw[upA,VA.er,EZ es]
 | .ptr _ cs=>by rw[upA,VA.er,ux cs]
 | .fn _ caps=>by rw[upA,VA.er,ux caps]
theorem ux:∀ cs:List V,erL (upL cs)=cs
 | []=>rfl
 | c::cs=>by rw[upL,erL,H4 c,ux cs]
theorem EZ:∀ es:List (List V),erR (upR es)=es
 | []=>rfl
 | e::es=>by rw[upR,erR,ux e,EZ es]
end
section
variable {E:Env} {cx:Cx} {S:StA} {X:List (Cell Tg)} {C:Nat→Nat→Prop} {a:Act} {w w':World}
theorem DL (h:Inv E S X C a w) {s c:Nat} {x:Cell Tg} (hx:aD S s c=some x) {p q:Nat} {ix:Option Nat} (hh:gk s c x.er=some (p,q,ix)) {t:Tg} {es:List (List A)} {f:Fl} (hy:aD S p q=some ⟨.row t es,f⟩) (hf:f= .ow false∨∃ i,f= .mp i):
  match ix with | none=>x.v= .row t es | some i=>es.flatten[i]?=some x.v:=by
 obtain ⟨sl,hs,hc⟩:=aE hx
 have hk:=h.cells s sl hs x (List.mem_of_getElem? hc);have self:some (s,c,none)=some (p,q,ix)→match ix with | none=>x.v= .row t es | some i=>es.flatten[i]?=some x.v:=by
  intro e;simp only[Option.some.injEq,Prod.mk.injEq] at e;obtain ⟨rfl,rfl,rfl⟩:=e
  rw[hx] at hy;have:=Option.some.inj hy
  show x.v=_;rw[this]
 have hff:(∃ g,f= .ow g)∨∃ i,f= .mp i:=hf.imp (fun h=>⟨false,h⟩) id
 obtain ⟨v,fx⟩:=x
 cases fx with
 | ow g=>cases g<;>first | exact self hh | (simp[gk,Cell.er] at hh;done)
 | nw g=>cases g<;>first | exact self hh | (simp[gk,Cell.er] at hh;done)
 | mp i=>exact self hh
 | cp ck s' c' ix'=>
  simp only[gk,Cell.er,Option.some.injEq,Prod.mk.injEq] at hh;obtain ⟨rfl,rfl,rfl⟩:=hh
  have hcp:=hk.2.2.1.2 _ hy hff;cases ix' with
  | none=>exact hcp.symm
  | some i=>
   obtain ⟨t1,es1,e1,e2⟩:=hcp
   have e1:(VA.row t es:A)= .row t1 es1:=e1;simp only[VA.row.injEq] at e1;obtain ⟨rfl,rfl⟩:=e1
   exact e2
 | _=>simp[gk,Cell.er] at hh
theorem jP {T:StA} {p:Fl→Bool} {h:jp} (hh:qu p (erS T) h=true):∃ t es f,aD T h.1 h.2.1=some ⟨.row t es,f⟩∧p f=true∧(f= .ow false∨∃ i,f= .mp i):=by
 unfold qu at hh;split at hh
 ·rename_i es f hrow;obtain ⟨t,esA,hc,_,hf⟩:=yL hrow
  exact ⟨t,esA,f,hc,hh,hf⟩
 ·cases hh
theorem wB {p q:Nat} {t:Tg} {es:List (List A)} {f:Fl} (_h:Inv E S X C a w) (hc:aD S p q=some ⟨.row t es,f⟩) (hf:f= .ow false∨∃ i,f= .mp i) (hT:∃ y,aD (dF S) p q=some y):aD (dF S) p q=some ⟨.row t es,f⟩:=by
 obtain ⟨y,hy⟩:=hT
 obtain ⟨sl,hs,hcc⟩:=aE hc
 obtain ⟨sl',hs',hcc'⟩:=aE hy
 obtain ⟨s0,hs0,rfl⟩:=dJ hs'
 rw[hs] at hs0;obtain rfl:=Option.some.inj hs0
 rcases fw sl with ⟨_,hcs⟩ | ⟨_,hcs,_⟩
 ·rw[hy];rw[hcs,List.getElem?_map,hcc] at hcc'
  simp only[Option.map_some,Option.some.injEq] at hcc';rw[←hcc'];rcases hf with rfl | ⟨i,rfl⟩<;>rfl
 ·rw[hcs] at hcc';simp at hcc'
theorem Gi {rs:List SA} {v:Value} (hv:v=gY E.sid rs) (hk:∀ s∈rs,(s.k= .val∧∃ c,s.cs=[c])∨s.k= .agg):SlV E.sid S (bL rs) v:=by
 match rs,hk with
 | [],_=>exact hv
 | [s],hk=>
  rcases hk s (by simp) with ⟨hk,c,hc⟩ | hk
  ·show SlV E.sid S s v;unfold SlV;rw[hk];exact ⟨c,hc,by rw[hv];simp[gY,bm,hk,hc]⟩
  ·show SlV E.sid S s v;unfold SlV;rw[hk];simp only[hv,gY,bm,hk]
 | s::s'::ss,hk=>
  show v=_;rw[hv];simp only[gY,bL,kG hk]
theorem vC (hf:Fits E cx) (h:Inv E S X C a w):∀ (os:List Operand) {xs:List Opd},bU (bj cx) os=some xs→∀ {ys:List SU} {st1:St},(EJ xs).run (erS S)=some (ys,st1)→ys.all uf=true→
  st1=erS S∧∃ zs:List SA,zs.map Sl.er=ys∧zs.map (bm E.sid)=os.map a.eval∧∀ z∈zs,(z.k= .val∧∃ c,z.cs=[c])∧∀ x∈z.cs,x.f= .sc∧scal x.v=true
 | [],xs,hc,ys,st1,hr,_=>by
  simp only[bU,Option.some.injEq] at hc;subst hc;obtain ⟨rfl,rfl⟩:=au hr
  exact ⟨rfl,[],rfl,rfl,by simp⟩
 | o::os,xs,hc,ys,st1,hr,hall=>by
  unfold bU at hc;cases h1:bj cx o with
  | none=>simp[h1] at hc
  | some x=>cases h2:bU (bj cx) os with
   | none=>simp[h1,h2] at hc
   | some xs'=>
    simp[h1,h2] at hc;subst hc;unfold EJ at hr;obtain ⟨s,st2,h3,h4⟩:=FM.bind_some hr
    clear hr;obtain ⟨rfl,s0,rfl,hop⟩:=da hf h h1 h3
    obtain ⟨ys',st4,h7,h8⟩:=FM.bind_some h4
    clear h4;obtain ⟨rfl,rfl⟩:=au h8
    simp only[List.all_cons,Bool.and_eq_true] at hall;obtain ⟨rfl,zs,rfl,e3,e4⟩:=vC hf h os h2 h7 hall.2
    have hsc:=hall.1;simp only[uf,Bool.and_eq_true,bg,aP,List.all_map,List.all_eq_true,Function.comp] at hsc;obtain ⟨hk,hfl⟩:=hsc
    have hkv:s0.k= .val:=by
     cases hk':s0.k<;>rw[hk'] at hk<;>simp[Kd.er] at hk ⊢
    have hfl':∀ x∈s0.cs,x.f= .sc:=fun x hx=>of_decide_eq_true (hfl x hx)
    have hfin:(∃ c,s0.cs=[c]∧a.eval o=c.v.val E.sid)∧∀ x∈s0.cs,scal x.v=true:=by
     cases hop with
     | slot i s hi hs hv=>
      unfold SlV at hv;rw[hkv] at hv;refine ⟨hv,fun x hx=>?_⟩
      have hk:=h.cells i s0 hs x hx;have hf:=hfl' x hx;obtain ⟨v,f⟩:=x
      simp only at hf;subst hf;exact hk
     | const agg vs s hk he hok hv h1'=>
      refine ⟨?_,fun x hx=>?_⟩
      ·cases agg with
       | true=>rw[hk] at hkv;simp at hkv
       | false=>
        obtain ⟨z,hz⟩:=h1' rfl
        exact ⟨z,hz,by rw[hv,hz];simp⟩
      ·have hk:=(hok x hx).1;have hf:=hfl' x hx;obtain ⟨v,f⟩:=x
       simp only at hf;subst hf;exact hk
     | fn g hv=>have:=hfl' _ (List.mem_singleton.2 rfl);simp at this
    obtain ⟨⟨c,hc,hv⟩,hsc⟩:=hfin
    refine ⟨rfl,s0::zs,rfl,?_,fun z hz=>?_⟩
    ·simp only[List.map_cons,e3,List.cons.injEq,and_true];simp[bm,hkv,hc,hv]
    ·rcases List.mem_cons.1 hz with rfl | hz
     ·exact ⟨⟨hkv,c,hc⟩,fun x hx=>⟨hfl' x hx,hsc x hx⟩⟩
     ·exact e4 z hz
theorem yJ {rs:List SA} (h:∀ s∈rs,∀ x∈s.cs,x.f= .sc∧scal x.v=true):∀ x∈(bL rs).cs,x.f= .sc∧scal x.v=true:=by
 intro x hx;rw[qQ] at hx;obtain ⟨s,hs,hxs⟩:=List.mem_flatMap.1 hx
 exact h s hs x hxs
theorem zJ {orac:dH} {modes:bO} (hf:Fits E cx) (h:Inv E S [] C a w) (hb:E.base≤w.heap.size) (hO:∀ g,dG E.P E.sid orac g) {o:Oper} {k:Call} (ho:o.op= .call k) {f g:Nat} (hk:k.callee= .value (.func f)) (hg:cx.canon f=some g) {xs:List Opd} (hc:bU (bj cx) k.args.toList=some xs)
  {st1:St} (hr:sG orac modes E.nt o.dst g xs (erS S)=some st1):
  ∃ fn args,(execOp a.eval o).run E.P w= .ok (.enter fn args) w∧Calls E.P fn args w fun e w'=>∃ v S1 C1,e= .returned v∧erS S1=st1∧Inv E S1 [] C1 (a.put o.dst v) w'∧Frame E w w':=by
 unfold sG at hr;split at hr
 ·rename_i ms x xs hmod;split at hr
  ·cases hr
  ·obtain ⟨sl,st2,h1,h2⟩:=dj hr
   clear hr;cases hal:k.args.toList with
   | nil=>rw[hal] at hc;simp[bU] at hc
   | cons ox os=>
    rw[hal] at hc;unfold bU at hc;cases hx:bj cx ox with
    | none=>simp[hx] at hc
    | some x'=>
     cases hxs:bU (bj cx) os with
     | none=>simp[hx,hxs] at hc
     | some xs'=>
      simp only[hx,hxs,Option.some.injEq,List.cons.injEq] at hc;obtain ⟨rfl,rfl⟩:=hc
      obtain ⟨rfl,s0,rfl,hop⟩:=da hf h hx h1
      split at h2
      ·rename_i hkd;split at h2
       ·cases h2
       ·rename_i hs hhs;split at h2
        ·rename_i hcond;simp only[Bool.and_eq_true] at hcond;obtain ⟨hapart,hhome⟩:=hcond
         obtain ⟨as,st3,h3,h4⟩:=dj h2
         clear h2;split at h4
         ·rename_i hsc;obtain ⟨rfl,zs,rfl,e3,e4⟩:=vC hf h os hxs h3 hsc
          split at h4
          ·rename_i rs outs hor;split at h4
           ·rename_i st' hput;rw[aP] at hhs;obtain ⟨hlen,hhv⟩:=qv hhs
            have hkva:s0.k= .val∨s0.k= .agg:=by
             rw[bg] at hkd;cases hk':s0.k<;>rw[hk'] at hkd<;>simp[Kd.er,AW] at hkd ⊢
            have hsval:bm E.sid ⟨s0.k,cm 0 s0.cs⟩=a.eval ox∧(s0.k= .val→∃ c,s0.cs=[c]):=by
             have hm:(cm 0 s0.cs).map (·.v.val E.sid)=s0.cs.map (·.v.val E.sid):=d9 (oP s0.cs 0);have fin:(s0.k= .val→∃ c,s0.cs=[c]∧a.eval ox=c.v.val E.sid)→(s0.k= .agg→a.eval ox= .agg (s0.cs.map (·.v.val E.sid)).toArray)→bm E.sid ⟨s0.k,cm 0 s0.cs⟩=a.eval ox∧(s0.k= .val→∃ c,s0.cs=[c]):=by
              intro h1 h2;refine ⟨?_,fun hk=>(h1 hk).imp fun _ h=>h.1⟩
              rcases hkva with hk | hk
              ·obtain ⟨c,hc,hv⟩:=h1 hk
               obtain ⟨c',hc',hv'⟩:=fA hm hc
               simp only[bm,hk,hc',hv,hv']
              ·simp only[bm,hk,h2 hk,hm]
             cases hop with
             | slot i s hi hs hv=>
              refine fin (fun hk=>?_) (fun hk=>?_)
              ·unfold SlV at hv;rw[hk] at hv;exact hv
              ·unfold SlV at hv;rw[hk] at hv;exact hv
             | const agg vs s hk he hok hv h1'=>
              refine fin (fun hk0=>?_) (fun hk0=>?_)
              ·cases agg with
               | true=>rw[hk] at hk0;simp at hk0
               | false=>
                obtain ⟨z,hz⟩:=h1' rfl
                exact ⟨z,hz,by rw[hv,hz];simp⟩
              ·cases agg with
               | false=>rw[hk] at hk0;simp at hk0
               | true=>simpa using hv
             | fn g hv=>exact fin (fun _=>⟨_,rfl,by rw[hv];simp[VA.val]⟩) (fun hk=>by simp at hk)
            have hstand:∀ (j p q:Nat) (ix:Option Nat) (u:A),hs[j]?=some (p,q,ix)→(bW s0.cs)[j]?=some u→
              ∀ t es fl,aD S p q=some ⟨.row t es,fl⟩→(fl= .ow false∨∃ i,fl= .mp i)→match ix with | none=>u= .row t es | some i=>es.flatten[i]?=some u:=by
             intro j p q ix u hj hu t es fl hcell hfl;obtain ⟨kk,xx,k1,k2,k3⟩:=hhv j (p,q,ix) u hj hu
             rw[Nat.zero_add] at k3;cases hop with
             | slot i s hi hs hv=>
              have:=DL h (bN hs k1) (by simpa [AI] using k3) hcell hfl
              rw[←k2];cases ix<;>exact this
             | const agg vs s hk he hok hv h1'=>
              have hm:=hok xx (List.mem_of_getElem? k1);obtain ⟨v,f⟩:=xx
              have h5:=hm.2.1;have h6:=hm.2.2;cases f<;>simp[eO,aN,gk,Cell.er] at h5 h6 k3
             | fn g hv=>
              simp only[List.getElem?_singleton] at k1
              split at k1
              ·simp only[Option.some.injEq] at k1;subst k1;simp[gk,Cell.er] at k3
              ·cases k1
            have hl:=h.lose;simp only[List.map_nil] at hl;obtain ⟨p1,p2⟩:=vk (S:=S)
            have hkindOf:∀ (p q:Nat) ix,(p,q,ix)∈hs→∃ t es fl,aD S p q=some ⟨.row t es,fl⟩∧(fl= .ow false∨∃ i,fl= .mp i):=by
             intro p q ix hm;unfold sY at hhome;simp only[Bool.or_eq_true,List.all_eq_true] at hhome;rcases hhome with hh | hh
             ·obtain ⟨t,es,fl,h1,_,h3⟩:=jP (hh _ hm)
              exact ⟨t,es,fl,h1,h3⟩
             ·obtain ⟨t,es,fl,h1,_,h3⟩:=jP (hh _ hm)
              exact ⟨t,es,fl,h1,h3⟩
            have husEq:∀ {us vs:List A} {T:StA},Puts hs us vs (dF S) T→us=bW s0.cs:=by
             intro us vs T hp;apply List.ext_getElem?;intro j;cases hj:us[j]? with
             | none=>
              rw[List.getElem?_eq_none_iff,hp.len.1,hlen] at hj
              rw[List.getElem?_eq_none hj]
             | some u=>
              have hjl:j < hs.length:=by rw[←hp.len.1];exact (List.getElem?_eq_some_iff.1 hj).1
              obtain ⟨⟨p,q,ix⟩,hjh⟩:∃ y,hs[j]?=some y:=⟨_,List.getElem?_eq_getElem hjl⟩
              obtain ⟨u',hu'⟩:∃ y,(bW s0.cs)[j]?=some y:=⟨_,List.getElem?_eq_getElem (by rw[←hlen];exact hjl)⟩
              obtain ⟨t,es,fl,q1,q2⟩:=hp.were hapart j p q ix u hjh hj
              obtain ⟨t1,es1,fl1,q3,q4⟩:=hkindOf p q ix (List.mem_of_getElem? hjh)
              have q5:=wB h q3 q4 ⟨_,q1⟩;rw[q1] at q5;simp only[Option.some.injEq,Cell.mk.injEq,VA.row.injEq] at q5;obtain ⟨⟨rfl,rfl⟩,rfl⟩:=q5
              have q6:=hstand j p q ix u' hjh hu' t es fl q3 q4;rw[hu'];cases ix with
              | none=>rw[q2,q6]
              | some i=>rw[←q2,←q6]
            have hflT:(∀ (s c:Nat) ix,(s,c,ix)∈hs→∀ y,aD (dF S) s c=some y→y.f= .ow false)∨∀ (s c:Nat) ix,(s,c,ix)∈hs→∀ y,aD (dF S) s c=some y→∃ i,y.f= .mp i:=by
             unfold sY at hhome;simp only[Bool.or_eq_true,List.all_eq_true] at hhome;refine hhome.imp (fun hh s c ix hm y hy=>?_) (fun hh s c ix hm y hy=>?_)
             ·obtain ⟨t,es,fl,h1,h2,h3⟩:=jP (hh _ hm)
              have:=wB h h1 h3 ⟨y,hy⟩
              rw[hy] at this;rw[Option.some.inj this];rcases h3 with rfl | ⟨i,rfl⟩
              ·rfl
              ·simp[Hq] at h2
             ·obtain ⟨t,es,fl,h1,h2,h3⟩:=jP (hh _ hm)
              have:=wB h h1 h3 ⟨y,hy⟩
              rw[hy] at this;rw[Option.some.inj this];rcases h3 with rfl | ⟨i,rfl⟩
              ·simp[Cn] at h2
              ·exact ⟨i,rfl⟩
            rw[←tB] at hput;have hholes:∃ T,Puts hs (bW s0.cs) ((bW s0.cs).map fun _=> .row ⟨none,0,0⟩ []) (dF S) T∧(∀ b,((bW s0.cs).flatMap VA.blks).count b≤(aA (dF S) []).count b):=by
             have hpre:∃ us vs T,Puts hs us vs (dF S) T:=by
              have hup:outs=(upL outs).map VA.er:=by rw[←il,ux]
              rw[hup] at hput;obtain ⟨us,T,q1,_⟩:=i9 hput
              exact ⟨us,_,T,q1⟩
             obtain ⟨us,vs,T,hp⟩:=hpre
             obtain rfl:=husEq hp
             obtain ⟨T',hT'⟩:=hp.other hapart ((bW s0.cs).map fun _=> .row ⟨none,0,0⟩ []) (by simp[hlen]) (dF S) (fun p q=> .inr (.inl rfl))
             refine ⟨T',hT',fun b=>?_⟩
             have h1:=hT'.count b;have h2:(((bW s0.cs).map fun _=>(VA.row ⟨none,0,0⟩ []:A)).flatMap VA.blks).count b=0:=by
              rw[List.count_eq_zero];intro hm;obtain ⟨v,hv,hbv⟩:=List.mem_flatMap.1 hm
              obtain ⟨_,_,rfl⟩:=List.mem_map.1 hv
              simp[VA.blks,gh] at hbv
             omega
            obtain ⟨T0,hT0,hucnt⟩:=hholes
            have huin:∀ b∈(bW s0.cs).flatMap VA.blks,b∈aA (dF S) []:=by
             intro b hb';have h1:=List.count_pos_iff.2 hb';have h2:=hucnt b;exact List.count_pos_iff.1 (by omega)
            have hushp:∀ (j:Nat) (u:A),(bW s0.cs)[j]?=some u→Shp E.sid w E.old u∧aY u=true:=by
             intro j u hu;have hjl:j < hs.length:=by rw[hlen];exact (List.getElem?_eq_some_iff.1 hu).1
             obtain ⟨⟨p,q,ix⟩,hjh⟩:∃ y,hs[j]?=some y:=⟨_,List.getElem?_eq_getElem hjl⟩
             obtain ⟨t,es,fl,q1,q2⟩:=hT0.were hapart j p q ix u hjh hu
             obtain ⟨sl,hsl,hcl⟩:=aE q1
             have hkk:=hl.cells p sl hsl _ (List.mem_of_getElem? hcl);have hrow:Shp E.sid w E.old (.row t es):=by
              rcases hflT with hh | hh
              ·have:=hh p q ix (List.mem_of_getElem? hjh) _ q1
               simp only at this;subst this;have:=hkk.2.1
               simpa [Shp'] using this
              ·obtain ⟨i,this⟩:=hh p q ix (List.mem_of_getElem? hjh) _ q1
               simp only at this;subst this;exact hkk.1
             have hisrow:aY u=true:=by
              obtain ⟨kk,xx,k1,k2,k3⟩:=hhv j (p,q,ix) u hjh hu
              rw[←k2];cases hop with
              | slot i s hi hs hv=>
               have hck:=h.cells i s0 hs xx (List.mem_of_getElem? k1);obtain ⟨v,f⟩:=xx
               cases f with
               | ow g=>exact hck.1
               | nw g=>exact hck.1
               | mp i=>
                obtain ⟨_,⟨t,es,e1,_⟩,_⟩:=hck
                have e1:v= .row t es:=e1;rw[e1];rfl
               | cp ck s' c' ix'=>exact hck.1
               | _=>simp[gk,Cell.er] at k3
              | const agg vs s hk he hok hv h1'=>
               have hm:=hok xx (List.mem_of_getElem? k1);obtain ⟨v,f⟩:=xx
               have h5:=hm.2.1;have h6:=hm.2.2;cases f<;>simp[eO,aN,gk,Cell.er] at h5 h6 k3
              | fn g hv=>
               simp only[List.getElem?_singleton] at k1
               split at k1
               ·simp only[Option.some.injEq] at k1;subst k1;simp[gk,Cell.er] at k3
               ·cases k1
             cases ix with
             | none=>rw[q2];exact ⟨hrow,rfl⟩
             | some i=>exact ⟨hrow.el (List.mem_of_getElem? q2),hisrow⟩
            obtain ⟨E',hE'⟩:∃ E':Env,E'=⟨E.P,E.sid,0,w.heap.size,E.old,fun b=>b∈(bW s0.cs).flatMap VA.blks,fun _ _=>none,fun j=>match (bW s0.cs)[j]? with | some (.row t es)=>some (t,es.length) | _=>none,⟨none,0,0⟩⟩:=⟨_,rfl⟩
            have hargs:((⟨s0.k,cm 0 s0.cs⟩:SA)::zs).map Sl.er=(⟨s0.er.k,jS 0 s0.er.cs⟩:SU)::zs.map Sl.er:=by
             simp only[List.map_cons,Sl.er,rI]
            rw[←hargs] at hor;have hvals:((⟨s0.k,cm 0 s0.cs⟩:SA)::zs).map (bm E.sid)=a.eval ox::os.map a.eval:=by
             simp only[List.map_cons,hsval.1,e3]
            have hzown:∀ z∈zs,z.own=[]:=fun z hz=>iZ (by intro t;rw[(e4 z hz).1.1];simp) (fun x hx=>by rw[((e4 z hz).2 x hx).1];rfl)
            have hown:((⟨s0.k,cm 0 s0.cs⟩:SA)::zs).flatMap Sl.own=(bW s0.cs).flatMap VA.blks:=by
             have h1:zs.flatMap Sl.own=[]:=by
              rw[List.flatMap_eq_nil_iff];exact hzown
             simp only[List.flatMap_cons,h1,List.append_nil];unfold Sl.own;have h2:Sl.boxOwn (⟨s0.k,cm 0 s0.cs⟩:SA)=[]:=by
              rcases hkva with hk | hk<;>simp[Sl.boxOwn,hk]
             rw[h2,pB];rfl
            have hcellOk:∀ x∈cm 0 s0.cs,COk E' w E.old [] [] x∧(x.f= .sc∨x.f= .nl∨∃ i,x.f= .mp i):=by
             intro x hx;rcases lN hx with ⟨hfx,hm⟩ | ⟨j,hfx,hj⟩
             ·have hok0:COk E w C S [] x:=by
               cases hop with
               | slot i s hi hs hv=>exact h.cells i s0 hs x hm
               | const agg vs s hk he hok hv h1'=>exact (hok x hm).1
               | fn g hv=>
                simp only[List.mem_singleton] at hm;subst hm;simp at hfx
              obtain ⟨v,f⟩:=x
              rcases hfx with hfx | hfx
              ·simp only at hfx;subst hfx;exact ⟨hok0, .inl rfl⟩
              ·simp only at hfx;subst hfx;exact ⟨hok0, .inr (.inl rfl)⟩
             ·rw[Nat.zero_add] at hfx;obtain ⟨hshp,hrow⟩:=hushp j x.v hj
              obtain ⟨v,f⟩:=x
              simp only at hfx;subst hfx;cases v with
              | row t es=>
               refine ⟨⟨by rw[hE'];exact hshp,⟨t,es,rfl,by rw[hE'];simp only[hj]⟩,fun b hb'=> .inr ?_⟩, .inr (.inr ⟨j,rfl⟩)⟩
               rw[hE'];exact List.mem_flatMap.2 ⟨_,List.mem_of_getElem? hj,hb'⟩
              | _=>simp[aY] at hrow
            have hzOk:∀ z∈zs,∀ x∈z.cs,COk E' w E.old [] [] x∧x.f= .sc:=by
             intro z hz x hx;obtain ⟨q1,q2⟩:=(e4 z hz).2 x hx
             obtain ⟨v,f⟩:=x
             simp only at q1;subst q1;exact ⟨q2,rfl⟩
            have hentry:Entry E' w ((⟨s0.k,cm 0 s0.cs⟩:SA)::zs):=by
             refine ⟨by rw[hE'],fun i s hs=>?_,fun s hs x hx=>?_,fun s hs x hx=>?_,fun s hs t' hk=>?_,fun b=>?_,fun b hb'=>?_,fun b j hj=>?_⟩
             ·cases i with
              | zero=>
               simp only[List.getElem?_cons_zero,Option.some.injEq] at hs
               subst hs;rcases hkva with hk | hk
               ·obtain ⟨c,hc⟩:=hsval.2 hk
                obtain ⟨c',hc',_⟩:=fA (oP s0.cs 0) hc
                exact .inl ⟨hk,c',hc'⟩
               ·exact .inr (.inl hk)
              | succ i=>
               have:=List.mem_of_getElem? (by simpa using hs:zs[i]?=some s)
               exact .inl (e4 s this).1
             ·rcases List.mem_cons.1 hs with rfl | hs
              ·rcases (hcellOk x hx).2 with h | h | h
               ·exact .inl h
               ·exact .inr (.inr (.inr (.inl h)))
               ·exact .inr (.inr (.inr (.inr h)))
              ·exact .inl (hzOk s hs x hx).2
             ·have hold:E'.old=E.old:=by rw[hE']
              rw[hold];rcases List.mem_cons.1 hs with rfl | hs
              ·exact (hcellOk x hx).1
              ·exact (hzOk s hs x hx).1
             ·exfalso
              rcases List.mem_cons.1 hs with rfl | hs
              ·rcases hkva with hk' | hk'<;>rw[hk'] at hk<;>simp at hk
              ·rw[(e4 s hs).1.1] at hk;simp at hk
             ·rw[hown];have:=hucnt b
              have:=hl.cnt b
              omega
             ·rw[hown] at hb';rw[hE'];exact hl.ownlt b (huin b hb')
             ·rw[hE'] at hj;exact hl.clt b j hj
            obtain ⟨k1,k2⟩:=hO g E' w _ _ (by rw[hE']) (by rw[hE']) hentry hor
            rw[hvals] at k1 k2;have hex:=nM (a:=a) ho hk (Au hf hg);have hargv:(k.args.map a.eval++#[])=(a.eval ox::os.map a.eval).toArray:=by
             rw[←Array.toList_inj];simp[hal]
            rw[hargv] at hex;refine ⟨_,_,by rw[hex];exact k1,Calls.mono k2 ?_⟩
            rintro e w' ⟨v,rsA,outsA,C',he,hle⟩
            have houter:outsA.map VA.er=outs:=hle.outer;rw[←houter] at hput;obtain ⟨us,S',hp,hS'⟩:=i9 hput
            obtain rfl:=husEq hp
            have hsid:E'.sid=E.sid:=by rw[hE']
            have hbase:E'.base=w.heap.size:=by rw[hE']
            have hmend:Inv E S' [] E.old a w':=by
             refine Km hl p1 p2 hp hapart hflT hle.frame.size (fun b hb1 hb2=>?_) (fun j u v' hu hv'=>?_) (fun b=>?_) hb
             ·refine hle.frame.block b (by rw[hbase];exact hb1) (fun hc=>hb2 ?_)
              rw[hE'] at hc;exact hc
             ·obtain ⟨q1,⟨t,es,q2,q3⟩,q4⟩:=hle.outok j v' hv'
              rw[hsid] at q1;have q3':(match (bW s0.cs)[j]? with | some (.row t es)=>some (t,es.length) | _=>none:Option (Tg×Nat))=some (t,es.length):=by
               have:=q3;rw[hE'] at this;exact this
              rw[hu] at q3';cases u with
              | row tu esu=>
               simp only[Option.some.injEq,Prod.mk.injEq] at q3';obtain ⟨rfl,q5⟩:=q3'
               refine ⟨q1.mono (fun b hb' j hj=>?_) (fun _ _=>rfl),⟨tu,esu,es,rfl,q2,q5.symm⟩,fun b hb'=>?_⟩
               ·exact absurd hj (by have:=(q4 b hb').2.2 j;rw[hE'] at this;exact this)
               ·obtain ⟨m1,m2,m3⟩:=q4 b hb'
                refine ⟨?_,m2,fun j=>?_⟩
                ·rcases m1 with m1 | m1
                 ·rw[hbase] at m1;exact .inl m1
                 ·rw[hE'] at m1;exact .inr m1
                ·have:=m3 j;rw[hE'] at this;exact this
              | _=>simp at q3'
             ·have:=hle.cnt b;omega
            have hfr:Frame E w w':=by
             refine ⟨hle.frame.os,hle.frame.tape,hle.frame.output,hle.frame.size,fun b hbl hn=>hle.frame.block b (by rw[hbase];omega) (fun hc=>?_)⟩
             rw[hE'] at hc;have hc:b∈(bW s0.cs).flatMap VA.blks:=hc;obtain ⟨u,hu,hbu⟩:=List.mem_flatMap.1 hc
             obtain ⟨j,hj⟩:=List.mem_iff_getElem?.1 hu
             have hjl:j < hs.length:=by rw[hlen];exact (List.getElem?_eq_some_iff.1 hj).1
             obtain ⟨⟨p,q,ix⟩,hjh⟩:∃ y,hs[j]?=some y:=⟨_,List.getElem?_eq_getElem hjl⟩
             obtain ⟨t,es,fl,q1,q2⟩:=hp.were hapart j p q ix u hjh hj
             have hbin:b∈(VA.row t es:A).blks:=by
              cases ix with
              | none=>rw[q2] at hbu;exact hbu
              | some i=>exact dD (List.mem_of_getElem? q2) hbu
             obtain ⟨sl,hsl,hcl⟩:=aE q1
             have hck:=hl.cells p sl hsl _ (List.mem_of_getElem? hcl);rcases hflT with hh | hh
             ·have:=hh p q ix (List.mem_of_getElem? hjh) _ q1
              simp only at this;subst this;have:=hck.2.2 b hbin
              omega
             ·obtain ⟨i,this⟩:=hh p q ix (List.mem_of_getElem? hjh) _ q1
              simp only at this;subst this;rcases hck.2.2 b hbin with h9 | h9
              ·omega
              ·exact hn h9
            split at h4
            ·rename_i d hd;rw[hd];split at h4
             ·rename_i old hold;split at h4
              ·rename_i hh;obtain ⟨hfree,hdn,hrsc⟩:=hh
               simp only[Option.some.injEq] at h4;subst h4;rw[←hS'] at hold ⊢;obtain ⟨o1,ho1,rfl⟩:=bJ hold
               have hrsE:rsA.map Sl.er=rs:=hle.er;have hrk:∀ s∈rsA,(s.k= .val∧∃ c,s.cs=[c])∧∀ x∈s.cs,x.f= .sc∧scal x.v=true:=by
                intro s hs';have:=List.all_eq_true.1 hrsc s.er (by rw[←hrsE];exact List.mem_map_of_mem hs')
                simp only[uf,Bool.and_eq_true,bg,aP,List.all_map,List.all_eq_true,Function.comp] at this;obtain ⟨hk,hfl⟩:=this
                have hkv:s.k= .val:=by
                 cases hk':s.k<;>rw[hk'] at hk<;>simp[Kd.er] at hk ⊢
                refine ⟨?_,fun x hx=>?_⟩
                ·rcases hle.kinds s hs' with h1 | h1 | ⟨⟨t,h1⟩,_⟩
                 ·exact h1
                 ·rw[hkv] at h1;simp at h1
                 ·rw[hkv] at h1;simp at h1
                ·have h1:x.f= .sc:=of_decide_eq_true (hfl x hx);have h2:=hle.cells s hs' x hx;obtain ⟨v,f⟩:=x
                 simp only at h1;subst h1;exact ⟨rfl,h2⟩
               have hsl:=yJ (fun s hs' x hx=>(hrk s hs').2 x hx)
               have hadd:Inv E S' ((bL rsA).cs++[]) E.old a w':=hmend.addAll _ (fun z hz=>by
                obtain ⟨q1,q2⟩:=hsl z hz
                obtain ⟨v,f⟩:=z
                simp only at q1;subst q1;exact ⟨q2,rfl, .inl (by simp)⟩)
               have hnk:(∀ t,(bL rsA).k≠ .box t)∧(∀ t src ix,(bL rsA).k≠ .ept t src ix)∧¬((bL rsA).k= .dead∨(bL rsA).k= .und∨(∃ r o,(bL rsA).k= .ptr r o)∨∃ g rs,(bL rsA).k= .clo g rs):=by
                match rsA,hrk with
                | [],_=>exact ⟨by simp[bL],by simp[bL],by simp[bL]⟩
                | [s],hrk=>
                 have:=(hrk s (by simp)).1.1
                 exact ⟨by simp[bL,this],by simp[bL,this],by simp[bL,this]⟩
                | s::s'::ss,_=>exact ⟨by simp[bL],by simp[bL],by simp[bL]⟩
               refine ⟨v,S'.set d (bL rsA),E.old,he,by rw[fi,qR,hrsE],?_,hfr⟩
               refine hadd.put hdn ho1 (lD hmend ho1 hfree) rfl hnk.1 (Gi (by rw[hle.val,hsid]) (fun s hs'=> .inl (hrk s hs').1)) (fun hk=>absurd hk hnk.2.2) (fun t src ix hk=>absurd hk (hnk.2.1 t src ix))
              ·cases h4
             ·cases h4
            ·rename_i hd;simp only[Option.some.injEq] at h4;subst h4;rw[hd];exact ⟨v,S',E.old,he,hS',hmend,hfr⟩
           ·cases h4
          ·cases h4
         ·cases h4
        ·cases h2
      ·cases h2
 ·cases hr
end
end Go.Vm
end
section
namespace Go.Vm
structure CompIo (cx:Cx) (inRow:Nat→Bool) (ops:Array Oper) (io:Io) (o:Oper):Prop where
 dst:io.dst=o.dst
 op:io.op=(cOp cx inRow o).getD .bad
 guard:(o.guard=none∧io.guard=none)∨∃ j b d,o.guard=some (j,b)∧io.guard=some (d,b)∧d < cx.nt∧(ops[j]?).bind (·.dst)=some d
section
variable {E:Env} {cx:Cx} {S:StA} {X:List (Cell Tg)} {C:Nat→Nat→Prop} {a:Act} {w w':World} {inRow:Nat→Bool} {ops:Array Oper}
theorem uz (hf:Fits E cx) (h:Inv E S X C a w) {io:Io} {o:Oper} (hc:CompIo cx inRow ops io o) {b:Bool} {st1:St} (hr:(uy io).run (erS S)=some (b,st1)):
  st1=erS S∧Region.wanted o (yielded ops a.tmps)=b:=by
 unfold uy at hr;rcases hc.guard with ⟨h1,h2⟩ | ⟨j,b',d,h1,h2,h3,h4⟩
 ·rw[h2] at hr;obtain ⟨rfl,rfl⟩:=au hr
  exact ⟨rfl,by simp[Region.wanted,h1]⟩
 ·rw[h2] at hr;obtain ⟨s,st2,h5,h6⟩:=FM.bind_some hr
  clear hr;obtain ⟨h7,rfl⟩:=cO h5
  obtain ⟨sA,hs,rfl⟩:=bJ h7
  have hd:d < E.nt:=hf.nt▸h3;have hv:=h.slv d sA hd hs;have hd':d < a.tmps.size:=by rw[h.tsz];exact hd
  have hget:a.tmps[d]?=some (a.tmps.getD d undef):=by simp[hd']
  have hy:yielded ops a.tmps j=match (a.tmps.getD d undef) with | .bool b=>some b | _=>none:=by
   unfold yielded;rw[h4];simp only[Option.bind_some,hget];cases a.tmps.getD d undef<;>rfl
  split at h6
  ·rename_i c hk hcs;have hkv:sA.k= .val:=by
    rw[bg] at hk;cases hk':sA.k<;>rw[hk'] at hk<;>simp[Kd.er] at hk ⊢
   split at h6
   ·rename_i x hx;obtain ⟨rfl,rfl⟩:=au h6
    unfold SlV at hv;rw[hkv] at hv;obtain ⟨z,hz,hv⟩:=hv
    rw[aP,hz] at hcs;simp only[List.map_cons,List.map_nil,List.cons.injEq,and_true] at hcs;rw[←hcs] at hx;have hzb:=sj hx;rw[hv,hzb] at hy;refine ⟨rfl,?_⟩
    simp only[Region.wanted,h1,hy,VA.val];cases x<;>cases b'<;>rfl
   ·exact (aM h6).elim
  ·rename_i hk;have hkv:sA.k= .und:=by
    rw[bg] at hk;cases hk':sA.k<;>rw[hk'] at hk<;>simp[Kd.er] at hk ⊢
   obtain ⟨rfl,rfl⟩:=au h6
   unfold SlV at hv;rw[hkv] at hv;rw[hv] at hy;refine ⟨rfl,?_⟩
   simp only[Region.wanted,h1,hy];rfl
  ·exact (aM h6).elim
theorem AH (hf:Fits E cx) (h:Inv E S [] C a w) {io:Io} {u:Unit} {st1:St} (hr:(um cx.nt io).run (erS S)=some (u,st1)):
  ∃ S1,erS S1=st1∧Inv E S1 [] C (a.put io.dst undef) w:=by
 unfold um at hr;split at hr
 ·rename_i d hd;obtain ⟨old,st2,h1,h2⟩:=FM.bind_some hr
  clear hr;obtain ⟨h3,rfl⟩:=cO h1
  obtain ⟨o,ho,rfl⟩:=bJ h3
  split at h2
  ·rename_i hh;obtain ⟨hfr,hdn⟩:=hh
   obtain ⟨_,rfl⟩:=fH h2
   rw[hd];refine ⟨S.set d ⟨.und,[]⟩,by rw[fi];rfl,?_⟩
   exact Inv.put (zs:=[]) h (hf.nt▸hdn) ho (lD h ho hfr) rfl (by simp) rfl (by simp) (by simp)
  ·exact (aM h2).elim
 ·rename_i hd;obtain ⟨rfl,rfl⟩:=au hr
  rw[hd];exact ⟨S,rfl,h⟩
theorem nC {o:Oper} {v:Value} {K:Act→World→Prop} {Q:Exit→Act→World→Prop} (h:(execOp a.eval o).run E.P w= .ok (.value v) w') (hK:K (a.put o.dst v) w'):o.wp E.P a w K Q:=by
 unfold Oper.wp;rw[h];exact hK
theorem wp_skip {o:Oper} {K:Act→World→Prop} {Q:Exit→Act→World→Prop} (h:(execOp a.eval o).run E.P w= .ok .skip w') (hK:K (a.put o.dst undef) w'):o.wp E.P a w K Q:=by
 unfold Oper.wp;rw[h];exact hK
theorem uB {o:Oper} {f:FuncId} {args:Array Value} {K:Act→World→Prop} {Q:Exit→Act→World→Prop} {R:Ending→World→Prop} (h:(execOp a.eval o).run E.P w= .ok (.enter f args) w) (hc:Calls E.P f args w R)
  (hK:∀ e w',R e w'→∃ v,e= .returned v∧K (a.put o.dst v) w'):o.wp E.P a w K Q:=by
 unfold Oper.wp;rw[h,Oper.upon_enter];refine Calls.mono hc fun e w' hR=>?_
 obtain ⟨v,rfl,hk⟩:=hK e w' hR
 exact hk
theorem xI {orac:dH} {modes:bO} (hf:Fits E cx) (h:Inv E S [] C a w) (hb:E.base≤w.heap.size) (hO:∀ g,dG E.P E.sid orac g) {io:Io} {o:Oper} (hc:CompIo cx inRow ops io o)
  {u:Unit} {st1:St} (hr:(oF orac modes cx.nt io).run (erS S)=some (u,st1)) {K:Act→World→Prop} {Q:Exit→Act→World→Prop}
  (hK:∀ S1 C1 a1 w1,erS S1=st1→Inv E S1 [] C1 a1 w1→Frame E w w1→K a1 w1):o.wp E.P a w K Q:=by
 have hdst:=hc.dst;cases hop:cOp cx inRow o with
 | none=>
  have hb':io.op= .bad:=by rw[hc.op,hop];rfl
  unfold oF at hr;rw[hb'] at hr;split at hr
  ·rename_i h1 _;cases h1
  ·rename_i h1 _;cases h1
  ·obtain ⟨s,st2,h1,_⟩:=FM.bind_some hr
   exact (aM h1).elim
  ·obtain ⟨s,st2,h1,_⟩:=FM.bind_some hr
   exact (aM h1).elim
 | some ir=>
  have hir:io.op=ir:=by rw[hc.op,hop];rfl
  have gen:∀ {d:Option Nat},io.dst=d→((∃ d',d=some d'∧((cY orac modes cx.nt ir).bind fun s=>Ay cx.nt d' s).run (erS S)=some (u,st1))∨(d=none∧((cY orac modes cx.nt ir).bind fun _=>FM.ret ()).run (erS S)=some (u,st1)))→o.wp E.P a w K Q:=by
   intro d hd hcase;rcases hcase with ⟨d',rfl,hr⟩ | ⟨rfl,hr⟩
   ·obtain ⟨s,st2,h1,h2⟩:=FM.bind_some hr
    rw[hf.nt] at h2;rcases nr hf h hb hO hop h1 with ⟨v,w',S1,C1,sA,e1,e2,e3,e4,e5⟩ | ⟨f,args,e1,e2⟩
    ·subst e2;subst e3;obtain ⟨S2,q1,q2⟩:=t7 e4 h2
     refine nC e1 (hK S2 C1 _ w' q1 ?_ e5)
     rw[←hdst,hd];exact q2
    ·refine uB e1 e2 fun e w' hR=>?_
     obtain ⟨v,S1,C1,sA,rfl,e2,e3,e4,e5⟩:=hR
     subst e2;subst e3;obtain ⟨S2,q1,q2⟩:=t7 e4 h2
     refine ⟨v,rfl,hK S2 C1 _ w' q1 ?_ e5⟩
     rw[←hdst,hd];exact q2
   ·obtain ⟨s,st2,h1,h2⟩:=FM.bind_some hr
    obtain ⟨_,rfl⟩:=au h2
    rcases nr hf h hb hO hop h1 with ⟨v,w',S1,C1,sA,e1,e2,e3,e4,e5⟩ | ⟨f,args,e1,e2⟩
    ·refine nC e1 (hK S1 C1 _ w' e2 ?_ e5)
     rw[←hdst,hd];exact e4.drop
    ·refine uB e1 e2 fun e w' hR=>?_
     obtain ⟨v,S1,C1,sA,rfl,e2,e3,e4,e5⟩:=hR
     refine ⟨v,rfl,hK S1 C1 _ w' e2 ?_ e5⟩
     rw[←hdst,hd];exact e4.drop
  unfold oF at hr;rw[hir] at hr;split at hr
  ·rename_i x d hx hd;rcases nF hop with ⟨ox,x',ho,hcx,heq⟩ | ⟨_,heq⟩ | ⟨t,oa,ox,i,x',y',_,_,_,_,heq | heq⟩ | ⟨k,ho,hk⟩ | hp
   ·simp only[Ir.assign.injEq] at heq;subst heq;rw[hf.nt] at hr;obtain ⟨S1,C1,e1,e2,e3⟩:=xr hf h ho hcx hr
    refine nC e1 (hK S1 C1 _ w e2 ?_ (Frame.refl E w))
    rw[←hdst,hd];exact e3
   ·cases heq
   ·cases heq
   ·cases heq
   ·rcases jk hk with ⟨f,g,xs,_,_,_,heq⟩ | ⟨f,xf,xs,_,_,_,heq⟩ | hp
    ·cases heq
    ·cases heq
    ·simp[ej] at hp
   ·simp[ej] at hp
  ·rename_i n xa x hx hd;rcases nF hop with ⟨ox,x',ho,hcx,heq⟩ | ⟨_,heq⟩ | ⟨t,oa,ox,i,x',y',q1,q2,q3,q4,heq | heq⟩ | ⟨k,ho,hk⟩ | hp
   ·cases heq
   ·cases heq
   ·cases heq
   ·simp only[Ir.store.injEq] at heq;obtain ⟨rfl,rfl,rfl⟩:=heq
    rw[hf.P] at q2;obtain ⟨w',S1,C1,e1,e2,e3,e4⟩:=AR hf h q1 q2 q3 q4 hr
    refine wp_skip e1 (hK S1 C1 _ w' e2 ?_ e4)
    rw[←hdst,hd];exact e3
   ·rcases jk hk with ⟨f,g,xs,_,_,_,heq⟩ | ⟨f,xf,xs,_,_,_,heq⟩ | hp
    ·cases heq
    ·cases heq
    ·simp[ej] at hp
   ·simp[ej] at hp
  ·rename_i d h1 h2 hd;exact gen hd (.inl ⟨_,rfl,hr⟩)
  ·rename_i h1 h2 hd;exact gen hd (.inr ⟨rfl,hr⟩)
theorem xh {orac:dH} {modes:bO} (hf:Fits E cx) (h:Inv E S [] C a w) (hb:E.base≤w.heap.size) (hO:∀ g,dG E.P E.sid orac g) {io:Io} {o:Oper} (hc:CompIo cx inRow ops io o)
  {st1:St} (hr:gL orac modes cx.nt io (erS S)=some st1) {K:Act→World→Prop} {Q:Exit→Act→World→Prop}
  (hK:∀ S1 C1 a1 w1,erS S1=st1→Inv E S1 [] C1 a1 w1→Frame E w w1→K a1 w1):o.wp E.P a w K Q:=by
 have hdst:=hc.dst;cases hop:cOp cx inRow o with
 | none=>
  have hb':io.op= .bad:=by rw[hc.op,hop];rfl
  have hn:gL orac modes cx.nt io (erS S)=none:=by
   unfold gL;rw[hb']
  rw[hn] at hr;cases hr
 | some ir=>
  have hir:io.op=ir:=by rw[hc.op,hop];rfl
  unfold gL at hr;rw[hir] at hr;split at hr
  ·rename_i d hd;rcases nF hop with ⟨ox,x',ho,hcx,heq⟩ | ⟨ho,_⟩ | ⟨t,oa,ox,i,x',y',_,_,_,_,heq | heq⟩ | ⟨k,ho,hk⟩ | hp
   ·cases heq
   ·split at hr
    ·rename_i old hold;split at hr
     ·rename_i hh;obtain ⟨hfr,hdn⟩:=hh
      simp only[Option.some.injEq] at hr;subst hr;obtain ⟨o1,ho1,rfl⟩:=bJ hold
      obtain ⟨v,hex⟩:∃ v,(execOp a.eval o).run E.P w= .ok (.value v) w:=by
       rcases ho with ho | ho<;>exact ⟨_,by unfold execOp;rw[ho];rfl⟩
      refine nC hex (hK (S.set d ⟨.dead,[]⟩) C _ w (by rw[fi];rfl) ?_ (Frame.refl E w))
      rw[←hdst,hd];exact Inv.put (zs:=[]) h (hf.nt▸hdn) ho1 (lD h ho1 hfr) rfl (by simp) trivial (by simp) (by simp)
     ·cases hr
    ·cases hr
   ·cases heq
   ·cases heq
   ·rcases jk hk with ⟨f,g,xs,_,_,_,heq⟩ | ⟨f,xf,xs,_,_,_,heq⟩ | hp
    ·cases heq
    ·cases heq
    ·simp[ej] at hp
   ·simp[ej] at hp
  ·rename_i n xa x hx hd;rcases nF hop with ⟨ox,x',ho,hcx,heq⟩ | ⟨_,heq⟩ | ⟨t,oa,ox,i,x',y',q1,q2,q3,q4,heq | heq⟩ | ⟨k,ho,hk⟩ | hp
   ·cases heq
   ·cases heq
   ·simp only[Ir.rstore.injEq] at heq;obtain ⟨rfl,rfl,rfl⟩:=heq
    rw[hf.P] at q2;obtain ⟨w',S1,C1,e1,e2,e3,e4⟩:=yM hf h q1 q2 q3 q4 hr
    refine wp_skip e1 (hK S1 C1 _ w' e2 ?_ e4)
    rw[←hdst,hd];exact e3
   ·cases heq
   ·rcases jk hk with ⟨f,g,xs,_,_,_,heq⟩ | ⟨f,xf,xs,_,_,_,heq⟩ | hp
    ·cases heq
    ·cases heq
    ·simp[ej] at hp
   ·simp[ej] at hp
  ·rename_i g args hx;rcases nF hop with ⟨ox,x',ho,hcx,heq⟩ | ⟨_,heq⟩ | ⟨t,oa,ox,i,x',y',q1,q2,q3,q4,heq | heq⟩ | ⟨k,ho,hk⟩ | hp
   ·cases heq
   ·cases heq
   ·cases heq
   ·cases heq
   ·rcases jk hk with ⟨f,g',xs,q1,q2,q3,heq⟩ | ⟨f,xf,xs,_,_,_,heq⟩ | hp
    ·simp only[Ir.call.injEq] at heq;obtain ⟨rfl,rfl⟩:=heq
     rw[hf.nt,hdst] at hr;obtain ⟨fn,av,e1,e2⟩:=zJ hf h hb hO ho q1 q2 q3 hr
     refine uB e1 e2 fun e w' hR=>?_
     obtain ⟨v,S1,C1,rfl,k1,k2,k3⟩:=hR
     exact ⟨v,rfl,hK S1 C1 _ w' k1 k2 k3⟩
    ·cases heq
    ·simp[ej] at hp
   ·simp[ej] at hp
  ·cases hr
theorem q9 {orac:dH} {modes:bO} (hf:Fits E cx) (h:Inv E S [] C a w) (hb:E.base≤w.heap.size) (hO:∀ g,dG E.P E.sid orac g) {i:Nat} {io:Io} {o:Oper} (hi:ops[i]?=some o) (hc:CompIo cx inRow ops io o)
  {st1:St} (hr:dm orac modes cx.nt io (erS S)=some st1) {K:Act→World→Prop} {Q:Exit→Act→World→Prop}
  (hK:∀ S1 C1 a1 w1,erS S1=st1→Inv E S1 [] C1 a1 w1→Frame E w w1→K a1 w1):wpOp E.P ops Q i K a w:=by
 unfold wpOp;rw[hi];have skip:∀ {u:Unit},(um cx.nt io).run (erS S)=some (u,st1)→K (a.put o.dst undef) w:=by
  intro u hr;obtain ⟨S1,e1,e2⟩:=AH hf h hr
  rw[hc.dst] at e2;exact hK S1 C _ w e1 e2 (Frame.refl E w)
 unfold dm at hr;split at hr
 ·unfold z8 at hr;obtain ⟨b,st2,h1,h2⟩:=dj hr
  obtain ⟨rfl,hw⟩:=uz hf h hc h1
  simp only[hw];cases b with
  | true=>
   simp only[if_true] at h2 ⊢;exact .inl (xh hf h hb hO hc h2 hK)
  | false=>
   simp only[Bool.false_eq_true,if_false] at h2 ⊢;obtain ⟨u,st3,h3,h4⟩:=dj h2
   simp only[Option.some.injEq] at h4;subst h4;exact skip h3
 ·obtain ⟨u,st2,h1,h2⟩:=dj hr
  simp only[Option.some.injEq] at h2;subst h2;unfold ioF at h1;obtain ⟨b,st3,h3,h4⟩:=FM.bind_some h1
  obtain ⟨rfl,hw⟩:=uz hf h hc h3
  simp only[hw];cases b with
  | true=>
   simp only[if_true] at h4 ⊢;exact .inl (xI hf h hb hO hc h4 hK)
  | false=>
   simp only[Bool.false_eq_true,if_false] at h4 ⊢;exact skip h4
end
end Go.Vm
end
section
namespace Go.Vm
theorem FM.local {α:Type}:∀ (p:FM α) {st st' st2:St} {r:α},p.run st=some (r,st')→(∀ k∈(p.log st).1,st2[k]?=st[k]?)→st2.length=st.length→
  ∃ st2',p.run st2=some (r,st2')∧p.log st2=p.log st∧st2'.length=st2.length∧st'.length=st.length∧(∀ k∈(p.log st).2,st2'[k]?=st'[k]?)∧(∀ k,k∉(p.log st).2→st2'[k]?=st2[k]?)∧(∀ k,k∉(p.log st).2→st'[k]?=st[k]?)∧∀ k∈(p.log st).2,k∈(p.log st).1
 | .ret a,st,st',st2,r,hr,_,_=>by
  obtain ⟨rfl,rfl⟩:=au hr
  exact ⟨st2,rfl,rfl,rfl,rfl,by simp[FM.log],fun _ _=>rfl,fun _ _=>rfl,by simp[FM.log]⟩
 | .get i k,st,st',st2,r,hr,hag,hl=>by
  simp only[FM.run] at hr;cases hs:st[i]? with
  | none=>rw[hs] at hr;cases hr
  | some s=>
   rw[hs] at hr;simp only at hr;have hlog:(FM.get i k).log st=(i::((k s).log st).1,((k s).log st).2):=by simp only[FM.log,hs]
   rw[hlog] at hag ⊢;have hs2:st2[i]?=some s:=by rw[hag i (List.mem_cons_self ..),hs]
   obtain ⟨st2',h1,h2,h3,h4,h5,h6,h7,h8⟩:=FM.local (k s) hr (fun j hj=>hag j (List.mem_cons_of_mem _ hj)) hl
   refine ⟨st2',by simp only[FM.run,hs2];exact h1,by simp only[FM.log,hs2,h2],h3,h4,h5,h6,h7,fun j hj=>List.mem_cons_of_mem _ (h8 j hj)⟩
 | .set i s k,st,st',st2,r,hr,hag,hl=>by
  simp only[FM.run] at hr;split at hr
  ·rename_i hi;have hlog:(FM.set i s k).log st=(i::(k.log (st.set i s)).1,i::(k.log (st.set i s)).2):=by simp only[FM.log,hi,if_true]
   rw[hlog] at hag ⊢;have hi2:i < st2.length:=by rw[hl];exact hi
   obtain ⟨st2',h1,h2,h3,h4,h5,h6,h7,h8⟩:=FM.local k (st2:=st2.set i s) hr (fun j hj=>by
    by_cases hji:i=j
    ·subst hji;rw[List.getElem?_set_self hi2,List.getElem?_set_self hi]
    ·rw[List.getElem?_set_ne hji,List.getElem?_set_ne hji]
     exact hag j (List.mem_cons_of_mem _ hj)) (by simp[hl])
   refine ⟨st2',by simp only[FM.run,hi2,if_true];exact h1,by simp only[FM.log,hi2,if_true,h2],by simpa using h3,by simpa using h4,fun j hj=>?_,fun j hj=>?_,fun j hj=>?_,fun j hj=>?_⟩
   ·by_cases hjm:j∈(k.log (st.set i s)).2
    ·exact h5 j hjm
    ·have hji:j=i:=(List.mem_cons.1 hj).resolve_right hjm;subst hji;rw[h6 j hjm,h7 j hjm,List.getElem?_set_self hi2,List.getElem?_set_self hi]
   ·rw[h6 j (fun h=>hj (List.mem_cons_of_mem _ h)),List.getElem?_set_ne (fun e=>hj (by rw[←e];exact List.mem_cons_self ..))]
   ·rw[h7 j (fun h=>hj (List.mem_cons_of_mem _ h)),List.getElem?_set_ne (fun e=>hj (by rw[←e];exact List.mem_cons_self ..))]
   ·rcases List.mem_cons.1 hj with rfl | hj
    ·exact List.mem_cons_self ..
    ·exact List.mem_cons_of_mem _ (h8 j hj)
  ·cases hr
 | .fail,st,st',st2,r,hr,_,_=>(aM hr).elim
theorem uV {a b:List Nat} (h:zZ a b=true):∀ k∈a,k∉b:=by
 intro k hk hb;simp only[zZ,List.all_eq_true] at h;have:=h k hk
 simp[hb] at this
theorem FM.swap {α β:Type} {p:FM α} {q:FM β} {st st1 st2:St} {x:α} {y:β} (hp:p.run st=some (x,st1)) (hq:q.run st1=some (y,st2)) (h1:∀ k∈(p.log st).2,k∉(q.log st1).1) (h2:∀ k∈(q.log st1).2,k∉(p.log st).1):
  ∃ st1',q.run st=some (y,st1')∧p.run st1'=some (x,st2)∧q.log st=q.log st1∧p.log st1'=p.log st:=by
 obtain ⟨_,_,_,_,pl,_,_,poff,psub⟩:=FM.local p hp (fun _ _=>rfl) rfl
 obtain ⟨_,_,_,_,ql,_,_,qoff,qsub⟩:=FM.local q hq (fun _ _=>rfl) rfl
 obtain ⟨st1',a1,a2,a3,a4,a5,a6,a7,a8⟩:=FM.local q (st2:=st) hq (fun k hk=>(poff k (fun hw=>h1 k hw hk)).symm) pl.symm
 obtain ⟨st2',b1,b2,b3,b4,b5,b6,b7,b8⟩:=FM.local p (st2:=st1') hp (fun k hk=>a6 k (fun hw=>h2 k hw hk)) a3
 refine ⟨st1',a1,?_,a2,b2⟩
 have:st2'=st2:=by
  apply List.ext_getElem?;intro k;by_cases hkp:k∈(p.log st).2
  ·rw[b5 k hkp];have hkq:k∉(q.log st1).2:=fun hw=>h1 k hkp (qsub k hw)
   exact (qoff k hkq).symm
  ·rw[b6 k hkp];by_cases hkq:k∈(q.log st1).2
   ·exact a5 k hkq
   ·rw[a6 k hkq,qoff k hkq,poff k hkp]
 rw[←this];exact b1
section
variable {orac:dH} {modes:bO} {nt:Nat}
theorem ut {io:Io} {st st1:St} {l:List Nat×List Nat} (hr:dm orac modes nt io st=some st1) (hl:ei orac modes nt io st=some l):
  oE modes io.op=false∧(∃ u,(ioF orac modes nt io).run st=some (u,st1))∧(ioF orac modes nt io).log st=l:=by
 unfold ei at hl;split at hl
 ·cases hl
 ·rename_i he;simp only[Option.some.injEq] at hl;unfold dm at hr;rw[if_neg he] at hr;obtain ⟨u,st2,h1,h2⟩:=dj hr
  simp only[Option.some.injEq] at h2;subst h2;exact ⟨by simpa using he,⟨u,h1⟩,hl⟩
theorem vU {io:Io} {st st1:St} {u:Unit} (he:oE modes io.op=false) (hr:(ioF orac modes nt io).run st=some (u,st1)):dm orac modes nt io st=some st1∧ei orac modes nt io st=some ((ioF orac modes nt io).log st):=by
 unfold dm ei gw;rw[hr];simp[he]
theorem zg {p q:Io} {st st1 st2:St} (hp:dm orac modes nt p st=some st1) (hq:dm orac modes nt q st1=some st2) (hs:iQ (ei orac modes nt p st) (ei orac modes nt q st1)=true):
  ∃ st1',dm orac modes nt q st=some st1'∧dm orac modes nt p st1'=some st2∧ei orac modes nt q st=ei orac modes nt q st1∧ei orac modes nt p st1'=ei orac modes nt p st:=by
 cases hlp:ei orac modes nt p st with
 | none=>rw[hlp] at hs;simp[iQ] at hs
 | some lp=>
  cases hlq:ei orac modes nt q st1 with
  | none=>rw[hlp,hlq] at hs;simp[iQ] at hs
  | some lq=>
   rw[hlp,hlq] at hs;simp only[iQ,Bool.and_eq_true] at hs;obtain ⟨e1,⟨u1,r1⟩,rfl⟩:=ut hp hlp
   obtain ⟨e2,⟨u2,r2⟩,rfl⟩:=ut hq hlq
   obtain ⟨st1',k1,k2,k3,k4⟩:=FM.swap r1 r2 (uV hs.1) (uV hs.2)
   obtain ⟨m1,m2⟩:=vU e2 k1
   obtain ⟨m3,m4⟩:=vU e1 k2
   exact ⟨st1',m1,m3,by rw[m2,k3],by rw[m4,k4]⟩
inductive Runs (orac:dH) (modes:bO) (nt:Nat):List (Nat×Io×Lg)→St→St→Prop
 | nil (st:St):Runs orac modes nt [] st st
 | cons (i:Nat) (io:Io) (l:Lg) (r:List (Nat×Io×Lg)) (st st1 fin:St) (h:dm orac modes nt io st=some st1) (hl:l=ei orac modes nt io st) (hr:Runs orac modes nt r st1 fin):Runs orac modes nt ((i,io,l)::r) st fin
theorem Runs.front:∀ {pre:List (Nat×Io×Lg)} {i:Nat} {io:Io} {l:Lg} {post:List (Nat×Io×Lg)} {st fin:St},Runs orac modes nt (pre++(i,io,l)::post) st fin→(∀ z∈pre,iQ z.2.2 l=true)→Runs orac modes nt ((i,io,l)::(pre++post)) st fin
 | [],i,io,l,post,st,fin,h,_=>h
 | (j,jo,m)::pre,i,io,l,post,st,fin,h,hs=>by
  cases h with
  | cons _ _ _ _ _ st1 _ h1 h2 h3=>
   have hf:=Runs.front h3 (fun z hz=>hs z (List.mem_cons_of_mem _ hz))
   cases hf with
   | cons _ _ _ _ _ st2 _ k1 k2 k3=>
    have hsw:=hs (j,jo,m) (List.mem_cons_self ..);simp only at hsw;rw[h2,k2] at hsw;obtain ⟨st1',a1,a2,a3,a4⟩:=zg h1 k1 hsw
    exact .cons i io l _ st st1' fin a1 (by rw[k2,a3]) (.cons j jo m _ st1' st2 fin a2 (by rw[h2,a4]) k3)
def sw (z:List (Nat×Io×Lg)):Prop:=z.Pairwise fun x y=>y.2.1.anc.contains x.1=true∨iQ x.2.2 y.2.2=true
theorem BU:∀ {os:List Io} {st fin:St} (n:Nat),eg orac modes nt os st=some fin→
  (lJ orac modes nt os st).length=os.length∧Runs orac modes nt ((os.zip (lJ orac modes nt os st)).zipIdx n |>.map fun x=>(x.2,x.1.1,x.1.2)) st fin
 | [],st,fin,n,h=>by
  simp only[eg,Option.some.injEq] at h;subst h;exact ⟨rfl, .nil st⟩
 | o::os,st,fin,n,h=>by
  simp only[eg] at h;split at h
  ·rename_i st1 h1;obtain ⟨k1,k2⟩:=BU (n+1) h
   have hl:lJ orac modes nt (o::os) st=ei orac modes nt o st::lJ orac modes nt os st1:=by simp only[lJ,h1]
   rw[hl];refine ⟨by simp[k1],?_⟩
   simp only[List.zip_cons_cons,List.zipIdx_cons,List.map_cons];exact .cons n o _ _ st st1 fin h1 rfl k2
  ·cases h
theorem pd:∀ {os:List Io} {ls before:List Lg},ls.length=os.length→kv os ls before=true→
  (∀ (i:Nat) (m:Lg),before[i]?=some m→∀ x∈os.zip ls,x.1.anc.contains i=true∨iQ m x.2=true)∧
  sw ((os.zip ls).zipIdx before.length |>.map fun x=>(x.2,x.1.1,x.1.2))
 | [],ls,before,_,_=>⟨by simp,by simp[sw]⟩
 | o::os,[],before,hl,_=>by simp at hl
 | o::os,l::ls,before,hl,h=>by
  simp only[kv,Bool.and_eq_true,List.all_eq_true] at h;obtain ⟨h1,h2⟩:=h
  obtain ⟨k1,k2⟩:=pd (before:=before++[l]) (by simpa using hl) h2
  have hhead:∀ (i:Nat) (m:Lg),before[i]?=some m→o.anc.contains i=true∨iQ m l=true:=by
   intro i m hm;have:=h1 (m,i) (by
    rw[List.mem_iff_getElem?];exact ⟨i,by rw[List.getElem?_zipIdx,hm];simp⟩)
   simpa using this
  refine ⟨fun i m hm x hx=>?_,?_⟩
  ·simp only[List.zip_cons_cons,List.mem_cons] at hx;rcases hx with rfl | hx
   ·exact hhead i m hm
   ·refine k1 i m ?_ x hx
    rw[List.getElem?_append_left (List.getElem?_eq_some_iff.1 hm).1];exact hm
  ·simp only[List.zip_cons_cons,List.zipIdx_cons,List.map_cons,sw,List.pairwise_cons];refine ⟨fun z hz=>?_,?_⟩
   ·simp only[List.mem_map] at hz;obtain ⟨y,hy,rfl⟩:=hz
    have hy':y.1∈os.zip ls:=by
     have:=List.mem_zipIdx hy
     obtain ⟨_,_,h3⟩:=this
     rw[h3];exact List.getElem_mem ..
    exact k1 before.length l (by rw[List.getElem?_append_right (Nat.le_refl _)];simp) y.1 hy'
   ·have:(before++[l]).length=before.length+1:=by simp
    rw[this] at k2;exact k2
end
end Go.Vm
end
section
namespace Go.Vm
def cF (x:Cell Tg):Cell Tg:=
 match x.f with
 | .cp m _ _ _=>⟨x.v,uC m⟩
 | .ap _ _ _=>⟨x.v, .dd⟩
 | .nw g=>⟨x.v, .ow g⟩
 | _=>x
def eR (s:SA):SA:=⟨match s.k with | .ept t _ ix=> .ept t none ix | k=>k,s.cs.map cF⟩
def iT (ks:List Nat) (s:SA):SA:=match s.k with
 | .ptr r _=>if ks.contains r then ⟨.dead,[]⟩ else s
 | .clo _ rs=>if rs.any ks.contains then ⟨.dead,[]⟩ else s
 | _=>s
def dQ (ks:List Nat):Nat→StA→StA
 | _,[]=>[]
 | i,s::r=>(if ks.contains i then ⟨.dead,[]⟩ else iT ks (eR s))::dQ ks (i+1) r
theorem ui (x:Cell Tg):(cF x).er=oX x.er:=by
 obtain ⟨v,f⟩:=x
 cases f<;>rfl
theorem om (x:Cell Tg):(cF x).v=x.v:=by
 obtain ⟨v,f⟩:=x
 cases f<;>rfl
theorem se (x:Cell Tg):(cF x).own=x.own:=by
 obtain ⟨v,f⟩:=x
 cases f with
 | cp m s c ix=>cases m<;>rfl
 | _=>rfl
theorem yQ (s:SA):(eR s).er=lU s.er:=by
 obtain ⟨k,cs⟩:=s
 have:(cs.map cF).map Cell.er=(cs.map Cell.er).map oX:=by
  simp only[List.map_map];exact List.map_congr_left fun x _=>ui x
 cases k<;>simp only[eR,lU,Sl.er,Kd.er,this]
theorem zU (ks:List Nat) (s:SA):(iT ks s).er=qj ks s.er:=by
 obtain ⟨k,cs⟩:=s
 cases k with
 | ptr r o=>
  show (if ks.contains r then (⟨.dead,[]⟩:SA) else ⟨.ptr r o,cs⟩).er=if ks.contains r then dead else ⟨.ptr r o,cs.map Cell.er⟩
  split<;>rfl
 | clo g rs=>
  show (if rs.any ks.contains then (⟨.dead,[]⟩:SA) else ⟨.clo g rs,cs⟩).er=if rs.any ks.contains then dead else ⟨.clo g rs,cs.map Cell.er⟩
  split<;>rfl
 | _=>rfl
theorem tj (ks:List Nat):∀ (S:StA) (i:Nat),erS (dQ ks i S)=kz ks i (erS S)
 | [],_=>rfl
 | s::r,i=>by
  have ih:=tj ks r (i+1);simp only[erS] at ih ⊢;simp only[dQ,List.map_cons,kz,ih]
  congr 1
  split
  ·rfl
  ·rw[zU,yQ]
theorem mQ (ks:List Nat):∀ (S:StA) (n i:Nat),(dQ ks n S)[i]?=(S[i]?).map fun s=>if ks.contains (n+i) then ⟨.dead,[]⟩ else iT ks (eR s)
 | [],_,_=>rfl
 | s::r,n,0=>rfl
 | s::r,n,i+1=>by
  simp only[dQ,List.getElem?_cons_succ]
  rw[mQ ks r (n+1) i,show n+1+i=n+(i+1) by omega]
section
variable {E:Env} {cx:Cx} {S:StA} {X:List (Cell Tg)} {C:Nat→Nat→Prop} {a:Act} {w w':World}
theorem gr {ks:List Nat} {i:Nat} {s':SA} (h:(dQ ks 0 S)[i]?=some s'):
  ∃ s,S[i]?=some s∧((s'.k= .dead∧s'.cs=[])∨(ks.contains i=false∧s'.cs=s.cs.map cF∧s'.k=(match s.k with | .ept t _ ix=> .ept t none ix | k=>k)∧
   (∀ r o,s.k= .ptr r o→ks.contains r=false)∧∀ g rs,s.k= .clo g rs→∀ r∈rs,ks.contains r=false)):=by
 rw[mQ,Option.map_eq_some_iff] at h;obtain ⟨s,hs,rfl⟩:=h
 refine ⟨s,hs,?_⟩
 rw[Nat.zero_add];split
 ·exact .inl ⟨rfl,rfl⟩
 ·rename_i hn;have hn:ks.contains i=false:=by simpa using hn
  obtain ⟨k,cs⟩:=s
  cases k with
  | ptr r o=>
   simp only[iT,eR];split
   ·exact .inl ⟨rfl,rfl⟩
   ·rename_i hr;refine .inr ⟨hn,rfl,rfl,?_,by simp⟩
    rintro r' o' e
    simp only[Kd.ptr.injEq] at e;obtain ⟨rfl,rfl⟩:=e
    simpa using hr
  | clo g rs=>
   simp only[iT,eR];split
   ·exact .inl ⟨rfl,rfl⟩
   ·rename_i hr;refine .inr ⟨hn,rfl,rfl,by simp,?_⟩
    rintro g' rs' e r hrm
    simp only[Kd.clo.injEq] at e;obtain ⟨rfl,rfl⟩:=e
    simp only[List.any_eq_true,not_exists,not_and] at hr;have:=hr r hrm
    simpa using this
  | _=>exact .inr ⟨hn,rfl,rfl,by simp,by simp⟩
theorem COk.settle {x:Cell Tg} (h:COk E w C S X x) {S':StA} {X':List (Cell Tg)}:COk E w C S' X' (cF x):=by
 obtain ⟨v,f⟩:=x
 cases f with
 | cp m s c ix=>
  cases m with
  | own=>exact ⟨h.1,h.2.1,h.2.2.2 rfl⟩
  | grn=>exact ⟨h.1,h.2.1⟩
  | chg=>exact ⟨h.1,h.2.1⟩
 | ap s c ix=>trivial
 | _=>exact h
theorem yR (x:Cell Tg):∀ p q r,(cF x).f≠ .ap p q r:=by
 obtain ⟨v,f⟩:=x
 cases f with
 | cp m s c ix=>cases m<;>simp[cF,uC]
 | _=>simp[cF]
theorem DP (ks:List Nat) (s:SA) (b:Nat):(iT ks (eR s)).own.count b≤s.own.count b:=by
 have hs:(eR s).own=s.own:=by
  unfold Sl.own;have h1:(eR s).boxOwn=s.boxOwn:=by
   obtain ⟨k,cs⟩:=s
   cases k<;>rfl
  have h2:(eR s).cs.flatMap Cell.own=s.cs.flatMap Cell.own:=by
   show (s.cs.map cF).flatMap Cell.own=_;induction s.cs with
   | nil=>rfl
   | cons x xs ih=>simp only[List.map_cons,List.flatMap_cons,ih,se]
  rw[h1,h2]
 rw[←hs];unfold iT;split
 ·split
  ·simp[Sl.own,Sl.boxOwn]
  ·exact Nat.le_refl _
 ·split
  ·simp[Sl.own,Sl.boxOwn]
  ·exact Nat.le_refl _
 ·exact Nat.le_refl _
theorem tn (ks:List Nat) (b:Nat):∀ (S:StA) (n:Nat),((dQ ks n S).flatMap Sl.own).count b≤(S.flatMap Sl.own).count b
 | [],_=>Nat.le_refl _
 | s::r,n=>by
  have ih:=tn ks b r (n+1);simp only[dQ,List.flatMap_cons,List.count_append];have:(if ks.contains n then (⟨.dead,[]⟩:SA) else iT ks (eR s)).own.count b≤s.own.count b:=by
   split
   ·simp[Sl.own,Sl.boxOwn]
   ·exact DP ks s b
  omega
theorem Inv.kill (h:Inv E S [] C a w) (ks:List Nat):Inv E (dQ (bf E.nt::ks) 0 S) [] C a w∧erS (dQ (bf E.nt::ks) 0 S)=lI E.nt ks (erS S):=by
 refine ⟨?_,tj _ S 0⟩
 have hlen:(dQ (bf E.nt::ks) 0 S).length=S.length:=by
  have:∀ (ks:List Nat) (S:StA) (n:Nat),(dQ ks n S).length=S.length:=by
   intro ks S;induction S with
   | nil=>intro n;rfl
   | cons s r ih=>intro n;simp[dQ,ih]
  exact this _ _ _
 have hcount:∀ b,(aA (dQ (bf E.nt::ks) 0 S) []).count b≤(aA S []).count b:=by
  intro b;simp only[aA,List.flatMap_nil,List.append_nil];exact tn _ b S 0
 have hmem:∀ b∈aA (dQ (bf E.nt::ks) 0 S) [],b∈aA S []:=by
  intro b hb;have h1:=hcount b;have h2:=List.count_pos_iff.2 hb;exact List.count_pos_iff.1 (by omega)
 have hbox:∀ r x,(bf E.nt::ks).contains r=false→aL S r=some x→aL (dQ (bf E.nt::ks) 0 S) r=some x:=by
  intro r x hr hx;unfold aL at hx ⊢;rw[mQ];cases hs:S[r]? with
  | none=>rw[hs] at hx;cases hx
  | some s=>
   rw[hs] at hx;obtain ⟨k,cs⟩:=s
   simp only[Option.map_some,Nat.zero_add,hr,Bool.false_eq_true,if_false];cases k<;>simp at hx ⊢
   simpa [iT,eR] using hx
 have hmv:∀ cs:List (Cell Tg),(cs.map cF).map (·.v)=cs.map (·.v):=by
  intro cs;simp only[List.map_map];exact List.map_congr_left fun x _=>om x
 refine ⟨hlen.trans h.len,h.tsz,h.nodef,?_,?_,?_,?_,?_,?_,?_,?_,by simp,fun b=>Nat.le_trans (hcount b) (h.cnt b),h.olt,h.clt,h.cbase,fun b hb=>h.ownlt b (hmem b hb)⟩
 ·intro i s' hi hs';obtain ⟨s,hs,⟨hk,hc⟩ | ⟨hn,hc,hk,hp,hcl⟩⟩:=gr hs'
  ·unfold SlV;rw[hk];trivial
  ·have hv:=h.slv i s hi hs;obtain ⟨k,cs⟩:=s
   obtain ⟨k',cs'⟩:=s'
   simp only at hc hk;subst hc;cases k with
   | ept t src ix=>simp only at hk;subst hk;exact hv
   | ptr r o=>
    simp only at hk;subst hk;obtain ⟨b,h1,h2⟩:=hv
    exact ⟨b,hbox r _ (hp r o rfl) h1,h2⟩
   | clo g rs=>
    simp only at hk;subst hk;obtain ⟨h1,h2⟩:=hv
    refine ⟨fun r hr=>?_,?_⟩
    ·obtain ⟨b,hb⟩:=h1 r hr
     exact ⟨b,hbox r _ (hcl g rs rfl r hr) hb⟩
    ·have h2:a.tmps.getD i undef=_:=h2;rw[h2]
     congr 2
     refine List.map_congr_left fun r hr=>?_
     obtain ⟨b,hb⟩:=h1 r hr
     rw[hb,hbox r _ (hcl g rs rfl r hr) hb]
   | val=>
    simp only at hk;subst hk;obtain ⟨c,h1,h2⟩:=hv
    simp only at h1;subst h1;exact ⟨cF c,rfl,by rw[om];exact h2⟩
   | agg=>
    simp only at hk;subst hk;simp only[SlV] at hv ⊢;rw[d9 (hmv cs)];exact hv
   | tup sh=>
    simp only at hk;subst hk;simp only[SlV] at hv ⊢;rw[d9 (hmv cs)];exact hv
   | dead=>simp only at hk;subst hk;trivial
   | und=>simp only at hk;subst hk;exact hv
   | box t=>exact hv.elim
 ·intro i s' hi hs';obtain ⟨s,hs,⟨hk,hc⟩ | ⟨hn,hc,hk,_⟩⟩:=gr hs'
  ·exact .inl hk
  ·rcases h.high i s hi hs with h1 | h1 | ⟨t,h1,h2⟩<;>rw[h1] at hk
   ·exact .inl hk
   ·exact .inr (.inl hk)
   ·exact .inr (.inr ⟨t,hk,h2⟩)
 ·intro i s' hs' hk';obtain ⟨s,hs,⟨hk,hc⟩ | ⟨hn,hc,hk,_⟩⟩:=gr hs'
  ·exact hc
  ·have:s.cs=[]:=by
    refine h.emp i s hs ?_
    rw[hk] at hk';obtain ⟨k,cs⟩:=s
    cases k<;>simp_all
   rw[hc,this];rfl
 ·intro i s' hi hs' hk';obtain ⟨s,hs,⟨hk,hc⟩ | ⟨hn,hc,hk,_⟩⟩:=gr hs'
  ·rw[hk] at hk';cases hk'
  ·refine h.lock i s hi hs ?_
   rw[hk] at hk';obtain ⟨k,cs⟩:=s
   cases k<;>simp_all
 ·intro l _ _;refine ⟨fun i s' hs' x hx=>?_,by simp⟩
  obtain ⟨s,hs,⟨hk,hc⟩ | ⟨hn,hc,hk,_⟩⟩:=gr hs'
  ·rw[hc] at hx;simp at hx
  ·rw[hc] at hx;obtain ⟨y,_,rfl⟩:=List.mem_map.1 hx
   exact yR y
 ·intro i s' t hs' hk';obtain ⟨s,hs,⟨hk,hc⟩ | ⟨hn,hc,hk,_⟩⟩:=gr hs'
  ·rw[hk] at hk';cases hk'
  ·have hks:s.k= .box t:=by
    rw[hk] at hk';obtain ⟨k,cs⟩:=s
    cases k<;>simp_all
   rw[hc];exact xz (h.box i s t hs hks) (hmv s.cs)
 ·intro i s' t src ix hs' hk';obtain ⟨s,hs,⟨hk,hc⟩ | ⟨hn,hc,hk,_⟩⟩:=gr hs'
  ·rw[hk] at hk';cases hk'
  ·have hks:src=none∧∃ src0,s.k= .ept t src0 ix:=by
    rw[hk] at hk';obtain ⟨k,cs⟩:=s
    cases k<;>simp_all
   obtain ⟨rfl,src0,hks⟩:=hks
   rw[hc];obtain ⟨b,o,h1,h2,_⟩:=h.ept i s t src0 ix hs hks
   exact xH ⟨b,o,h1,h2,trivial⟩ (hmv s.cs)
 ·intro i s' hs' x hx;obtain ⟨s,hs,⟨hk,hc⟩ | ⟨hn,hc,hk,_⟩⟩:=gr hs'
  ·rw[hc] at hx;simp at hx
  ·rw[hc] at hx;obtain ⟨y,hy,rfl⟩:=List.mem_map.1 hx
   exact (h.cells i s hs y hy).settle
end
end Go.Vm
end
section
namespace Go.Vm
theorem uR {cx:Cx} {ops:Array Oper} {draw:Bool}:∀ {os:List Oper} {an:List (List Nat)} {ios:List Io},B8 cx ops.toList draw os an=some ios→
  ios.length=os.length∧∀ (i:Nat) (o:Oper),os[i]?=some o→∃ io,ios[i]?=some io∧CompIo cx (j0 ops.toList []).contains ops io o∧(draw=true→io.anc=an.getD i [])
 | [],an,ios,h=>by
  simp only[B8,Option.some.injEq] at h;subst h;exact ⟨rfl,by simp⟩
 | o::os,an,ios,h=>by
  unfold B8 at h;simp only at h;split at h
  ·rename_i g r hg hr;simp only[Option.some.injEq] at h;subst h;obtain ⟨h1,h2⟩:=uR hr
   refine ⟨by simp[h1],fun i o' ho'=>?_⟩
   cases i with
   | zero=>
    simp only[List.getElem?_cons_zero,Option.some.injEq] at ho'
    subst ho';refine ⟨_,rfl,⟨rfl,rfl,?_⟩,fun hd=>?_⟩
    ·split at hg
     ·rename_i hgu;simp only[Option.some.injEq] at hg;exact .inl ⟨hgu,hg.symm⟩
     ·rename_i j b hgu;split at hg
      ·rename_i d hd;split at hg
       ·rename_i hlt;simp only[Option.some.injEq] at hg;refine .inr ⟨j,b,d,hgu,hg.symm,hlt,?_⟩
        rw[←hd,Array.getElem?_toList]
       ·cases hg
      ·cases hg
    ·simp only[hd,if_true];cases an<;>rfl
   | succ i=>
    obtain ⟨io,k1,k2,k3⟩:=h2 i o' (by simpa using ho')
    refine ⟨io,by simpa using k1,k2,fun hd=>?_⟩
    rw[k3 hd];cases an<;>simp
  ·cases h
def lc (acc:List (List Nat)) (o:Oper):List Nat:=(o.after.toList.flatMap fun e=>match e.ground with
 | .textOnly _ | .gcOnly _=>[]
 | _=>e.on::acc.getD e.on []).eraseDups
theorem C6 (ops:List Oper):o7 ops=ops.foldl (fun acc o=>acc++[lc acc o]) []:=rfl
theorem xn:∀ (ops:List Oper) (acc:List (List Nat)),(∃ r,ops.foldl (fun acc o=>acc++[lc acc o]) acc=acc++r∧r.length=ops.length)∧
  ∀ (i:Nat) (o:Oper),ops[i]?=some o→(ops.foldl (fun acc o=>acc++[lc acc o]) acc)[acc.length+i]?=some (lc ((ops.foldl (fun acc o=>acc++[lc acc o]) acc).take (acc.length+i)) o)
 | [],acc=>⟨⟨[],by simp,rfl⟩,by simp⟩
 | o::os,acc=>by
  obtain ⟨⟨r,h1,h2⟩,h3⟩:=xn os (acc++[lc acc o])
  simp only[List.foldl_cons];refine ⟨⟨lc acc o::r,by rw[h1];simp,by simp[h2]⟩,fun i o' ho'=>?_⟩
  cases i with
  | zero=>
   simp only[List.getElem?_cons_zero,Option.some.injEq] at ho'
   subst ho';rw[h1];simp
  | succ i=>
   have:=h3 i o' (by simpa using ho')
   rw[List.length_append] at this;simp only[List.length_cons,List.length_nil] at this;rw[show acc.length+(i+1)=acc.length+(0+1)+i by omega]
   exact this
theorem tK {α:Type} [BEq α] [LawfulBEq α] {x:α} {l:List α} (h:x∈l.eraseDups):x∈l:=List.mem_eraseDups.1 h
theorem B1 {ops:List Oper} {i j:Nat} {o:Oper} (ho:ops[i]?=some o) (hj:j∈(o7 ops).getD i []):∃ e∈o.after,(∀ md,Region.binds md e=true)∧(j=e.on∨j∈(o7 ops).getD e.on []):=by
 obtain ⟨_,h2⟩:=xn ops []
 have h3:=h2 i o ho;simp only[List.length_nil,Nat.zero_add] at h3;rw[←C6] at h3;rw[List.getD_eq_getElem?_getD,h3] at hj
 simp only[Option.getD_some] at hj;obtain ⟨e,he,hje⟩:=List.mem_flatMap.1 (tK hj)
 refine ⟨e,by simpa using he,?_⟩
 have key:(∀ md,Region.binds md e=true)→j∈e.on::((o7 ops).take i).getD e.on []→(∀ md,Region.binds md e=true)∧(j=e.on∨j∈(o7 ops).getD e.on []):=by
  intro hb hm;refine ⟨hb,?_⟩
  rcases List.mem_cons.1 hm with h | h
  ·exact .inl h
  ·refine .inr ?_
   rw[List.getD_eq_getElem?_getD,List.getElem?_take] at h
   rw[List.getD_eq_getElem?_getD]
   split at h
   ·exact h
   ·simp at h
 split at hje
 ·simp at hje
 ·simp at hje
 ·rename_i h4 h5;refine key (fun md=>?_) hje
  unfold Region.binds;split
  ·exact absurd ‹_› (h4 _)
  ·exact absurd ‹_› (h5 _)
  ·rfl
theorem pf:∀ {os:List Oper} {n:Nat},pe n os=true→∀ (i:Nat) (o:Oper),os[i]?=some o→∀ e∈o.after,Region.binds .any e=true→e.on < n+i
 | [],n,_,i,o,ho,_,_,_=>by simp at ho
 | o'::os,n,h,i,o,ho,e,he,hbe=>by
  simp only[pe,Bool.and_eq_true,List.all_eq_true] at h;cases i with
  | zero=>
   simp only[List.getElem?_cons_zero,Option.some.injEq] at ho
   subst ho;have:=h.1 e (by simpa using he)
   split at this
   ·rename_i hg;simp[Region.binds,hg] at hbe
   ·rename_i hg;simp[Region.binds,hg] at hbe
   ·simpa using this
  | succ i=>
   have:=pf h.2 i o (by simpa using ho) e he hbe
   omega
section
variable {E:Env} {cx:Cx} {S:StA} {X:List (Cell Tg)} {C:Nat→Nat→Prop} {a:Act} {w w':World} {inRow:Nat→Bool} {ops:Array Oper} {orac:dH} {modes:bO}
theorem AY (hf:Fits E cx) (hO:∀ g,dG E.P E.sid orac g) {md:Region.Mode} {Q:Exit→Act→World→Prop} {anc:Nat→List Nat} {fin:St}
  (hanc:∀ (i:Nat) (o:Oper) (j:Nat),ops[i]?=some o→j∈anc i→∃ e∈o.after,Region.binds md e=true∧(j=e.on∨j∈anc e.on)) (hedge:∀ (i:Nat) (o:Oper),ops[i]?=some o→∀ e∈o.after,Region.binds md e=true→e.on < i):
  ∀ (fuel:Nat) (Z:List (Nat×Io×Lg)) (listed:Array Bool) {S:StA} {C:Nat→Nat→Prop} (a:Act) (w:World),Z.length=fuel→Inv E S [] C a w→E.base≤w.heap.size→Runs orac modes cx.nt Z (erS S) fin→sw Z→
   (∀ z∈Z,(∃ o,ops[z.1]?=some o∧CompIo cx inRow ops z.2.1 o)∧z.2.1.anc=anc z.1)→(Z.map (·.1)).Pairwise (· < ·)→listed.size=ops.size→(∀ i,i < ops.size→(listed.getD i true=false↔i∈Z.map (·.1)))→
   (∀ i,listed.getD i false=true→∀ j∈anc i,listed.getD j false=true)→
   (∀ S1 C1 a1 w1,erS S1=fin→Inv E S1 [] C1 a1 w1→Frame E w w1→Q .normal a1 w1)→wpAny E.P md ops Q fuel listed a w:=by
 intro fuel;induction fuel with
 | zero=>
  intro Z listed S C a w hl h hb hr hp hz hs hsz hli hcl hQ;have hZ:Z=[]:=List.eq_nil_of_length_eq_zero hl;subst hZ;refine ⟨?_,?_⟩
  ·rw[List.eq_nil_iff_forall_not_mem];intro i hi;obtain ⟨h0,o,ho,_⟩:=mem_ready.1 hi
   have hlt:i < ops.size:=(Array.getElem?_eq_some_iff.1 ho).1
   have:=(hli i hlt).1 h0
   simp at this
  ·cases hr with
   | nil=>exact hQ S C a w rfl h (Frame.refl E w)
 | succ fuel ih=>
  intro Z listed S C a w hl h hb hr hp hz hs hsz hli hcl hQ;have hlt_of:∀ {i:Nat} {o:Oper},ops[i]?=some o→i < ops.size:=fun ho=>(Array.getElem?_eq_some_iff.1 ho).1
  have hdef:∀ {k:Nat},k < ops.size→listed.getD k true=listed.getD k false:=by
   intro k hk;have:k < listed.size:=by rw[hsz];exact hk
   simp[this]
  refine ⟨fun hnil=>?_,fun i hi=>?_⟩
  ·exfalso
   cases Z with
   | nil=>simp at hl
   | cons z0 Z=>
    obtain ⟨⟨o,ho,_⟩,_⟩:=hz z0 (List.mem_cons_self ..)
    have hin:z0.1∈Region.ready md ops listed:=by
     rw[mem_ready];refine ⟨(hli z0.1 (hlt_of ho)).2 (by simp),o,ho,fun e he hbe=>?_⟩
     have hlt:=hedge z0.1 o ho e he hbe;have hes:e.on < ops.size:=Nat.lt_trans hlt (hlt_of ho);rw[←hdef hes];cases hv:listed.getD e.on true with
     | true=>rfl
     | false=>
      exfalso
      have hm:=(hli e.on hes).1 hv;simp only[List.map_cons,List.pairwise_cons] at hs;simp only[List.map_cons,List.mem_cons] at hm;rcases hm with hm | hm
      ·omega
      ·have:=hs.1 _ hm;omega
    rw[hnil] at hin;cases hin
  ·obtain ⟨h0,o,ho,hall⟩:=mem_ready.1 hi
   have hisz:=hlt_of ho;have him:=(hli i hisz).1 h0;obtain ⟨z,hzm,hzi⟩:=List.mem_map.1 him
   obtain ⟨i',io,l⟩:=z
   simp only at hzi;subst hzi;obtain ⟨pre,post,rfl⟩:=List.append_of_mem hzm
   obtain ⟨⟨o',ho',hcomp⟩,hanci⟩:=hz _ hzm
   simp only at ho' hcomp hanci;rw[ho] at ho';obtain rfl:=Option.some.inj ho'
   have hancl:∀ j∈anc i',listed.getD j false=true:=by
    intro j hj;obtain ⟨e,he,hbe,hje⟩:=hanc i' o j ho hj
    have hle:=hall e he hbe;rcases hje with rfl | hje
    ·exact hle
    ·exact hcl e.on hle j hje
   have hsw:∀ z∈pre,iQ z.2.2 l=true:=by
    intro z hzp;unfold sw at hp;rw[List.pairwise_append] at hp;have:=hp.2.2 z hzp (i',io,l) (List.mem_cons_self ..)
    rcases this with hc | hc
    ·exfalso
     have hzj:z.1∈anc i':=by
      rw[←hanci]
      simpa using hc
     have h1:=hancl z.1 hzj;obtain ⟨⟨oz,hoz,_⟩,_⟩:=hz z (List.mem_append.2 (.inl hzp))
     have h2:=(hli z.1 (hlt_of hoz)).2 (List.mem_map.2 ⟨z,List.mem_append.2 (.inl hzp),rfl⟩);rw[hdef (hlt_of hoz),h1] at h2;cases h2
    ·exact hc
   have hfront:=hr.front hsw;cases hfront with
   | cons _ _ _ _ _ st1 _ q1 q2 q3=>
    refine q9 hf h hb hO ho hcomp q1 (fun S1 C1 a1 w1 e1 e2 e3=>?_)
    have hsub:(pre++post).Sublist (pre++(i',io,l)::post):=List.Sublist.append_left (List.sublist_cons_self ..) pre;have hnotin:i'∉(pre++post).map (·.1):=by
     intro hm;rw[List.map_append,List.map_cons] at hs;rw[List.map_append,List.mem_append] at hm;rw[List.pairwise_append] at hs;rcases hm with hm | hm
     ·have:=hs.2.2 i' hm i' (List.mem_cons_self ..);omega
     ·have:=(List.pairwise_cons.1 hs.2.1).1 i' hm;omega
    refine ih (pre++post) (listed.setIfInBounds i' true) a1 w1 (by simp only[List.length_append,List.length_cons] at hl ⊢;omega) e2 (Nat.le_trans hb e3.size) (by rw[e1];exact q3) (List.Pairwise.sublist hsub hp) (fun z hz'=>hz z (hsub.subset hz')) (List.Pairwise.sublist (hsub.map _) hs) (by simp[hsz]) (fun k hk=>?_) (fun k hk j hj=>?_) (fun S2 C2 a2 w2 f1 f2 f3=>hQ S2 C2 a2 w2 f1 f2 (e3.trans f3))
    ·by_cases hki:i'=k
     ·subst hki;have:i' < listed.size:=by rw[hsz];exact hk
      simp only[Array.getD_eq_getD_getElem?,Array.getElem?_setIfInBounds_self_of_lt this,Option.getD_some,Bool.true_eq_false,false_iff]
      exact hnotin
     ·rw[getD_set_ne true hki,hli k hk];simp only[List.map_append,List.map_cons,List.mem_append,List.mem_cons];constructor
      ·rintro (h1 | h1 | h1)
       ·exact .inl h1
       ·exact absurd h1.symm hki
       ·exact .inr h1
      ·rintro (h1 | h1)
       ·exact .inl h1
       ·exact .inr (.inr h1)
    ·by_cases hki:i'=k
     ·subst hki;exact getD_set_true (hancl j hj)
     ·rw[getD_set_ne false hki] at hk;exact getD_set_true (hcl k hk j hj)
theorem uA (hf:Fits E cx) (hO:∀ g,dG E.P E.sid orac g) {Q:Exit→Act→World→Prop} {fin:St}:∀ (n k:Nat) (ios:List Io) {S:StA} {C:Nat→Nat→Prop} (a:Act) (w:World),ios.length=n→(∀ (i:Nat) (io:Io),ios[i]?=some io→∃ o,ops[k+i]?=some o∧CompIo cx inRow ops io o)→
  Inv E S [] C a w→E.base≤w.heap.size→eg orac modes cx.nt ios (erS S)=some fin→(∀ S1 C1 a1 w1,erS S1=fin→Inv E S1 [] C1 a1 w1→Frame E w w1→Q .normal a1 w1)→wpOps E.P ops Q (List.range' k n) a w
 | 0,k,ios,S,C,a,w,hl,hc,h,hb,hr,hQ=>by
  have:ios=[]:=List.eq_nil_of_length_eq_zero hl
  subst this;simp only[eg,Option.some.injEq] at hr;exact hQ S C a w hr h (Frame.refl E w)
 | n+1,k,ios,S,C,a,w,hl,hc,h,hb,hr,hQ=>by
  cases ios with
  | nil=>simp at hl
  | cons io ios=>
   simp only[eg] at hr;split at hr
   ·rename_i st1 h1;obtain ⟨o,ho,hcomp⟩:=hc 0 io rfl
    rw[List.range'_succ,wpOps_cons];refine q9 hf h hb hO (by simpa using ho) hcomp h1 (fun S1 C1 a1 w1 e1 e2 e3=>?_)
    refine uA hf hO n (k+1) ios a1 w1 (by simpa using hl) (fun i io' hio=>?_) e2 (Nat.le_trans hb e3.size) (by rw[e1];exact hr) (fun S2 C2 a2 w2 f1 f2 f3=>hQ S2 C2 a2 w2 f1 f2 (e3.trans f3))
    have:=hc (i+1) io' (by simpa using hio)
    rwa [show k+(i+1)=k+1+i by omega] at this
   ·cases hr
theorem Du (h:Inv E S X C a w):Inv E S X C a { w with drawn:=w.drawn+1 }:=h.grow ⟨Nat.le_refl _,fun _ _=>rfl⟩
theorem yG (hf:Fits E cx) (hO:∀ g,dG E.P E.sid orac g) (h:Inv E S [] C a w) (hb:E.base≤w.heap.size) {id:Nat} {draw:Bool} {ios:List Io} {k0 k1:List Nat} (hed:draw=true→pe 0 ops.toList=true)
  (hc:B8 cx ops.toList draw ops.toList (if draw then o7 ops.toList else [])=some ios) {fin:St} (hd:draw=true→kv ios (lJ orac modes cx.nt ios (lI cx.nt k0 (erS S))) []=true) (hr:region orac modes cx.nt k0 k1 ios (erS S)=some fin)
  {Q:Exit→Act→World→Prop} (hQ:∀ S1 C1 a1 w1,erS S1=fin→Inv E S1 [] C1 a1 w1→Frame E w w1→Q .normal a1 w1):(Code.region id ops draw).wp E.P Q a w:=by
 obtain ⟨hi0,he0⟩:=h.kill k0
 generalize dQ (bf E.nt::k0) 0 S=S0 at hi0 he0
 unfold region at hr;rw[hf.nt] at hr hd;split at hr
 ·rename_i st1 h1;simp only[Option.some.injEq] at hr;subst hr;rw[←he0] at h1 hd;rw[←hf.nt] at h1 hd;obtain ⟨hlen,hspec⟩:=uR hc
  have hlen':ios.length=ops.size:=by rw[hlen];simp
  have hcomp:∀ (i:Nat) (io:Io),ios[i]?=some io→∃ o,ops[i]?=some o∧CompIo cx (j0 ops.toList []).contains ops io o∧(draw=true→io.anc=(o7 ops.toList).getD i []):=by
   intro i io hio;have hlt:i < ops.toList.length:=by rw[←hlen];exact (List.getElem?_eq_some_iff.1 hio).1
   obtain ⟨io',q1,q2,q3⟩:=hspec i _ (List.getElem?_eq_getElem hlt)
   rw[hio] at q1;obtain rfl:=Option.some.inj q1
   refine ⟨_,by rw[←Array.getElem?_toList];exact List.getElem?_eq_getElem hlt,q2,fun hd=>?_⟩
   have:=q3 hd
   simpa [hd] using this
  have hQ':∀ {w0:World},Frame E w w0→∀ S1 C1 a1 w1,erS S1=st1→Inv E S1 [] C1 a1 w1→Frame E w0 w1→Q .normal a1 w1:=by
   intro w0 hw0 S1 C1 a1 w1 e1 e2 e3;obtain ⟨q1,q2⟩:=e2.kill k1
   exact hQ _ C1 a1 w1 (by rw[q2,e1]) q1 (hw0.trans e3)
  cases draw with
  | false=>
   refine wp_region ?_
   rw[List.range_eq_range'];refine uA (inRow:=(j0 ops.toList []).contains) hf hO ops.size 0 ios a w hlen' (fun i io hio=>?_) hi0 hb h1 (hQ' (Frame.refl E w))
   obtain ⟨o,ho,q2,_⟩:=hcomp i io hio
   exact ⟨o,by rw[Nat.zero_add];exact ho,q2⟩
  | true=>
   refine wp_region_draw fun t=>?_
   have hany:wpAny E.P .any ops Q ops.size (Array.replicate ops.size false) a { w with drawn:=w.drawn+1 }:=by
    obtain ⟨hll,hruns⟩:=BU 0 h1
    have hpair:=(pd (before:=[]) hll (hd rfl)).2;simp only[List.length_nil] at hpair;have hZ:∀ z∈((ios.zip (lJ orac modes cx.nt ios (erS S0))).zipIdx 0).map (fun x=>(x.2,x.1.1,x.1.2)),ios[z.1]?=some z.2.1:=by
     intro z hz;obtain ⟨y,hy,rfl⟩:=List.mem_map.1 hz
     obtain ⟨_,h3,h4⟩:=List.mem_zipIdx hy
     simp only[Nat.zero_add,Nat.sub_zero] at h3 h4;have:(ios.zip (lJ orac modes cx.nt ios (erS S0)))[y.2]?=some y.1:=by
      rw[h4];exact List.getElem?_eq_getElem _
     rw[List.getElem?_zip_eq_some] at this
     exact this.1
    have hll':(ios.zip (lJ orac modes cx.nt ios (erS S0))).length=ops.size:=by
     rw[List.length_zip,hll,hlen'];simp
    have hidx:(((ios.zip (lJ orac modes cx.nt ios (erS S0))).zipIdx 0).map (fun x=>(x.2,x.1.1,x.1.2))).map (·.1)=List.range ops.size:=by
     rw[List.map_map];have:((fun x:Nat×Io×Lg=>x.1) ∘ fun x:(Io×Lg)×Nat=>(x.2,x.1.1,x.1.2))=Prod.snd:=rfl
     rw[this,List.zipIdx_map_snd,hll',List.range_eq_range']
    refine AY (inRow:=(j0 ops.toList []).contains) (anc:=fun i=>(o7 ops.toList).getD i []) hf hO (fun i o j ho hj=>?_) (fun i o ho e he hbe=>?_) ops.size _ _ a _ (by rw[List.length_map,List.length_zipIdx,hll']) (Du hi0) hb hruns hpair (fun z hz=>?_) (by rw[hidx];exact List.pairwise_lt_range) (by simp) (fun i hi=>?_) (fun i hi=>?_) (hQ' (oD E w))
    ·obtain ⟨e,he,hbe,hje⟩:=B1 (by rw[Array.getElem?_toList];exact ho) hj
     exact ⟨e,he,hbe .any,hje⟩
    ·have:=pf (hed rfl) i o (by rw[Array.getElem?_toList];exact ho) e he hbe
     omega
    ·obtain ⟨o,ho,q2,q3⟩:=hcomp z.1 z.2.1 (hZ z hz)
     exact ⟨⟨o,ho,q2⟩,q3 rfl⟩
    ·rw[hidx,List.mem_range];simp[hi]
    ·exfalso
     by_cases hlt:i < ops.size
     ·simp[hlt] at hi
     ·simp[hlt] at hi
   simp only[Region.schedule,hf.mixed,Bool.true_or,if_true];exact wpAny_sound ops.size t _ a _ hany
 ·cases hr
end
end Go.Vm
end
