/- The value machine, part 5: code read as work on values, and its soundness over memory. -/
import Derived.Test.YtfidmkhcipcnmaaGreatVmD
import Derived.ChangeArms
import Derived.DataReads
import Derived.Handed
import Derived.JoinedOf
import Derived.Carry
import Derived.ChangeShapes
import Derived.WideShapes
set_option maxHeartbeats 4000000
set_option maxRecDepth 10000
set_option linter.unusedVariables false
set_option linter.unusedSimpArgs false
section
namespace Go.Vm
def Dz:Ex→Exit
 | .normal=> .normal
 | .exit id=> .exit id
 | .ret=> .ret
theorem CT {P:Program} {Q:Exit→Act→World→Prop} {c:Code} {a:Act} {w:World} (W:Act→World→Prop)
  (hW:∀ a w,W a w→∃ W':Act→World→Prop,c.wp P (Exit.then W' Q) a w∧∀ a' w',W' a' w'→∀ (b:Go.Frame) (k:List Item) (cs:List Go.Frame),∃ e a2 w2,Q e a2 w2∧Arrives P (lone (b.at a' (.code c:: .inLoop c::k)) cs w') b k cs e a2 w2) (h:W a w):
  ∀ (b:Go.Frame) (k:List Item) (cs:List Go.Frame),∃ e a' w',Q e a' w'∧Arrives P (lone (b.at a (.code c:: .inLoop c::k)) cs w) b k cs e a' w':=by
 intro b k cs;obtain ⟨W',h1,h2⟩:=hW a w h
 obtain ⟨e,a₁,w₁,hq,harr⟩:=h1 b (.inLoop c::k) cs
 cases e with
 | normal=>
  obtain ⟨e₂,a₂,w₂,hq₂,harr₂⟩:=h2 a₁ w₁ hq b k cs
  exact ⟨e₂,a₂,w₂,hq₂, .of_steps (Steps.trans harr (.one step_inLoop)) harr₂⟩
 | exit id=>exact ⟨_,a₁,w₁,hq, .pass (x:= .inLoop c) rfl (fun _ _=> .inl (by simp)) harr⟩
 | goto l=>exact ⟨_,a₁,w₁,hq, .pass (x:= .inLoop c) rfl (fun _ _=> .inl (by simp)) harr⟩
 | ret=>exact ⟨_,a₁,w₁,hq, .pass (x:= .inLoop c) rfl (fun _ _=> .inl (by simp)) harr⟩
 | panic ch=>exact ⟨_,a₁,w₁,hq, .pass (x:= .inLoop c) rfl (fun _ _=> .inl (by simp)) harr⟩
 | outgrown=>exact ⟨_,a₁,w₁,hq, .pass (x:= .inLoop c) rfl (fun _ _=> .inl (by simp)) harr⟩
section
variable {E:Env} {cx:Cx} {S:StA} {X:List (Cell Tg)} {C:Nat→Nat→Prop} {a:Act} {w w':World} {orac:dH} {modes:bO}
theorem EL (h:a.tmps.size=E.nt) {d:Nat} (hd:d < E.nt):a.put (some d) (a.tmps.getD d undef)=a:=by
 obtain ⟨tmps,defers⟩:=a
 simp only[Act.put,Act.mk.injEq,and_true];apply Array.ext_getElem?;intro i;rw[Array.getElem?_setIfInBounds]
 split
 ·rename_i e;subst e;have:d < tmps.size:=by rw[h];exact hd
  simp[this]
 ·rfl
theorem qg (hf:Fits E cx) (h:Inv E S [] C a w) {c:Operand} {x:Opd} (hc:bj cx c=some x) {b:Bool} {st1:St} (hr:uT x (erS S)=some (b,st1)):
  ∃ S1,erS S1=st1∧Inv E S1 [] C a w∧a.eval c= .bool b:=by
 unfold uT at hr;split at hr
 ·rename_i i;have hct:c= .tmp i∧i < cx.nt:=by
   cases c with
   | tmp t=>
    simp only[bj] at hc;split at hc
    ·rename_i ht;simp only[Option.some.injEq,Opd.t.injEq] at hc;subst hc;exact ⟨rfl,ht⟩
    ·cases hc
   | const v=>
    cases v<;>simp[bj] at hc
   | global g=>simp[bj] at hc
   | func f=>simp[bj] at hc
  obtain ⟨rfl,hi⟩:=hct
  rw[hf.nt] at hi;split at hr
  ·rename_i s hs;obtain ⟨sA,hsA,rfl⟩:=bJ hs
   split at hr
   ·rename_i z hk hcs;have hkv:sA.k= .val:=by
     rw[bg] at hk;cases hk':sA.k<;>rw[hk'] at hk<;>simp[Kd.er] at hk ⊢
    split at hr
    ·rename_i b' hb;simp only[Option.some.injEq,Prod.mk.injEq] at hr;obtain ⟨rfl,rfl⟩:=hr
     have hv:=h.slv i sA hi hsA;have hv0:=hv;unfold SlV at hv;rw[hkv] at hv;obtain ⟨cc,hcc,hv⟩:=hv
     rw[aP,hcc] at hcs;simp only[List.map_cons,List.map_nil,List.cons.injEq,and_true] at hcs;have hbb:cc.v= .bool b':=sj (by rw[←hb,←hcs];rfl)
     have hk:=h.cells i sA hsA cc (by rw[hcc];exact List.mem_singleton.2 rfl)
     have hfree:BZ sA:=by
      refine ⟨by rw[hkv];simp,fun x hx=>?_⟩
      rw[hcc,List.mem_singleton] at hx;subst hx;refine ⟨by rw[hbb];rfl,?_⟩
      obtain ⟨v,f⟩:=x
      simp only at hbb;subst hbb;cases f with
      | ow g=>exact absurd hk.1 (by simp[aY])
      | nw g=>exact absurd hk.1 (by simp[aY])
      | mp i=>
       obtain ⟨_,⟨t,es,e1,_⟩,_⟩:=hk
       have e1:(VA.bool b':A)= .row t es:=e1;cases e1
      | _=>rfl
     refine ⟨S.set i ⟨.dead,[]⟩,by rw[fi];rfl,?_,?_⟩
     ·have:=Inv.put (zs:=[]) (s:=⟨.dead,[]⟩) (v:=a.tmps.getD i undef) h hi hsA hfree rfl (by simp) trivial (by simp) (by simp)
      rwa [EL h.tsz hi] at this
     ·show a.tmps.getD i undef=_;rw[hv,hbb];rfl
    ·cases hr
   ·cases hr
  ·cases hr
 ·rename_i b';simp only[Option.some.injEq,Prod.mk.injEq] at hr;obtain ⟨rfl,rfl⟩:=hr
  refine ⟨S,rfl,h,?_⟩
  cases c with
  | tmp t=>simp only[bj] at hc;split at hc<;>simp at hc
  | const v=>
   cases v with
   | bool b=>simp[bj,cQ] at hc;subst hc;rfl
   | agg cs=>simp[bj] at hc
   | slice ad l cp=>
    simp only[bj,Option.map_eq_some_iff] at hc;obtain ⟨u,h1,h2⟩:=hc
    simp only[Opd.c.injEq,List.cons.injEq,and_true,true_and] at h2;subst h2;have:=(kL (sid:=fun _=>0) h1).2.1
    simp[cA,VA.val] at this
   | _=>simp[bj,cQ] at hc
  | global g=>simp[bj] at hc
  | func f=>simp[bj] at hc
 ·cases hr
theorem nH (hf:Fits E cx) (hO:∀ g,dG E.P E.sid orac g) {all:List Nat} {n:Nat}:∀ (c:Code) {S:StA} {C:Nat→Nat→Prop} {a:Act} {w:World} {ex:Ex} {fin:St} {Q:Exit→Act→World→Prop},Inv E S [] C a w→E.base≤w.heap.size→
  code orac modes cx.nt n (cX cx all c) (erS S)=some (ex,fin)→(∀ S1 C1 a1 w1,erS S1=fin→Inv E S1 [] C1 a1 w1→Frame E w w1→Q (Dz ex) a1 w1)→c.wp E.P Q a w:=by
 intro c;induction c with
 | skip=>
  intro S C a w ex fin Q h hb hr hQ;simp only[cX,code,Option.some.injEq,Prod.mk.injEq] at hr;obtain ⟨rfl,rfl⟩:=hr
  exact Go.wp_skip (hQ S C a w rfl h (Frame.refl E w))
 | region id ops draw=>
  intro S C a w ex fin Q h hb hr hQ;simp only[cX] at hr;split at hr
  ·simp[code] at hr
  ·rename_i hed;split at hr
   ·rename_i ios hios;simp only[code] at hr;split at hr
    ·cases hr
    ·rename_i hdr;split at hr
     ·rename_i st1 hreg;simp only[Option.some.injEq,Prod.mk.injEq] at hr;obtain ⟨rfl,rfl⟩:=hr
      refine yG hf hO h hb (fun hd=>?_) hios (fun hd=>?_) hreg hQ
      ·rw[hd] at hed
       simpa using hed
      ·rw[hd] at hdr
       simpa using hdr
     ·cases hr
   ·simp[code] at hr
 | seq x y ihx ihy=>
  intro S C a w ex fin Q h hb hr hQ;simp only[cX,code] at hr;refine wp_seq ?_
  split at hr
  ·rename_i st1 h1;refine ihx h hb h1 (fun S1 C1 a1 w1 e1 e2 e3=>?_)
   show y.wp E.P Q a1 w1;refine ihy e2 (Nat.le_trans hb e3.size) (by rw[e1];exact hr) (fun S2 C2 a2 w2 f1 f2 f3=>hQ S2 C2 a2 w2 f1 f2 (e3.trans f3))
  ·rename_i hne;refine ihx h hb hr (fun S1 C1 a1 w1 e1 e2 e3=>?_)
   have:=hQ S1 C1 a1 w1 e1 e2 e3
   cases ex with
   | normal=>exact absurd hr (by intro hh;exact hne _ hh)
   | exit id=>exact this
   | ret=>exact this
 | cond c x y ihx ihy=>
  intro S C a w ex fin Q h hb hr hQ;simp only[cX] at hr;split at hr
  ·rename_i xo hxo;simp only[code] at hr;split at hr
   ·rename_i st1 h1;obtain ⟨S1,e1,e2,e3⟩:=qg hf h hxo h1
    exact wp_cond_true e3 (ihx e2 hb (by rw[e1];exact hr) hQ)
   ·rename_i st1 h1;obtain ⟨S1,e1,e2,e3⟩:=qg hf h hxo h1
    exact wp_cond_false e3 (ihy e2 hb (by rw[e1];exact hr) hQ)
   ·cases hr
  ·simp[code] at hr
 | block id c ih=>
  intro S C a w ex fin Q h hb hr hQ;simp only[cX,code] at hr;refine wp_block ?_
  split at hr
  ·rename_i id' st1 h1;refine ih h hb h1 (fun S1 C1 a1 w1 e1 e2 e3=>?_)
   simp only[Dz,Exit.inBlock];split at hr
   ·rename_i hid;simp only[Option.some.injEq,Prod.mk.injEq] at hr;obtain ⟨rfl,rfl⟩:=hr
    rw[if_pos hid];exact hQ S1 C1 a1 w1 e1 e2 e3
   ·rename_i hid;simp only[Option.some.injEq,Prod.mk.injEq] at hr;obtain ⟨rfl,rfl⟩:=hr
    rw[if_neg hid];exact hQ S1 C1 a1 w1 e1 e2 e3
  ·rename_i hne;refine ih h hb hr (fun S1 C1 a1 w1 e1 e2 e3=>?_)
   have:=hQ S1 C1 a1 w1 e1 e2 e3
   cases ex with
   | normal=>exact this
   | exit id'=>exact absurd hr (by intro hh;exact hne _ _ hh)
   | ret=>exact this
 | loop c ih=>
  intro S C a w ex fin Q h hb hr hQ;simp only[cX,code] at hr;have key:∀ (m:Nat) {S:StA} {C:Nat→Nat→Prop} {a:Act} {w0:World},Inv E S [] C a w0→Frame E w w0→gM (code orac modes cx.nt n (cX cx all c)) m (erS S)=some (ex,fin)→
    ∀ (b:Go.Frame) (k:List Item) (cs:List Go.Frame),∃ e a' w',Q e a' w'∧Arrives E.P (lone (b.at a (.code c:: .inLoop c::k)) cs w0) b k cs e a' w':=by
   intro m;induction m with
   | zero=>intro S C a w0 _ _ hr;simp[gM] at hr
   | succ m ihm=>
    intro S C a w0 hi hfr hr;simp only[gM] at hr;refine CT (fun a' w'=>a'=a∧w'=w0) ?_ ⟨rfl,rfl⟩
    rintro a' w' ⟨rfl,rfl⟩
    split at hr
    ·rename_i st1 h1;refine ⟨fun a1 w1=>∃ S1 C1,erS S1=st1∧Inv E S1 [] C1 a1 w1∧Frame E w w1,ih hi (Nat.le_trans hb hfr.size) h1 (fun S1 C1 a1 w1 e1 e2 e3=>⟨S1,C1,e1,e2,hfr.trans e3⟩),?_⟩
     rintro a1 w1 ⟨S1,C1,e1,e2,e3⟩
     exact ihm e2 e3 (by rw[e1];exact hr)
    ·rename_i hne;refine ⟨fun _ _=>False,ih hi (Nat.le_trans hb hfr.size) hr (fun S1 C1 a1 w1 e1 e2 e3=>?_),fun _ _ hf=>hf.elim⟩
     have:=hQ S1 C1 a1 w1 e1 e2 (hfr.trans e3)
     cases ex with
     | normal=>exact absurd hr (by intro hh;exact hne _ hh)
     | exit id=>exact this
     | ret=>exact this
  intro b k cs;obtain ⟨e,a',w',hq,harr⟩:=key n h (Frame.refl E w) hr b k cs
  exact ⟨e,a',w',hq, .of_steps (.one step_loop) harr⟩
 | exit id=>
  intro S C a w ex fin Q h hb hr hQ;simp only[cX,code,Option.some.injEq,Prod.mk.injEq] at hr;obtain ⟨rfl,rfl⟩:=hr
  exact wp_exit (hQ S C a w rfl h (Frame.refl E w))
 | ret=>
  intro S C a w ex fin Q h hb hr hQ;simp only[cX,code,Option.some.injEq,Prod.mk.injEq] at hr;obtain ⟨rfl,rfl⟩:=hr
  exact wp_ret (hQ S C a w rfl h (Frame.refl E w))
 | _=>
  intros;rename_i hr _;simp[cX,code] at hr
end
end Go.Vm
end
section
namespace Go.Vm
def gC:SA:=⟨.dead,[]⟩
def oN (n:Nat):List SA→List SA
 | ⟨.box _,_⟩::r=>⟨.ptr (bf n+1) 0,[]⟩::r
 | l=>l
def o5:List SA→SA
 | ⟨.box t,cs⟩::_=>⟨.box t,cs⟩
 | _=>gC
def gm (n np:Nat) (args:List SA):StA:=(oN n args++List.replicate (n - np) gC)++(List.replicate (n+1) gC++[o5 args])
def nB:List SA→Tg
 | ⟨.box t,_⟩::_=>t
 | _=>⟨none,0,0⟩
def bt (E:Env) (n:Nat) (args:List SA):Env:={ E with nt:=n,chg:=fun b=>b∈args.flatMap Sl.own,pb:=nB args }
theorem vR (fn:FnIr) (args:List SA):erS (gm fn.ntmps fn.np args)=jI fn (args.map Sl.er):=by
 cases args with
 | nil=>simp[gm,oN,o5,jI,erS];rfl
 | cons s r=>
  obtain ⟨k,cs⟩:=s
  cases k<;>simp[gm,oN,o5,jI,erS,Sl.er,Kd.er,gC,dead]
theorem mW (n:Nat) (args:List SA):(oN n args).length=args.length:=by
 cases args with
 | nil=>rfl
 | cons s r=>
  obtain ⟨k,cs⟩:=s
  cases k<;>rfl
theorem ya {n:Nat} {args:List SA} {i:Nat} {s:SA} (h:(oN n args)[i]?=some s):
  (args[i]?=some s∧(i=0→∀ t,s.k≠ .box t))∨(i=0∧s=⟨.ptr (bf n+1) 0,[]⟩∧args[0]?=some (o5 args)∧(o5 args).k= .box (nB args)):=by
 cases args with
 | nil=>simp[oN] at h
 | cons s0 r=>
  obtain ⟨k,cs⟩:=s0
  cases i with
  | zero=>
   cases k with
   | box t=>
    simp only[oN,List.getElem?_cons_zero,Option.some.injEq] at h
    exact .inr ⟨rfl,h.symm,rfl,rfl⟩
   | _=>
    simp only[oN,List.getElem?_cons_zero,Option.some.injEq] at h
    subst h;exact .inl ⟨rfl,fun _ t=>by simp⟩
  | succ i=>
   refine .inl ⟨?_,by simp⟩
   cases k<;>simpa [oN] using h
theorem uv (args:List SA):o5 args=gC∨(args[0]?=some (o5 args)∧(o5 args).k= .box (nB args)):=by
 cases args with
 | nil=>exact .inl rfl
 | cons s0 r=>
  obtain ⟨k,cs⟩:=s0
  cases k<;>first | exact .inl rfl | exact .inr ⟨rfl,rfl⟩
theorem CQ (n:Nat) (args:List SA) (b:Nat):((oN n args).flatMap Sl.own).count b+(o5 args).own.count b=(args.flatMap Sl.own).count b:=by
 cases args with
 | nil=>simp[oN,o5,gC,Sl.own,Sl.boxOwn]
 | cons s0 r=>
  obtain ⟨k,cs⟩:=s0
  cases k<;>simp[oN,o5,gC,Sl.own,Sl.boxOwn,List.count_append]<;>omega
theorem AQ {n np:Nat} {args:List SA} (hl:args.length=np) (hle:np≤n) {i:Nat} {s:SA} (h:(gm n np args)[i]?=some s):
  (i < n∧((oN n args)[i]?=some s∨(np≤i∧s=gC)))∨(n≤i∧i < bf n+1∧s=gC)∨(i=bf n+1∧s=o5 args):=by
 have hlen:(oN n args++List.replicate (n - np) gC).length=n:=by rw[List.length_append,mW,List.length_replicate];omega
 unfold gm at h;rw[List.getElem?_append] at h
 split at h
 ·rename_i hi;rw[hlen] at hi;refine .inl ⟨hi,?_⟩
  rw[List.getElem?_append] at h
  split at h
  ·exact .inl h
  ·rename_i hi2;rw[mW] at hi2;rw[List.getElem?_replicate] at h
   split at h
   ·simp only[Option.some.injEq] at h;exact .inr ⟨by omega,h.symm⟩
   ·cases h
 ·rename_i hi;rw[hlen] at hi h;refine .inr ?_
  rw[List.getElem?_append] at h
  split at h
  ·rename_i hi2;rw[List.length_replicate] at hi2;rw[List.getElem?_replicate,if_pos hi2] at h
   simp only[Option.some.injEq] at h;exact .inl ⟨by omega,by unfold bf;omega,h.symm⟩
  ·rename_i hi2;rw[List.length_replicate] at hi2 h;cases hk:i - n - (n+1) with
   | zero=>
    rw[hk] at h;simp only[List.getElem?_cons_zero,Option.some.injEq] at h
    exact .inr ⟨by unfold bf;omega,h.symm⟩
   | succ m=>
    rw[hk] at h;simp at h
theorem COk.entry {E:Env} {w:World} {n:Nat} {args:List SA} (he:Entry E w args) {s:SA} (hs:s∈args) {x:Cell Tg} (hx:x∈s.cs) {S:StA} {X:List (Cell Tg)}:COk (bt E n args) w E.old S X x:=by
 have hk:=he.cells s hs x hx;have hf:=he.flags s hs x hx;obtain ⟨v,f⟩:=x
 rcases hf with hf | ⟨p,q,hf⟩ | hf | hf | ⟨i,hf⟩
 ·simp only at hf;subst hf;exact hk
 ·simp only at hf;subst hf;exact hk
 ·simp only at hf;subst hf;exact hk
 ·simp only at hf;subst hf;exact hk
 ·simp only at hf;subst hf;refine ⟨hk.1,hk.2.1,fun b hb=> .inr ?_⟩
  refine List.mem_flatMap.2 ⟨s,hs,?_⟩
  unfold Sl.own;exact List.mem_append.2 (.inr (List.mem_flatMap.2 ⟨_,hx,dh (x:=⟨v, .mp i⟩) rfl hb⟩))
theorem u9 {E:Env} {w:World} {args:List SA} (he:Entry E w args) {n np:Nat} (hl:args.length=np) (hle:np≤n):
  Inv (bt E n args) (gm n np args) [] E.old { tmps:=(args.map (bm E.sid)).toArray++Array.replicate (n - np) undef,defers:=[] } w:=by
 have hget:=fun {i:Nat} {s:SA} (h:(gm n np args)[i]?=some s)=>AQ hl hle h
 have hlen:(gm n np args).length=2 * n+2:=by
  simp only[gm,List.length_append,mW,List.length_replicate,List.length_cons,List.length_nil];omega
 have htop:(gm n np args)[bf n+1]?=some (o5 args):=by
  have hlen1:(oN n args++List.replicate (n - np) gC).length=n:=by rw[List.length_append,mW,List.length_replicate];omega
  unfold gm;rw[List.getElem?_append_right (by rw[hlen1];unfold bf;omega),hlen1,List.getElem?_append_right (by rw[List.length_replicate];unfold bf;omega),List.length_replicate]
  have:bf n+1 - n - (n+1)=0:=by unfold bf;omega
  rw[this];rfl
 have hmem:∀ {i:Nat} {s:SA},(gm n np args)[i]?=some s→s=gC∨s=⟨.ptr (bf n+1) 0,[]⟩∨s∈args:=by
  intro i s h;rcases hget h with ⟨_,h1 | ⟨_,h1⟩⟩ | ⟨_,_,h1⟩ | ⟨_,h1⟩
  ·rcases ya h1 with ⟨h2,_⟩ | ⟨_,h2,_⟩
   ·exact .inr (.inr (List.mem_of_getElem? h2))
   ·exact .inr (.inl h2)
  ·exact .inl h1
  ·exact .inl h1
  ·rcases uv args with h2 | ⟨h2,_⟩
   ·exact .inl (h1.trans h2)
   ·rw[h1];exact .inr (.inr (List.mem_of_getElem? h2))
 have hkarg:∀ s∈args,(s.k= .val∧∃ c,s.cs=[c])∨s.k= .agg∨∃ t,s.k= .box t:=by
  intro s hs;obtain ⟨i,hi⟩:=List.mem_iff_getElem?.1 hs
  rcases he.kinds i s hi with h | h | ⟨_,h⟩
  ·exact .inl h
  ·exact .inr (.inl h)
  ·exact .inr (.inr h)
 have hown:∀ b,(aA (gm n np args) []).count b=(args.flatMap Sl.own).count b:=by
  intro b;have hr:∀ m,((List.replicate m gC).flatMap Sl.own).count b=0:=by
   intro m;rw[List.count_eq_zero];intro hm;obtain ⟨s,hs,hb⟩:=List.mem_flatMap.1 hm
   rw[List.eq_of_mem_replicate hs] at hb;simp[gC,Sl.own,Sl.boxOwn] at hb
  have:=CQ n args b
  simp only[aA,gm,List.flatMap_append,List.flatMap_nil,List.append_nil,List.count_append,hr,List.flatMap_cons];omega
 refine ⟨hlen,by simp[bt,hl];omega,rfl,?_,?_,?_,?_,?_,?_,?_,?_,by simp,fun b=>by rw[hown];exact he.cnt b,fun _ _=>id,fun b j hj=>he.olt b j hj,fun b j hj=> .inr (.inl hj),fun b hb=>?_⟩
 ·intro i s hi hs;have hi:i < n:=hi;rcases hget hs with ⟨_,h1 | ⟨_,h1⟩⟩ | ⟨h2,_⟩ | ⟨h2,_⟩
  ·have hil:i < args.length:=by rw[←mW n];exact (List.getElem?_eq_some_iff.1 h1).1
   have hv:∀ s0,args[i]?=some s0→((({ tmps:=(args.map (bm E.sid)).toArray++Array.replicate (n - np) undef,defers:=[] }:Act).tmps).getD i undef)=bm E.sid s0:=by
    intro s0 hs0;have:(args.map (bm E.sid))[i]?=some (bm E.sid s0):=by simp[hs0]
    simp only[Array.getD_eq_getD_getElem?];rw[Array.getElem?_append_left (by simpa using hil)]
    rw[List.getElem?_toArray,this];rfl
   rcases ya h1 with ⟨h2,h3⟩ | ⟨rfl,rfl,h3,h4⟩
   ·rw[hv s h2];rcases he.kinds i s h2 with ⟨hk,c,hc⟩ | hk | ⟨h0,t,hk⟩
    ·unfold SlV;rw[hk];exact ⟨c,hc,by simp[bm,hk,hc];rfl⟩
    ·unfold SlV;rw[hk];simp only[bm,hk];rfl
    ·exact absurd hk (h3 h0 t)
   ·rw[hv _ h3];obtain ⟨b,T,q1,_⟩:=he.box (o5 args) (List.mem_of_getElem? h3) _ h4
    refine ⟨b,?_,by simp[bm,h4,q1]⟩
    unfold aL;rw[htop];generalize o5 args=z at h4
    obtain ⟨k,cs⟩:=z
    simp only at h4;subst h4;exact q1
  ·rw[h1];trivial
  ·omega
  ·unfold bf at h2;omega
 ·intro i s hi hs;have hi:n≤i:=hi;rcases hget hs with ⟨h2,_⟩ | ⟨_,_,h1⟩ | ⟨_,h1⟩
  ·omega
  ·rw[h1];exact .inl rfl
  ·rcases uv args with h2 | ⟨_,h2⟩
   ·rw[h1,h2];exact .inl rfl
   ·rw[h1];exact .inr (.inr ⟨_,h2,fun _=>rfl⟩)
 ·intro i s hs hk;rcases hmem hs with h1 | h1 | h1
  ·rw[h1];rfl
  ·rw[h1]
  ·exfalso
   rcases hkarg s h1 with ⟨h2,_⟩ | h2 | ⟨t,h2⟩<;>rw[h2] at hk<;>simp at hk
 ·intro i s hi hs hk;rcases hmem hs with h1 | h1 | h1
  ·rw[h1] at hk;simp[gC] at hk
  ·rw[h1] at hk;simp at hk
  ·exfalso
   rcases hkarg s h1 with ⟨h2,_⟩ | h2 | ⟨t,h2⟩<;>rw[h2] at hk<;>simp at hk
 ·intro l _ _;refine ⟨fun i s hs x hx p q r hf=>?_,by simp⟩
  rcases hmem hs with h1 | h1 | h1
  ·rw[h1] at hx;simp[gC] at hx
  ·rw[h1] at hx;simp at hx
  ·rcases he.flags s h1 x hx with h | ⟨_,_,h⟩ | h | h | ⟨_,h⟩<;>rw[h] at hf<;>simp at hf
 ·intro i s t hs hk;rcases hmem hs with h1 | h1 | h1
  ·rw[h1] at hk;simp[gC] at hk
  ·rw[h1] at hk;simp at hk
  ·obtain ⟨b,T,q1,q2,q3,q4⟩:=he.box s h1 t hk
   refine ⟨b,T,q1,q2,q3, .inr ?_⟩
   refine List.mem_flatMap.2 ⟨s,h1,?_⟩
   unfold Sl.own;exact List.mem_append.2 (.inl (by simp[Sl.boxOwn,hk,q1]))
 ·intro i s t src ix hs hk;exfalso
  rcases hmem hs with h1 | h1 | h1
  ·rw[h1] at hk;simp[gC] at hk
  ·rw[h1] at hk;simp at hk
  ·rcases hkarg s h1 with ⟨h2,_⟩ | h2 | ⟨t,h2⟩<;>rw[h2] at hk<;>simp at hk
 ·intro i s hs x hx;rcases hmem hs with h1 | h1 | h1
  ·rw[h1] at hx;simp[gC] at hx
  ·rw[h1] at hx;simp at hx
  ·exact COk.entry he h1 hx
 ·refine he.own b ?_
  have:=hown b
  have h2:=List.count_pos_iff.2 hb;exact List.count_pos_iff.1 (by omega)
theorem qZ {E:Env} {w:World} {args:List SA} (he:Entry E w args) {b:Nat} (hb:b∈args.flatMap Sl.own):E.chg b∧b < E.base:=by
 have hlt:=(he.own b hb).1;obtain ⟨s,hs,hbs⟩:=List.mem_flatMap.1 hb
 rw[he.base];refine ⟨?_,hlt⟩
 unfold Sl.own at hbs;rcases List.mem_append.1 hbs with h | h
 ·cases hk:s.k with
  | box t=>
   obtain ⟨b',T,q1,_,_,q4⟩:=he.box s hs t hk
   simp only[Sl.boxOwn,hk,q1,List.mem_singleton] at h;subst h;rcases q4 with q4 | q4
   ·rw[he.base] at q4;omega
   ·exact q4
  | _=>simp[Sl.boxOwn,hk] at h
 ·obtain ⟨x,hx,hbx⟩:=List.mem_flatMap.1 h
  have hk:=he.cells s hs x hx;have hf:=he.flags s hs x hx;obtain ⟨v,f⟩:=x
  rcases hf with hf | ⟨p,q,hf⟩ | hf | hf | ⟨i,hf⟩<;>(simp only at hf;subst hf)<;>simp[Cell.own,aN] at hbx
  rcases hk.2.2 b hbx with h1 | h1
  ·rw[he.base] at h1;omega
  ·exact h1
end Go.Vm
end
section
namespace Go.Vm
inductive ResC (E:Env) (S:StA) (C:Nat→Nat→Prop) (w:World):Cell Tg→List (Nat×Nat)→Bool→Prop
 | sc (v:A) (h:scal v=true):ResC E S C w ⟨v, .sc⟩ [] false
 | nl (k:Nat):ResC E S C w ⟨.row ⟨none,0,k⟩ [], .nl⟩ [] false
 | own (v:A) (g:Bool) (p q:Nat) (y:Cell Tg) (hy:aD S p q=some y) (hf:y.f= .ow g∨y.f= .nw g) (hv:y.v=v):ResC E S C w ⟨v, .ow g⟩ [(p,q)] false
 | loose (v:A) (hr:aY v=true) (hf:Fst E w v):ResC E S C w ⟨v, .ow false⟩ [] true
 | no (v:A) (hr:aY v=true) (hrd:Rd E.sid w C v):ResC E S C w ⟨v, .no⟩ [] false
def Ib (E:Env) (S:StA) (C:Nat→Nat→Prop) (w:World) (zs:List (Cell Tg)) (pl:List (Nat×Nat)) (n:Nat):Prop:=
 ∃ ys:List (Cell Tg×List (Nat×Nat)×Bool),zs=ys.map (·.1)∧pl=ys.flatMap (·.2.1)∧n=(ys.filter (·.2.2)).length∧∀ y∈ys,ResC E S C w y.1 y.2.1 y.2.2
theorem nN {c:Bool} {α:Type} {a r:α} (h:(if c=true then some a else none)=some r):c=true∧r=a:=by
 cases c with
 | true=>simp at h;exact ⟨rfl,h.symm⟩
 | false=>simp at h
def pK (vs:List Value):Value:=
 match vs with
 | [v]=>v
 | vs=> .tuple vs.toArray
section
variable {E:Env} {cx:Cx} {S:StA} {X:List (Cell Tg)} {C:Nat→Nat→Prop} {a:Act} {w w':World}
theorem wV (h:Inv E S [] C a w) {s c:Nat} {x:Cell Tg} (hx:aD S s c=some x) {r:Cell Unit×List (Nat×Nat)×Bool} (hr:wU (erS S) s c x.er=some r):
  ∃ z:Cell Tg,z.er=r.1∧z.v=x.v∧ResC E S C w z r.2.1 r.2.2:=by
 obtain ⟨sl,hs,hc⟩:=aE hx
 have hk:=h.cells s sl hs x (List.mem_of_getElem? hc);obtain ⟨v,f⟩:=x
 unfold wU at hr;cases f with
 | sc=>
  simp only[Cell.er,Option.some.injEq] at hr;subst hr;exact ⟨⟨v, .sc⟩,rfl,rfl, .sc v hk⟩
 | nl=>
  simp only[Cell.er,Option.some.injEq] at hr;subst hr;obtain ⟨k,hv⟩:=hk
  have hv:v= .row ⟨none,0,k⟩ []:=hv;subst hv;exact ⟨_,rfl,rfl, .nl k⟩
 | ow g=>
  simp only[Cell.er,Option.some.injEq] at hr;subst hr;exact ⟨⟨v, .ow g⟩,rfl,rfl, .own v g s c _ hx (.inl rfl) rfl⟩
 | nw g=>
  simp only[Cell.er,Option.some.injEq] at hr;subst hr;exact ⟨⟨v, .ow g⟩,rfl,rfl, .own v g s c _ hx (.inr rfl) rfl⟩
 | sp p q=>
  simp only[Cell.er] at hr;obtain ⟨hrow,rfl⟩:=nN hr
  rw[fX] at hrow;exact ⟨⟨v, .no⟩,rfl,rfl, .no v hrow (hk.2.1.mono h.olt (fun _ _ _=>rfl))⟩
 | sh=>
  simp only[Cell.er] at hr;obtain ⟨hrow,rfl⟩:=nN hr
  rw[fX] at hrow;exact ⟨⟨v, .no⟩,rfl,rfl, .no v hrow (Rd.mono hk h.olt (fun _ _ _=>rfl))⟩
 | no=>
  simp only[Cell.er] at hr;obtain ⟨_,rfl⟩:=nN hr
  exact ⟨⟨v, .no⟩,rfl,rfl, .no v hk.1 hk.2⟩
 | fr=>
  simp only[Cell.er,Option.some.injEq] at hr;subst hr;exact ⟨⟨v, .ow false⟩,rfl,rfl, .loose v hk.1 hk.2.2⟩
 | mp i=>simp[Cell.er] at hr
 | ap p q i=>simp[Cell.er] at hr
 | dd=>simp[Cell.er] at hr
 | cp m p q ix=>
  have hno:ResC E S C w ⟨v, .no⟩ [] false:= .no v hk.1 hk.2.1;cases ix with
  | some i=>
   cases m with
   | own=>
    simp only[Cell.er,Option.some.injEq] at hr;subst hr;exact ⟨⟨v, .ow false⟩,rfl,rfl, .loose v hk.1 (hk.2.2.2 rfl)⟩
   | grn=>
    simp only[Cell.er] at hr;obtain ⟨_,rfl⟩:=nN hr
    exact ⟨⟨v, .no⟩,rfl,rfl,hno⟩
   | chg=>
    simp only[Cell.er,Option.some.injEq] at hr;subst hr;exact ⟨⟨v, .no⟩,rfl,rfl,hno⟩
  | none=>
   have gen:m≠ .chg→(match ((erS S)[p]?).bind fun sl=>qt sl q with
     | some (.ow g)=>some ((⟨v.er, .ow g⟩:Cell Unit),[(p,q)],false)
     | _=>match m with
      | .own=>some ((⟨v.er, .ow false⟩:Cell Unit),[],true)
      | _=>some ((⟨v.er, .no⟩:Cell Unit),[],false))=some r→∃ z:Cell Tg,z.er=r.1∧z.v=v∧ResC E S C w z r.2.1 r.2.2:=by
    intro hm hr;split at hr
    ·rename_i g hfl;simp only[Option.some.injEq] at hr;subst hr;cases hsp:(erS S)[p]? with
     | none=>rw[hsp] at hfl;simp at hfl
     | some slU=>
      rw[hsp] at hfl;obtain ⟨slA,hA,rfl⟩:=bJ hsp
      simp only[Option.bind_some,qt,aP,List.getElem?_map,Option.map_map,Option.map_eq_some_iff] at hfl
      obtain ⟨y,hy,hyf⟩:=hfl
      have hyf:y.f= .ow g:=hyf;have hyat:=bN hA hy;have hyv:y.v=v:=hk.2.2.1.2 y hyat (.inl ⟨g,hyf⟩);exact ⟨⟨v, .ow g⟩,rfl,rfl, .own v g p q y hyat (.inl hyf) hyv⟩
    ·cases m with
     | own=>
      simp only[Option.some.injEq] at hr;subst hr;exact ⟨⟨v, .ow false⟩,rfl,rfl, .loose v hk.1 (hk.2.2.2 rfl)⟩
     | grn=>
      simp only[Option.some.injEq] at hr;subst hr;exact ⟨⟨v, .no⟩,rfl,rfl,hno⟩
     | chg=>exact absurd rfl hm
   cases m with
   | own=>exact gen (by simp) hr
   | grn=>exact gen (by simp) hr
   | chg=>
    simp only[Cell.er,Option.some.injEq] at hr;subst hr;exact ⟨⟨v, .no⟩,rfl,rfl,hno⟩
theorem oh (h:Inv E S [] C a w) {s:Nat}:∀ (cs:List (Cell Tg)) (c:Nat) {ys:List (Cell Unit×List (Nat×Nat)×Bool)},(∀ j x,cs[j]?=some x→aD S s (c+j)=some x)→nk (erS S) s c (cs.map Cell.er)=some ys→
  ∃ zs:List (Cell Tg×List (Nat×Nat)×Bool),zs.map (fun z=>(z.1.er,z.2))=ys∧zs.map (·.1.v)=cs.map (·.v)∧∀ z∈zs,ResC E S C w z.1 z.2.1 z.2.2
 | [],c,ys,_,hr=>by
  simp only[List.map_nil,nk,Option.some.injEq] at hr;subst hr;exact ⟨[],rfl,rfl,by simp⟩
 | x::cs,c,ys,hcs,hr=>by
  simp only[List.map_cons,nk] at hr;split at hr
  ·rename_i y ys' h1 h2;simp only[Option.some.injEq] at hr;subst hr;obtain ⟨z,e1,e2,e3⟩:=wV h (hcs 0 x rfl) h1
   obtain ⟨zs,k1,k2,k3⟩:=oh h cs (c+1) (fun j x' hx'=>by
    have:=hcs (j+1) x' (by simpa using hx')
    rwa [show c+1+j=c+(j+1) by omega]) h2
   refine ⟨(z,y.2)::zs,?_,by simp[e2,k2],fun z' hz'=>?_⟩
   ·simp only[List.map_cons,k1,e1]
   ·rcases List.mem_cons.1 hz' with rfl | hz'
    ·exact e3
    ·exact k3 z' hz'
  ·cases hr
theorem oI (h:Inv E S [] C a w) {s:Nat} {sl:SA} (hs:S[s]?=some sl) {k:Kd Unit} {r:SU×List (Nat×Nat)×Nat} (hr:xM (erS S) k s sl.er.cs=some r):
  ∃ zs:List (Cell Tg),r.1=⟨k,zs.map Cell.er⟩∧zs.map (·.v)=sl.cs.map (·.v)∧Ib E S C w zs r.2.1 r.2.2:=by
 unfold xM at hr;split at hr
 ·rename_i ys hys;simp only[Option.some.injEq] at hr;subst hr;rw[aP] at hys;obtain ⟨zs,k1,k2,k3⟩:=oh h sl.cs 0 (fun j x hx=>by rw[Nat.zero_add];exact bN hs hx) hys
  subst k1;refine ⟨zs.map (·.1),?_,by rw[List.map_map];exact k2,zs,rfl,?_,?_,k3⟩
  ·simp only[List.map_map];rfl
  ·simp only[List.flatMap_map]
  ·rw[List.filter_map,List.length_map];rfl
 ·cases hr
def gK (tmps:Array Value):ResultVar→Sem Value
 | .tmp t=>pure (tmps.getD t undef)
 | .cell a t=>do loadVar t (←asAddr (tmps.getD a undef))
theorem yI {P:Program} {fn:Func} {tmps:Array Value} {vs:List Value} (h:∀ (i:Nat) (r:ResultVar),fn.results[i]?=some r→∃ v,vs[i]?=some v∧(gK tmps r).run P w= .ok v w) (hl:vs.length=fn.results.size):
  (results fn tmps).run P w= .ok (pK vs) w:=by
 have key:∀ (rs:List ResultVar) (vs:List Value),vs.length=rs.length→(∀ (i:Nat) (r:ResultVar),rs[i]?=some r→∃ v,vs[i]?=some v∧(gK tmps r).run P w= .ok v w)→(rs.mapM (gK tmps)).run P w= .ok vs w:=by
  intro rs;induction rs with
  | nil=>
   intro vs hl _;have:vs=[]:=List.eq_nil_of_length_eq_zero hl
   subst this;rfl
  | cons r rs ih=>
   intro vs hl hh;cases vs with
   | nil=>simp at hl
   | cons v vs=>
    obtain ⟨v',hv',hr⟩:=hh 0 r rfl
    simp only[List.getElem?_cons_zero,Option.some.injEq] at hv'
    subst hv';have:=ih vs (by simpa using hl) (fun i r' hr'=>by
     obtain ⟨u,hu,hru⟩:=hh (i+1) r' (by simpa using hr')
     exact ⟨u,by simpa using hu,hru⟩)
    rw[List.mapM_cons];simp[Sem.run_bind,hr,this]
 have hm:=key fn.results.toList vs (by simpa using hl) (fun i r hr=>h i r (by rw[←Array.getElem?_toList];exact hr))
 have heq:results fn tmps=(do let vs ←fn.results.mapM (gK tmps);pure (if h:vs.size=1 then vs[0] else .tuple vs)):=rfl
 rw[heq,Array.mapM_eq_mapM_toList];simp only[Sem.run_bind,Sem.run_map,hm,Result.andThen_ok]
 match vs with
 | []=>simp[pK]
 | [v]=>simp[pK]
 | v::v'::vs=>simp[pK]
structure ResOk (E:Env) (S:StA) (C:Nat→Nat→Prop) (w:World) (s:SA) (pl:List (Nat×Nat)) (n:Nat):Prop where
 cells:(((s.k= .val∧∃ c,s.cs=[c])∨s.k= .agg)∧Ib E S C w s.cs pl n)∨
  ∃ t b,s.k= .box t∧pl=[]∧n=0∧∃ (r:Nat) (sl:SA),S[r]?=some sl∧sl.k= .box t∧t.a=some ⟨b,0,none⟩∧sl.cs.map (·.v)=s.cs.map (·.v)∧
   ∀ x∈s.cs,ResC E S C w x [] false∧∀ g,x.f≠ .ow g
theorem yH {P:Program} (h:Inv E S [] C a w) {rv:ResultVar} {r:Nat×Option (Bool×Nat)} (hrv:r=match rv with | .tmp t=>(t,none) | .cell p t=>(p,some ((iM P t).getD (false,0)))) {y:SU×List (Nat×Nat)×Nat} (hr:qP (erS S) r=some y):
  ∃ s:SA,s.er=y.1∧(gK a.tmps rv).run P w= .ok (bm E.sid s) w∧ResOk E S C w s y.2.1 y.2.2:=by
 unfold qP at hr;split at hr
 ·cases hr
 ·rename_i slU hsl;obtain ⟨sl,hs,rfl⟩:=bJ hsl
  have hlow:(sl.k= .val∨sl.k= .agg∨∃ b o,sl.k= .ptr b o)→r.1 < E.nt:=by
   intro hk;rcases Nat.lt_or_ge r.1 E.nt with hlt | hge
   ·exact hlt
   ·exfalso
    rcases h.high r.1 sl hge hs with h1 | h1 | ⟨t,h1,_⟩<;>rw[h1] at hk<;>simp at hk
  split at hr
  ·rename_i hr2 hk;have hkv:sl.k= .val:=by
    rw[bg] at hk;cases hk':sl.k<;>rw[hk'] at hk<;>simp[Kd.er] at hk ⊢
   have hv:=h.slv r.1 sl (hlow (.inl hkv)) hs;unfold SlV at hv;rw[hkv] at hv;obtain ⟨c,hc,hv⟩:=hv
   obtain ⟨zs,e1,e2,e3⟩:=oI h hs hr
   obtain ⟨z,hz,hzv⟩:=fA e2 hc
   refine ⟨⟨.val,zs⟩,by rw[e1];rfl,?_,⟨.inl ⟨.inl ⟨rfl,z,hz⟩,e3⟩⟩⟩
   cases rv with
   | tmp t=>
    subst hrv;simp only[gK,bm,hz,hzv];rw[←hv];rfl
   | cell p t=>subst hrv;simp at hr2
  ·rename_i hr2 hk;have hkv:sl.k= .agg:=by
    rw[bg] at hk;cases hk':sl.k<;>rw[hk'] at hk<;>simp[Kd.er] at hk ⊢
   have hv:=h.slv r.1 sl (hlow (.inr (.inl hkv))) hs;unfold SlV at hv;rw[hkv] at hv;obtain ⟨zs,e1,e2,e3⟩:=oI h hs hr
   refine ⟨⟨.agg,zs⟩,by rw[e1];rfl,?_,⟨.inl ⟨.inr rfl,e3⟩⟩⟩
   cases rv with
   | tmp t=>
    subst hrv;simp only[gK,bm];rw[d9 e2,←hv];rfl
   | cell p t=>subst hrv;simp at hr2
  ·rename_i b hr2 hk;have hkv:sl.k= .ptr b 0:=by
    rw[bg] at hk;cases hk':sl.k<;>rw[hk'] at hk<;>simp[Kd.er] at hk ⊢
    exact hk
   have hv:=h.slv r.1 sl (hlow (.inr (.inr ⟨b,0,hkv⟩))) hs;unfold SlV at hv;rw[hkv] at hv;obtain ⟨b0,hba,hv⟩:=hv
   split at hr
   ·rename_i bxU hbx;obtain ⟨bx,hbxA,rfl⟩:=bJ hbx
    split at hr
    ·rename_i u hkb;have hkb':∃ t,bx.k= .box t:=by
      rw[bg] at hkb;cases hk':bx.k<;>rw[hk'] at hkb<;>simp[Kd.er] at hkb ⊢
     obtain ⟨t,hkb'⟩:=hkb'
     have hta:t.a=some ⟨b0,0,none⟩:=by
      unfold aL at hba;rw[hbxA] at hba;obtain ⟨k,cs⟩:=bx
      simp only at hkb';subst hkb';exact hba
     split at hr
     ·rename_i hpl;simp only[Bool.and_eq_true] at hpl;simp only[Option.some.injEq] at hr;subst hr;refine ⟨⟨.box t,bx.cs.map fun c=>⟨c.v,if aY c.v then (if c.f= .nl then .nl else .no) else .sc⟩⟩,?_,?_,⟨.inr ⟨t,b0,rfl,rfl,rfl,b,bx,hbxA,hkb',hta,by simp,fun x hx=>?_⟩⟩⟩
      ·simp only[Sl.er,Kd.er,List.map_map]
       congr 1
       refine List.map_congr_left fun c _=>?_
       by_cases h1:aY c.v=true<;>by_cases h2:c.f= .nl<;>simp[Cell.er,fX,h1,h2]
      ·cases rv with
       | tmp t'=>
        subst hrv;simp only[gK,bm,hta];rw[←hv];rfl
       | cell p t'=>subst hrv;simp at hr2
      ·obtain ⟨c,hc,rfl⟩:=List.mem_map.1 hx
       have h1:=List.all_eq_true.1 hpl.1 c.er (by rw[aP];exact List.mem_map_of_mem hc)
       have h2:=List.all_eq_true.1 hpl.2 c.er (by rw[aP];exact List.mem_map_of_mem hc)
       have hk:=h.cells b bx hbxA c hc;simp only[Cell.er,fX,nT,Bool.or_eq_true] at h2;cases hrow:aY c.v with
       | false=>
        rw[hrow] at h2;simp only[Bool.false_eq_true,false_or] at h2;exact ⟨by simpa using ResC.sc (E:=E) (S:=S) (C:=C) (w:=w) c.v h2,by simp⟩
       | true=>
        simp only[if_true];obtain ⟨v,f⟩:=c
        simp only at hrow;cases f with
        | nl=>
         obtain ⟨k,hv⟩:=hk
         have hv:v= .row ⟨none,0,k⟩ []:=hv;subst hv;exact ⟨.nl k,by simp⟩
        | sc=>
         have hk:scal v=true:=hk;cases v<;>simp_all[scal,aY]
        | sp p q=>exact ⟨.no v hrow (hk.2.1.mono h.olt (fun _ _ _=>rfl)),by simp⟩
        | sh=>exact ⟨.no v hrow (Rd.mono hk h.olt (fun _ _ _=>rfl)),by simp⟩
        | fr=>exact ⟨.no v hrow hk.2.1,by simp⟩
        | no=>exact ⟨.no v hrow hk.2,by simp⟩
        | _=>simp[qL,Cell.er] at h1
     ·cases hr
    ·cases hr
   ·cases hr
  ·rename_i agg n b hr2 hk;have hkv:sl.k= .ptr b 0:=by
    rw[bg] at hk;cases hk':sl.k<;>rw[hk'] at hk<;>simp[Kd.er] at hk ⊢
    exact hk
   have hv:=h.slv r.1 sl (hlow (.inr (.inr ⟨b,0,hkv⟩))) hs;unfold SlV at hv;rw[hkv] at hv;obtain ⟨b0,hba,hv⟩:=hv
   split at hr
   ·rename_i bxU hbx;obtain ⟨bx,hbxA,rfl⟩:=bJ hbx
    split at hr
    ·rename_i u hkb;have hkb':∃ t,bx.k= .box t:=by
      rw[bg] at hkb;cases hk':bx.k<;>rw[hk'] at hkb<;>simp[Kd.er] at hkb ⊢
     obtain ⟨t,hkb'⟩:=hkb'
     have hta:t.a=some ⟨b0,0,none⟩:=by
      unfold aL at hba;rw[hbxA] at hba;obtain ⟨k,cs⟩:=bx
      simp only at hkb';subst hkb';exact hba
     split at hr
     ·rename_i hn;obtain ⟨hn,hn0⟩:=hn
      rw[aP,List.length_map] at hn;obtain ⟨zs,e1,e2,e3⟩:=oI h hbxA hr
      obtain ⟨b1,T,q1,q2,_⟩:=h.box b bx t hbxA hkb'
      rw[hta] at q1;simp only[Option.some.injEq,Addr.mk.injEq,and_true] at q1;subst q1;cases rv with
      | tmp t'=>subst hrv;simp at hr2
      | cell p t'=>
       subst hrv;simp only[Option.some.injEq] at hr2;cases hag:iM P t' with
       | none=>
        rw[hag] at hr2;simp only[Option.getD_none,Prod.mk.injEq] at hr2;exact absurd hr2.2.symm hn0
       | some gn=>
        rw[hag] at hr2;simp only[Option.getD_some] at hr2;subst hr2;have hzl:zs.length=n:=by
         have:=congrArg List.length e2
         simp at this;omega
        have hload:=ue (w:=w) hag b0 0 (zs.map (·.v.val E.sid)) (by simpa using hzl) (fun j v hj=>by
         rw[dM q2,Nat.zero_add];rw[d9 e2] at hj;simp only[List.getElem?_toArray]
         exact hj)
        have hread:(gK a.tmps (.cell p t')).run P w= .ok (if agg then .agg (zs.map (·.v.val E.sid)).toArray else (zs.map (·.v.val E.sid)).headD undef) w:=by
         have hv':a.tmps.getD p undef= .pointer (some ⟨b0,0,none⟩):=hv;simp only[gK,hv',asAddr]
         simpa [Instr.loadAt,Instr.sureAddr] using hload
        cases agg with
        | true=>exact ⟨⟨.agg,zs⟩,by rw[e1];rfl,hread,⟨.inl ⟨.inr rfl,e3⟩⟩⟩
        | false=>
         have hn1:n=1:=(pW (w:=w) hag).2;subst hn1;obtain ⟨z,hz⟩:∃ z,zs=[z]:=by
          cases zs with
          | nil=>simp at hzl
          | cons z r=>cases r with
           | nil=>exact ⟨z,rfl⟩
           | cons z' r=>simp at hzl
         refine ⟨⟨.val,zs⟩,by rw[e1];rfl,?_,⟨.inl ⟨.inl ⟨rfl,z,hz⟩,e3⟩⟩⟩
         rw[hread,hz];rfl
     ·cases hr
    ·cases hr
   ·cases hr
  ·cases hr
end
end Go.Vm
end
section
namespace Go.Vm
theorem tN:∀ {l:List (Nat×Nat)},Bm l=true→l.Nodup
 | [],_=>List.nodup_nil
 | x::xs,h=>by
  simp only[Bm,Bool.and_eq_true,Bool.not_eq_true'] at h;exact List.nodup_cons.2 ⟨by simpa using h.1,tN h.2⟩
section
variable {E:Env} {cx:Cx} {S:StA} {X:List (Cell Tg)} {C:Nat→Nat→Prop} {a:Act} {w w':World}
theorem pL:∀ (L:List ((Nat×Nat)×A)) {S:StA},(L.map (·.1)).Nodup→(∀ e∈L,∃ y,aD S e.1.1 e.1.2=some y∧aN y.f=true∧y.v=e.2)→∀ b,(L.flatMap fun e=>e.2.blks).count b≤(aA S []).count b
 | [],S,_,_,b=>by simp
 | ((p,q),v)::L,S,hn,hL,b=>by
  simp only[List.map_cons,List.nodup_cons] at hn;obtain ⟨y,hy,hyo,hyv⟩:=hL ((p,q),v) (List.mem_cons_self ..)
  simp only at hy hyv;have h1:=tY (X:=[]) (f:= .dd) hy b;have h2:(Cell.own ⟨y.v, .dd⟩).count b=0:=by simp[Cell.own,aN]
  have h3:Cell.own y=v.blks:=by simp[Cell.own,hyo,hyv]
  have ih:=pL L (S:=hH S p q .dd) hn.2 (fun e he=>by
   obtain ⟨z,hz,hzo,hzv⟩:=hL e (List.mem_cons_of_mem _ he)
   refine ⟨z,?_,hzo,hzv⟩
   rw[ik hy];rw[if_neg]
   ·exact hz
   ·rintro ⟨e1,e2⟩
    refine hn.1 (List.mem_map.2 ⟨e,he,?_⟩)
    rw[←e1,←e2]) b
  rw[h3] at h1;simp only[List.flatMap_cons,List.count_append];omega
theorem rS:∀ {ys:List (Cell Tg×List (Nat×Nat)×Bool)},(∀ y∈ys,ResC E S C w y.1 y.2.1 y.2.2)→(∀ y∈ys,y.2.2=false)→
  ∃ L:List ((Nat×Nat)×A),L.map (·.1)=ys.flatMap (·.2.1)∧(∀ e∈L,∃ y,aD S e.1.1 e.1.2=some y∧(∃ g,y.f= .ow g∨y.f= .nw g)∧y.v=e.2)∧∀ b,((ys.map (·.1)).flatMap Cell.own).count b=(L.flatMap fun e=>e.2.blks).count b
 | [],_,_=>⟨[],rfl,by simp,fun _=>rfl⟩
 | (z,pl,lo)::ys,h,hf=>by
  obtain ⟨L,k1,k2,k3⟩:=rS (ys:=ys) (fun y hy=>h y (List.mem_cons_of_mem _ hy)) (fun y hy=>hf y (List.mem_cons_of_mem _ hy))
  have hz:=h (z,pl,lo) (List.mem_cons_self ..);have hlo:lo=false:=hf (z,pl,lo) (List.mem_cons_self ..);simp only at hz;cases hz with
  | sc v hs=>exact ⟨L,by simp[k1],k2,fun b=>by simp[k3 b,Cell.own,aN]⟩
  | nl k=>exact ⟨L,by simp[k1],k2,fun b=>by simp[k3 b,Cell.own,aN]⟩
  | no v hr hrd=>exact ⟨L,by simp[k1],k2,fun b=>by simp[k3 b,Cell.own,aN]⟩
  | loose v hr hfs=>cases hlo
  | own v g p q y hy hyf hyv=>
   refine ⟨((p,q),v)::L,by simp[k1],fun e he=>?_,fun b=>?_⟩
   ·rcases List.mem_cons.1 he with rfl | he
    ·exact ⟨y,hy,⟨g,hyf⟩,hyv⟩
    ·exact k2 e he
   ·simp only[List.map_cons,List.flatMap_cons,List.count_append,k3 b,Cell.own,aN,if_true]
theorem rO:∀ (is:List Nat) {outs:List V},bU (sQ (erS S)) is=some outs→
  ∃ L:List (Nat×(Nat×Nat)×A),L.map (·.1)=is∧L.map (fun e=>e.2.2.er)=outs∧∀ e∈L,∃ y,aD S e.2.1.1 e.2.1.2=some y∧y.f= .mp e.1∧y.v=e.2.2
 | [],outs,h=>by
  simp only[bU,Option.some.injEq] at h;subst h;exact ⟨[],rfl,rfl,by simp⟩
 | i::is,outs,h=>by
  unfold bU at h;cases h1:sQ (erS S) i with
  | none=>simp[h1] at h
  | some v=>cases h2:bU (sQ (erS S)) is with
   | none=>simp[h1,h2] at h
   | some vs=>
    simp[h1,h2] at h;subst h;obtain ⟨L,k1,k2,k3⟩:=rO is h2
    unfold sQ at h1;obtain ⟨c,hc,hcv⟩:=List.exists_of_findSome?_eq_some h1
    split at hcv
    ·rename_i hcf;simp only[Option.some.injEq] at hcv;obtain ⟨s,hs,hcs⟩:=List.mem_flatMap.1 hc
     obtain ⟨p,hp⟩:=List.mem_iff_getElem?.1 hs
     obtain ⟨sA,hsA,rfl⟩:=bJ hp
     rw[aP] at hcs;obtain ⟨x,hx,rfl⟩:=List.mem_map.1 hcs
     obtain ⟨q,hq⟩:=List.mem_iff_getElem?.1 hx
     refine ⟨(i,(p,q),x.v)::L,by simp[k1],by simp[k2];exact hcv,fun e he=>?_⟩
     rcases List.mem_cons.1 he with rfl | he
     ·exact ⟨x,bN hsA hq,hcf,rfl⟩
     ·exact k3 e he
    ·cases hcv
def EN (P:Program):ResultVar→Nat×Option (Bool×Nat)
 | .tmp t=>(t,none)
 | .cell p t=>(p,some ((iM P t).getD (false,0)))
theorem B9 (P:Program) (rv:ResultVar) (rvs:List ResultVar):oB P (rv::rvs)=EN P rv::oB P rvs:=by
 cases rv<;>rfl
theorem EO (P:Program) (rv:ResultVar):EN P rv=match rv with | .tmp t=>(t,none) | .cell p t=>(p,some ((iM P t).getD (false,0))):=by
 cases rv<;>rfl
theorem pP {P:Program} (h:Inv E S [] C a w):∀ (rvs:List ResultVar) {ys:List (SU×List (Nat×Nat)×Nat)},bU (qP (erS S)) (oB P rvs)=some ys→
  ∃ ss:List (SA×List (Nat×Nat)×Nat),ss.map (fun s=>(s.1.er,s.2))=ys∧ss.length=rvs.length∧(∀ (i:Nat) (r:ResultVar),rvs[i]?=some r→∃ s,ss[i]?=some s∧(gK a.tmps r).run P w= .ok (bm E.sid s.1) w)∧∀ s∈ss,ResOk E S C w s.1 s.2.1 s.2.2
 | [],ys,hr=>by
  simp only[oB,bU,Option.some.injEq] at hr;subst hr;exact ⟨[],rfl,rfl,by simp,by simp⟩
 | rv::rvs,ys,hr=>by
  rw[B9] at hr;unfold bU at hr;cases h1:qP (erS S) (EN P rv) with
  | none=>simp[h1] at hr
  | some y=>cases h2:bU (qP (erS S)) (oB P rvs) with
   | none=>simp[h1,h2] at hr
   | some ys'=>
    simp[h1,h2] at hr;subst hr;obtain ⟨s,e1,e2,e3⟩:=yH (P:=P) h (EO P rv) h1
    obtain ⟨ss,k1,k2,k3,k4⟩:=pP h rvs h2
    refine ⟨(s,y.2)::ss,by simp[k1,e1],by simp[k2],fun i r hr=>?_,fun s' hs'=>?_⟩
    ·cases i with
     | zero=>
      simp only[List.getElem?_cons_zero,Option.some.injEq] at hr
      subst hr;exact ⟨_,rfl,e2⟩
     | succ i=>simpa using k3 i r (by simpa using hr)
    ·rcases List.mem_cons.1 hs' with rfl | hs'
     ·exact e3
     ·exact k4 s' hs'
theorem yA (sid:Nat→Nat) (ss:List SA):pK (ss.map (bm sid))=gY sid ss:=by
 match ss with
 | []=>rfl
 | [s]=>rfl
 | s::s'::ss=>rfl
theorem px:∀ {xs ys:List (Cell Tg)} {c:Nat} {r:List V},iX (xs.map Cell.er) (ys.map Cell.er) c=some r→
  xs.length=ys.length∧(xs.map (·.v)).map VA.er=r∧∀ (k:Nat) (x y:Cell Tg),xs[k]?=some x→ys[k]?=some y→(x.f= .sc∧y.f= .sc)∨(x.f= .sp 0 (c+k)∧y.f= .sp 0 (c+k))∨(x.f= .nl∧y.f= .nl)
 | [],[],c,r,h=>by
  simp only[List.map_nil,iX,Option.some.injEq] at h;subst h;exact ⟨rfl,rfl,by simp⟩
 | [],y::ys,c,r,h=>by simp[iX] at h
 | x::xs,[],c,r,h=>by simp[iX] at h
 | x::xs,y::ys,c,r,h=>by
  simp only[List.map_cons,iX] at h;split at h
  ·cases h
  ·rename_i r' hr';obtain ⟨k1,k2,k3⟩:=px hr'
   have fin:∀ {r:List V},x.er.v::r'=r→((x.f= .sc∧y.f= .sc)∨(x.f= .sp 0 c∧y.f= .sp 0 c)∨(x.f= .nl∧y.f= .nl))→(x::xs).length=(y::ys).length∧((x::xs).map (·.v)).map VA.er=r∧
     ∀ (k:Nat) (x' y':Cell Tg),(x::xs)[k]?=some x'→(y::ys)[k]?=some y'→(x'.f= .sc∧y'.f= .sc)∨(x'.f= .sp 0 (c+k)∧y'.f= .sp 0 (c+k))∨(x'.f= .nl∧y'.f= .nl):=by
    intro r hr hfl;refine ⟨by simp[k1],by rw[←hr,←k2];rfl,fun k x' y' hx hy=>?_⟩
    cases k with
    | zero=>
     simp only[List.getElem?_cons_zero,Option.some.injEq] at hx hy
     subst hx;subst hy;exact hfl
    | succ k=>
     have:=k3 k x' y' (by simpa using hx) (by simpa using hy)
     rwa [show c+1+k=c+(k+1) by omega] at this
   split at h
   ·rename_i h1 h2;simp only[Option.some.injEq] at h;exact fin h (.inl ⟨h1,h2⟩)
   ·rename_i c' d h1 h2;split at h
    ·rename_i hcd;obtain ⟨rfl,rfl⟩:=hcd
     simp only[Option.some.injEq] at h;exact fin h (.inr (.inl ⟨h1,h2⟩))
    ·cases h
   ·rename_i h1 h2;simp only[Option.some.injEq] at h;exact fin h (.inr (.inr ⟨h1,h2⟩))
   ·cases h
theorem Cf {E0:Env} {args:List SA} {nt:Nat} {ss:List (SA×List (Nat×Nat)×Nat)} (hok:∀ s∈ss,ResOk (bt E0 nt args) S C w s.1 s.2.1 s.2.2):∃ yss:List (List (Cell Tg×List (Nat×Nat)×Bool)),yss.length=ss.length∧∀ (i:Nat) (s:SA×List (Nat×Nat)×Nat),ss[i]?=some s→∃ ys,yss[i]?=some ys∧s.1.cs=ys.map (·.1)∧s.2.1=ys.flatMap (·.2.1)∧s.2.2=(ys.filter (·.2.2)).length∧∀ y∈ys,ResC (bt E0 nt args) S C w y.1 y.2.1 y.2.2:=by
 induction ss with
 | nil=>exact ⟨[],rfl,by simp⟩
 | cons s ss ih=>
  obtain ⟨yss,k1,k2⟩:=ih (fun s' hs'=>hok s' (List.mem_cons_of_mem _ hs'))
  obtain ⟨ys,m1,m2,m3,m4⟩:∃ ys:List (Cell Tg×List (Nat×Nat)×Bool),s.1.cs=ys.map (·.1)∧s.2.1=ys.flatMap (·.2.1)∧s.2.2=(ys.filter (·.2.2)).length∧∀ y∈ys,ResC (bt E0 nt args) S C w y.1 y.2.1 y.2.2:=by
   rcases (hok s (List.mem_cons_self ..)).cells with ⟨_,ys,q1,q2,q3,q4⟩ | ⟨t,b,_,q1,q2,r,sl,_,_,_,_,q3⟩
   ·exact ⟨ys,q1,q2,q3,q4⟩
   ·refine ⟨s.1.cs.map fun x=>(x,[],false),by simp[List.map_map,Function.comp_def],?_,?_,fun y hy=>?_⟩
    ·rw[q1];simp
    ·have hnil:(s.1.cs.map fun x=>((x,[],false):Cell Tg×List (Nat×Nat)×Bool)).filter (·.2.2)=[]:=by
      rw[List.filter_eq_nil_iff];intro y hy;obtain ⟨x,_,rfl⟩:=List.mem_map.1 hy
      simp
     rw[q2,hnil];rfl
    ·obtain ⟨x,hx,rfl⟩:=List.mem_map.1 hy
     exact (q3 x hx).1
  refine ⟨ys::yss,by simp[k1],fun i s' hs'=>?_⟩
  cases i with
  | zero=>
   simp only[List.getElem?_cons_zero,Option.some.injEq] at hs'
   subst hs';exact ⟨ys,rfl,m1,m2,m3,m4⟩
  | succ i=>simpa using k2 i s' (by simpa using hs')
structure Ends (E0:Env) (w0:World) (args:List SA) (nt:Nat) (S:StA) (C:Nat→Nat→Prop) (a:Act) (w:World) (ss:List (SA×List (Nat×Nat)×Nat)) (yss:List (List (Cell Tg×List (Nat×Nat)×Bool))) (Lo:List (Nat×(Nat×Nat)×A)) (outs:List V) (n:Nat):Prop where
 he:Entry E0 w0 args
 h:Inv (bt E0 nt args) S [] C a w
 hfr:Frame (bt E0 nt args) w0 w
 hok:∀ s∈ss,ResOk (bt E0 nt args) S C w s.1 s.2.1 s.2.2
 yl:yss.length=ss.length
 ysp:∀ (i:Nat) (s:SA×List (Nat×Nat)×Nat),ss[i]?=some s→∃ ys,yss[i]?=some ys∧s.1.cs=ys.map (·.1)∧s.2.1=ys.flatMap (·.2.1)∧s.2.2=(ys.filter (·.2.2)).length∧∀ y∈ys,ResC (bt E0 nt args) S C w y.1 y.2.1 y.2.2
 o1:Lo.map (·.1)=List.range n
 o2:Lo.map (fun e=>e.2.2.er)=outs
 o3:∀ e∈Lo,∃ y,aD S e.2.1.1 e.2.1.2=some y∧y.f= .mp e.1∧y.v=e.2.2
theorem z9 {E0:Env} {w0:World} {args:List SA} {nt:Nat} {ss:List (SA×List (Nat×Nat)×Nat)} {yss:List (List (Cell Tg×List (Nat×Nat)×Bool))} {Lo:List (Nat×(Nat×Nat)×A)} {outs:List V} {n:Nat} (D:Ends E0 w0 args nt S C a w ss yss Lo outs n):∀ s∈ss,∃ ys∈yss,s.1.cs=ys.map (·.1):=by
 obtain ⟨he,h,hfr,hok,yl,ysp,o1,o2,o3⟩:=D
 intro s hs;obtain ⟨i,hi⟩:=List.mem_iff_getElem?.1 hs
 obtain ⟨ys,q1,q2,_⟩:=ysp i s hi
 exact ⟨ys,List.mem_of_getElem? q1,q2⟩
theorem Aa {E0:Env} {w0:World} {args:List SA} {nt:Nat} {ss:List (SA×List (Nat×Nat)×Nat)} {yss:List (List (Cell Tg×List (Nat×Nat)×Bool))} {Lo:List (Nat×(Nat×Nat)×A)} {outs:List V} {n:Nat} (D:Ends E0 w0 args nt S C a w ss yss Lo outs n):∀ ys∈yss,∀ y∈ys,ResC (bt E0 nt args) S C w y.1 y.2.1 y.2.2:=by
 obtain ⟨he,h,hfr,hok,yl,ysp,o1,o2,o3⟩:=D
 intro ys hys;obtain ⟨i,hi⟩:=List.mem_iff_getElem?.1 hys
 have hil:i < ss.length:=by rw[←yl];exact (List.getElem?_eq_some_iff.1 hi).1
 obtain ⟨ys',q1,_,_,_,q2⟩:=ysp i _ (List.getElem?_eq_getElem hil)
 rw[hi] at q1;obtain rfl:=Option.some.inj q1
 exact q2
theorem pi {E0:Env} {w0:World} {args:List SA} {nt:Nat} {ss:List (SA×List (Nat×Nat)×Nat)} {yss:List (List (Cell Tg×List (Nat×Nat)×Bool))} {Lo:List (Nat×(Nat×Nat)×A)} {outs:List V} {n:Nat} (D:Ends E0 w0 args nt S C a w ss yss Lo outs n):(ss.map fun s=>(s.1.er,s.2)).flatMap (·.2.1)=yss.flatten.flatMap (·.2.1)∧((ss.map fun s=>(s.1.er,s.2)).map (·.2.2)).sum=(yss.flatten.filter (·.2.2)).length∧(ss.flatMap fun s=>s.1.cs)=yss.flatten.map (·.1):=by
 obtain ⟨he,h,hfr,hok,yl,ysp,o1,o2,o3⟩:=D
 clear he hfr o1 o2 o3 hok;induction ss generalizing yss with
 | nil=>
  have:yss=[]:=List.eq_nil_of_length_eq_zero yl
  subst this;simp
 | cons s ss ih=>
  cases yss with
  | nil=>simp at yl
  | cons ys yss=>
   obtain ⟨ys',q1,q2,q3,q4,_⟩:=ysp 0 s rfl
   simp only[List.getElem?_cons_zero,Option.some.injEq] at q1
   subst q1;obtain ⟨i1,i2,i3⟩:=ih (yss:=yss) (by simpa using yl) (fun i s' hs'=>by simpa using ysp (i+1) s' (by simpa using hs'))
   refine ⟨?_,?_,?_⟩
   ·simp only[List.map_cons,List.flatMap_cons,List.flatten_cons,List.flatMap_append,i1,q3]
   ·simp only[List.map_cons,List.sum_cons,List.flatten_cons,List.filter_append,List.length_append,i2,q4]
   ·simp only[List.flatMap_cons,List.flatten_cons,List.map_append,i3,q2]
theorem qo {E0:Env} {w0:World} {args:List SA} {nt:Nat} {ss:List (SA×List (Nat×Nat)×Nat)} {yss:List (List (Cell Tg×List (Nat×Nat)×Bool))} {Lo:List (Nat×(Nat×Nat)×A)} {outs:List V} {n:Nat} (D:Ends E0 w0 args nt S C a w ss yss Lo outs n):∀ s∈ss,(s.1.k= .val∧∃ c,s.1.cs=[c])∨s.1.k= .agg∨∃ t,s.1.k= .box t:=by
 obtain ⟨he,h,hfr,hok,yl,ysp,o1,o2,o3⟩:=D
 intro s hs;rcases (hok s hs).cells with ⟨h1 | h1,_⟩ | ⟨t,_,h1,_⟩
 ·exact .inl h1
 ·exact .inr (.inl h1)
 ·exact .inr (.inr ⟨t,h1⟩)
theorem wE {s:SA} (hnb:eQ s.er=true):∀ t,s.k≠ .box t:=by
 intro t hk;simp only[eQ,bg,hk,Kd.er] at hnb;cases hnb
theorem wi {E0:Env} {w0:World} {args:List SA} {nt:Nat} {ss:List (SA×List (Nat×Nat)×Nat)} {yss:List (List (Cell Tg×List (Nat×Nat)×Bool))} {Lo:List (Nat×(Nat×Nat)×A)} {outs:List V} {n:Nat} (D:Ends E0 w0 args nt S C a w ss yss Lo outs n):∀ e∈Lo,Shp E0.sid w C e.2.2∧(∃ t es,e.2.2= .row t es∧E0.mt e.1=some (t,es.length))∧∀ b∈e.2.2.blks,(E0.base≤b∨E0.chg b)∧b < w.heap.size∧∀ j,¬E0.old b j:=by
 obtain ⟨he,h,hfr,hok,yl,ysp,o1,o2,o3⟩:=D
 intro e he';obtain ⟨y,hy,hyf,hyv⟩:=o3 e he'
 obtain ⟨sl,hs,hc⟩:=aE hy
 have hk:=h.cells _ sl hs y (List.mem_of_getElem? hc);obtain ⟨v,f⟩:=y
 simp only at hyf hyv;subst hyf;subst hyv;refine ⟨hk.1,hk.2.1,fun b hb=>⟨?_,?_⟩⟩
 ·rcases hk.2.2 b hb with h1 | h1
  ·exact .inl h1
  ·exact .inr (qZ he h1).1
 ·have hin:=tX hy rfl hb;exact h.ownlt b (List.count_pos_iff.1 hin)
theorem sN {E0:Env} {w0:World} {args:List SA} {nt:Nat} {ss:List (SA×List (Nat×Nat)×Nat)} {yss:List (List (Cell Tg×List (Nat×Nat)×Bool))} {Lo:List (Nat×(Nat×Nat)×A)} {outs:List V} {n:Nat} (D:Ends E0 w0 args nt S C a w ss yss Lo outs n):∀ (i:Nat) (v:A),(Lo.map (·.2.2))[i]?=some v→∃ e∈Lo,e.1=i∧e.2.2=v:=by
 obtain ⟨he,h,hfr,hok,yl,ysp,o1,o2,o3⟩:=D
 intro i v hv;rw[List.getElem?_map,Option.map_eq_some_iff] at hv
 obtain ⟨e,he',rfl⟩:=hv
 refine ⟨e,List.mem_of_getElem? he',?_,rfl⟩
 have h1:(Lo.map (·.1))[i]?=some e.1:=by simp[he']
 rw[o1] at h1;have h2:=List.getElem?_eq_some_iff.1 h1
 obtain ⟨h3,h4⟩:=h2
 rw[List.getElem_range] at h4;exact h4.symm
theorem qp {E0:Env} {w0:World} {args:List SA} {nt:Nat} {ss:List (SA×List (Nat×Nat)×Nat)} {yss:List (List (Cell Tg×List (Nat×Nat)×Bool))} {Lo:List (Nat×(Nat×Nat)×A)} {outs:List V} {n:Nat} (D:Ends E0 w0 args nt S C a w ss yss Lo outs n):(Lo.map (·.2.1)).Nodup:=by
 obtain ⟨he,h,hfr,hok,yl,ysp,o1,o2,o3⟩:=D
 have hnr:(Lo.map (·.1)).Nodup:=by rw[o1];exact List.nodup_range
 clear o1 o2;induction Lo with
 | nil=>simp
 | cons e L ih=>
  simp only[List.map_cons,List.nodup_cons] at hnr ⊢;refine ⟨fun hm=>?_,ih (fun e' he'=>o3 e' (List.mem_cons_of_mem _ he')) hnr.2⟩
  obtain ⟨e',he',heq⟩:=List.mem_map.1 hm
  obtain ⟨y,hy,hyf,_⟩:=o3 e (List.mem_cons_self ..)
  obtain ⟨y',hy',hyf',_⟩:=o3 e' (List.mem_cons_of_mem _ he')
  rw[heq] at hy';rw[hy] at hy';obtain rfl:=Option.some.inj hy'
  rw[hyf] at hyf';simp only[Fl.mp.injEq] at hyf';exact hnr.1 (List.mem_map.2 ⟨e',he',hyf'.symm⟩)
theorem wj {E0:Env} {w0:World} {args:List SA} {nt:Nat} {ss:List (SA×List (Nat×Nat)×Nat)} {yss:List (List (Cell Tg×List (Nat×Nat)×Bool))} {Lo:List (Nat×(Nat×Nat)×A)} {outs:List V} {n:Nat} (D:Ends E0 w0 args nt S C a w ss yss Lo outs n):∀ b,((ss.map (·.1)).flatMap Sl.own).count b=((ss.map (·.1)).flatMap Sl.boxOwn).count b+((yss.flatten.map (·.1)).flatMap Cell.own).count b:=by
 obtain ⟨he,h,hfr,hok,yl,ysp,o1,o2,o3⟩:=D
 have hf3:=(pi ⟨he,h,hfr,hok,yl,ysp,o1,o2,o3⟩).2.2;clear he hfr o1 o2 o3;intro b;rw[←hf3];clear hf3 ysp yl hok;induction ss with
 | nil=>simp
 | cons s ss ih=>
  have h1:s.1.own.count b=s.1.boxOwn.count b+(s.1.cs.flatMap Cell.own).count b:=by unfold Sl.own;rw[List.count_append]
  simp only[List.map_cons,List.flatMap_cons,List.count_append,List.flatMap_append] at ih ⊢;omega
theorem qn {E0:Env} {w0:World} {args:List SA} {nt:Nat} {ss:List (SA×List (Nat×Nat)×Nat)} {yss:List (List (Cell Tg×List (Nat×Nat)×Bool))} {Lo:List (Nat×(Nat×Nat)×A)} {outs:List V} {n:Nat} (D:Ends E0 w0 args nt S C a w ss yss Lo outs n):Frame E0 w0 w:=by
 obtain ⟨he,h,hfr,hok,yl,ysp,o1,o2,o3⟩:=D
 exact ⟨hfr.os,hfr.tape,hfr.output,hfr.size,fun b hb hn=>hfr.block b hb (fun hc=>hn (qZ he hc).1)⟩
theorem Fg {E0:Env} {w0:World} {args:List SA} {nt:Nat} {ss:List (SA×List (Nat×Nat)×Nat)} {yss:List (List (Cell Tg×List (Nat×Nat)×Bool))} {Lo:List (Nat×(Nat×Nat)×A)} {outs:List V} {n:Nat} {P:Program} {fn:Func} (D:Ends E0 w0 args nt S C a w ss yss Lo outs n) (hrun:(results fn a.tmps).run P w= .ok (gY E0.sid (ss.map (·.1))) w):∀ (C':Nat→Nat→Prop) (ob:Option (List V)),(∀ b j,C' b j→C b j)→(∀ y∈yss.flatten,COk E0 w C' [] [] y.1)→
       (∀ b,((yss.flatten.map (·.1)).flatMap Cell.own).count b+((Lo.map (·.2.2)).flatMap VA.blks).count b≤1)→(∀ b∈(yss.flatten.map (·.1)).flatMap Cell.own,E0.base≤b∧b < w.heap.size)→
       (∀ s∈ss,∀ t,s.1.k= .box t→ss.length=1∧ob=none∧Lo=[]∧(yss.flatten.map (·.1)).flatMap Cell.own=[]∧∀ b,t.a=some ⟨b,0,none⟩→E0.base≤b)→
       (∀ cs',ob=some cs'→∃ arg,args.head?=some arg∧vY E0 w C' arg cs')→
       ∃ v rs outs' C',(results fn a.tmps).run P w= .ok v w∧Leave E0 w0 w args ⟨(ss.map fun s=>(s.1.er,s.2)).map (·.1),outs,ob⟩ v rs outs' C':=by
 have hcs:=z9 D;have hyR:=Aa D;obtain ⟨hf1,hf2,hf3⟩:=pi D
 have hkinds:=qo D;have hout:=wi D;have houtL:=sN D;have houtpl:=qp D;have hrsown:=wj D;have hframe:=qn D;have hallR:∀ y∈yss.flatten,ResC (bt E0 nt args) S C w y.1 y.2.1 y.2.2:=by
  intro y hy;obtain ⟨ys,h1,h2⟩:=List.mem_flatten.1 hy
  exact hyR ys h1 y h2
 have hnoboxk:∀ s∈ss,eQ s.1.er=true→∀ t,s.1.k≠ .box t:=fun s _ h=>wE h
 have houtcnt:(Lo.map (·.2.2)).flatMap VA.blks=Lo.flatMap fun e=>e.2.2.blks:=by rw[List.flatMap_map]
 obtain ⟨he,h,hfr,hok,yl,ysp,o1,o2,o3⟩:=D
 intro C' ob hC' hcok hcnt hown hbx hleft;refine ⟨_,ss.map (·.1),Lo.map (·.2.2),C',hrun,?_⟩
 have hbox':∀ s∈ss.map (·.1),∀ t,s.k= .box t→∃ b,t.a=some ⟨b,0,none⟩∧o6 E0 w C' t s.cs∧E0.base≤b∧b < w.heap.size:=by
  intro s hs t hk;obtain ⟨s',hs',rfl⟩:=List.mem_map.1 hs
  obtain ⟨_,_,_,_,hbb⟩:=hbx s' hs' t hk
  rcases (hok s' hs').cells with ⟨⟨h1,_⟩ | h1,_⟩ | ⟨t',b,h1,_,_,r,sl,h2,h3,h4,h5,_⟩
  ·rw[hk] at h1;cases h1
  ·rw[hk] at h1;cases h1
  ·rw[hk] at h1;simp only[Kd.box.injEq] at h1;subst h1;obtain ⟨b1,T,q1,q2,q3,q4⟩:=h.box r sl t h2 h3
   rw[h4] at q1;simp only[Option.some.injEq,Addr.mk.injEq,and_true] at q1;subst q1;refine ⟨b,h4,⟨b,T,h4,?_,fun j hj=>q3 j (hC' b j hj), .inl (hbb b h4)⟩,hbb b h4,(Array.getElem?_eq_some_iff.1 q2).1⟩
   have:=d9 (sid:=E0.sid) h5
   rw[←this];exact q2
 refine ⟨?_,rfl,?_,?_,?_,?_,?_,?_,fun b j hj=>h.clt b j (hC' b j hj),?_,hframe,?_,?_,hleft⟩
 ·simp only[List.map_map];rfl
 ·intro s hs;obtain ⟨s',hs',rfl⟩:=List.mem_map.1 hs
  rcases hkinds s' hs' with h1 | h1 | ⟨t,h1⟩
  ·exact .inl h1
  ·exact .inr (.inl h1)
  ·obtain ⟨q1,q2,_⟩:=hbx s' hs' t h1
   exact .inr (.inr ⟨⟨t,h1⟩,by simpa using q1,q2⟩)
 ·intro s hs x hx;obtain ⟨s',hs',rfl⟩:=List.mem_map.1 hs
  obtain ⟨ys,q1,q2⟩:=hcs s' hs'
  rw[q2] at hx;obtain ⟨y,hy,rfl⟩:=List.mem_map.1 hx
  have:=hyR ys q1 y hy
  obtain ⟨z,pl,lo⟩:=y
  simp only at this ⊢;cases this with
  | sc v hs=>exact .inl rfl
  | nl k=>exact .inr (.inl rfl)
  | own v g p q y hy hf hv=>exact .inr (.inr (.inl ⟨g,rfl⟩))
  | loose v hr hf=>exact .inr (.inr (.inl ⟨false,rfl⟩))
  | no v hr hrd=>exact .inr (.inr (.inr rfl))
 ·intro s hs x hx;obtain ⟨s',hs',rfl⟩:=List.mem_map.1 hs
  obtain ⟨ys,q1,q2⟩:=hcs s' hs'
  rw[q2] at hx;obtain ⟨y,hy,rfl⟩:=List.mem_map.1 hx
  exact hcok y (List.mem_flatten.2 ⟨ys,q1,hy⟩)
 ·intro s hs t hk;obtain ⟨b,q1,q2,q3,_⟩:=hbox' s hs t hk
  refine ⟨q2,fun b' hb'=>?_⟩
  rw[q1] at hb';simp only[Option.some.injEq,Addr.mk.injEq,and_true] at hb';rw[←hb'];exact q3
 ·intro b;rw[hrsown];by_cases hb:∃ s∈ss,∃ t,s.1.k= .box t
  ·obtain ⟨s,hs,t,hk⟩:=hb
   obtain ⟨q1,_,q2,q3,_⟩:=hbx s hs t hk
   rw[q3,q2];obtain ⟨s0,rfl⟩:∃ s0,ss=[s0]:=by
    cases ss with
    | nil=>simp at hs
    | cons s0 r=>cases r with
     | nil=>exact ⟨s0,rfl⟩
     | cons s1 r=>simp at q1
   simp only[List.mem_singleton] at hs;subst hs;obtain ⟨b1,m1,_⟩:=hbox' s.1 (by simp) t hk
   simp only[List.map_cons,List.map_nil,List.flatMap_cons,List.flatMap_nil,List.append_nil,Sl.boxOwn,hk,m1,List.count_nil,Nat.add_zero];exact List.count_le_length
  ·have h0:(ss.map (·.1)).flatMap Sl.boxOwn=[]:=by
    rw[List.flatMap_eq_nil_iff];intro s hs;obtain ⟨s',hs',rfl⟩:=List.mem_map.1 hs
    cases hk:s'.1.k with
    | box t=>exact absurd ⟨s',hs',t,hk⟩ hb
    | _=>simp[Sl.boxOwn,hk]
   rw[h0];have:=hcnt b
   simp only[List.count_nil,Nat.zero_add];exact this
 ·intro b hb;have h1:=List.count_pos_iff.2 hb;rw[hrsown] at h1;by_cases hb2:b∈(yss.flatten.map (·.1)).flatMap Cell.own
  ·exact hown b hb2
  ·have:=List.count_eq_zero.2 hb2
   have hb3:b∈(ss.map (·.1)).flatMap Sl.boxOwn:=List.count_pos_iff.1 (by omega)
   obtain ⟨s,hs,hbs⟩:=List.mem_flatMap.1 hb3
   cases hk:s.k with
   | box t=>
    obtain ⟨b1,m1,_,m2,m3⟩:=hbox' s hs t hk
    simp only[Sl.boxOwn,hk,m1,List.mem_singleton] at hbs;subst hbs;exact ⟨m2,m3⟩
   | _=>simp[Sl.boxOwn,hk] at hbs
 ·intro b j hj;rcases h.cbase b j (hC' b j hj) with h1 | h1 | h1
  ·exact .inl h1
  ·exact .inr (.inl h1)
  ·exact .inr (.inr (qZ he h1).1)
 ·rw[List.map_map];exact o2
 ·intro i v hv;obtain ⟨e,he',rfl,rfl⟩:=houtL i v hv
  obtain ⟨q1,q2,q3⟩:=hout e he'
  exact ⟨q1.mono (fun b _ j hj=>hC' b j hj) (fun _ _=>rfl),q2,q3⟩
theorem Ff {E0:Env} {w0:World} {args:List SA} {nt:Nat} {ss:List (SA×List (Nat×Nat)×Nat)} {yss:List (List (Cell Tg×List (Nat×Nat)×Bool))} {Lo:List (Nat×(Nat×Nat)×A)} {outs:List V} {n:Nat} (D:Ends E0 w0 args nt S C a w ss yss Lo outs n) (hbox:(((ss.map fun s=>(s.1.er,s.2)).all fun r=>eQ r.1)||((ss.map fun s=>(s.1.er,s.2)).length== 1&&(args.map Sl.er).all ni))=true) {ir:FnIr} (hn0:n=kV ir.modes (args.map Sl.er)):∀ s∈ss,∀ t,s.1.k= .box t→ss.length=1∧Lo=[]∧(∀ y∈yss.flatten,y.2.1=[]∧y.2.2=false)∧(∀ b,t.a=some ⟨b,0,none⟩→E0.base≤b)∧∃ s0,ss=[s0]∧eQ s0.1.er=false:=by
 have hcs:=z9 D;have hyR:=Aa D;obtain ⟨hf1,hf2,hf3⟩:=pi D
 have hkinds:=qo D;have hout:=wi D;have houtL:=sN D;have houtpl:=qp D;have hrsown:=wj D;have hframe:=qn D;have hallR:∀ y∈yss.flatten,ResC (bt E0 nt args) S C w y.1 y.2.1 y.2.2:=by
  intro y hy;obtain ⟨ys,h1,h2⟩:=List.mem_flatten.1 hy
  exact hyR ys h1 y h2
 have hnoboxk:∀ s∈ss,eQ s.1.er=true→∀ t,s.1.k≠ .box t:=fun s _ h=>wE h
 have houtcnt:(Lo.map (·.2.2)).flatMap VA.blks=Lo.flatMap fun e=>e.2.2.blks:=by rw[List.flatMap_map]
 obtain ⟨he,h,hfr,hok,yl,ysp,o1,o2,o3⟩:=D
 intro s hs t hk;have hnb:¬((ss.map fun s=>(s.1.er,s.2)).all fun r=>eQ r.1)=true:=by
  intro hall;have:=List.all_eq_true.1 hall (s.1.er,s.2) (List.mem_map.2 ⟨s,hs,rfl⟩)
  exact hnoboxk s hs this t hk
 simp only[Bool.or_eq_true,Bool.and_eq_true,beq_iff_eq] at hbox;obtain ⟨h1,h2⟩:=hbox.resolve_left hnb
 have h1:ss.length=1:=by simpa using h1
 obtain ⟨s0,rfl⟩:∃ s0,ss=[s0]:=by
  cases ss with
  | nil=>simp at h1
  | cons s0 r=>cases r with
   | nil=>exact ⟨s0,rfl⟩
   | cons s1 r=>simp at h1
 simp only[List.mem_singleton] at hs;subst hs;have hnoown:args.flatMap Sl.own=[]:=by
  rw[List.flatMap_eq_nil_iff];intro q hq;have:=List.all_eq_true.1 h2 q.er (List.mem_map_of_mem hq)
  simp only[ni,Bool.and_eq_true,aP,List.all_map,List.all_eq_true,Function.comp] at this;obtain ⟨h3,h4⟩:=this
  refine iZ (fun t' hk'=>?_) (fun x hx=>?_)
  ·simp only[eQ,bg,hk',Kd.er] at h3;cases h3
  ·have h5:=h4 x hx;rcases he.flags q hq x hx with h | ⟨_,_,h⟩ | h | h | ⟨_,h⟩
   ·rw[h];rfl
   ·rw[h];rfl
   ·rw[h];rfl
   ·rw[h];rfl
   ·simp[Cell.er,h,Cn] at h5
 refine ⟨rfl,?_,?_,?_,s,rfl,by simp[eQ,bg,hk,Kd.er]⟩
 ·cases hLo:Lo with
  | nil=>rfl
  | cons e L=>
   exfalso
   have hn:kV ir.modes (args.map Sl.er)=0:=by
    unfold kV;split
    ·rename_i ms a0 r0 _ hargs;rw[List.length_eq_zero_iff,List.filter_eq_nil_iff];intro c hc;have hm:a0∈args.map Sl.er:=by rw[hargs];exact List.mem_cons_self ..
     have:=List.all_eq_true.1 h2 a0 hm
     simp only[ni,Bool.and_eq_true,List.all_eq_true] at this;have hcm:=this.2 c hc;intro hh;split at hh
     ·rename_i hf;rw[hf] at hcm;simp[Cn] at hcm
     ·cases hh
    ·rfl
   rw[hn0,hn,hLo] at o1;simp at o1
 ·intro y hy;obtain ⟨ys,q1,q2⟩:=List.mem_flatten.1 hy
  obtain ⟨i,hi⟩:=List.mem_iff_getElem?.1 q1
  have hil:i < [s].length:=by rw[←yl];exact (List.getElem?_eq_some_iff.1 hi).1
  have hi0:i=0:=by simpa using hil
  subst hi0;obtain ⟨ys',m1,m2,m3,m4,m5⟩:=ysp 0 s rfl
  rw[hi] at m1;obtain rfl:=Option.some.inj m1
  rcases (hok s (by simp)).cells with ⟨⟨h3,_⟩ | h3,_⟩ | ⟨t',b,h3,h4,h5,_⟩
  ·rw[hk] at h3;cases h3
  ·rw[hk] at h3;cases h3
  ·rw[h4] at m3;rw[h5] at m4;refine ⟨?_,?_⟩
   ·have:=List.flatMap_eq_nil_iff.1 m3.symm y q2
    exact this
   ·have:=List.eq_nil_of_length_eq_zero m4.symm
    rw[List.filter_eq_nil_iff] at this
    simpa using this y q2
 ·intro b hb;rcases (hok s (by simp)).cells with ⟨⟨h3,_⟩ | h3,_⟩ | ⟨t',b',h3,_,_,r,sl,h6,h7,h8,_⟩
  ·rw[hk] at h3;cases h3
  ·rw[hk] at h3;cases h3
  ·rw[hk] at h3;simp only[Kd.box.injEq] at h3;subst h3;obtain ⟨b1,T,q1,_,_,q4⟩:=h.box r sl t h6 h7
   rw[hb] at q1;simp only[Option.some.injEq,Addr.mk.injEq,and_true] at q1;subst q1;rcases q4 with q4 | q4
   ·exact q4
   ·have q4:b∈args.flatMap Sl.own:=q4;rw[hnoown] at q4;simp at q4
theorem Dw {E0:Env} {w0:World} {args:List SA} {nt:Nat} {ss:List (SA×List (Nat×Nat)×Nat)} {yss:List (List (Cell Tg×List (Nat×Nat)×Bool))} {Lo:List (Nat×(Nat×Nat)×A)} {outs:List V} {n:Nat} {P:Program} {fn:Func} (D:Ends E0 w0 args nt S C a w ss yss Lo outs n) (hrun:(results fn a.tmps).run P w= .ok (gY E0.sid (ss.map (·.1))) w) (hloose:(decide (((ss.map fun s=>(s.1.er,s.2)).map (·.2.2)).sum=0)||(decide (((ss.map fun s=>(s.1.er,s.2)).map (·.2.2)).sum=1)&&((ss.map fun s=>(s.1.er,s.2)).flatMap (·.2.1)).isEmpty&&(ss.map fun s=>(s.1.er,s.2)).all fun r=>wF r.1))=true) (hbox:(((ss.map fun s=>(s.1.er,s.2)).all fun r=>eQ r.1)||((ss.map fun s=>(s.1.er,s.2)).length== 1&&(args.map Sl.er).all ni))=true) (hnd:((ss.map fun s=>(s.1.er,s.2)).flatMap (·.2.1)).Nodup) (hol:¬(!outs.isEmpty&&decide (((ss.map fun s=>(s.1.er,s.2)).map (·.2.2)).sum≠0))=true) {ir:FnIr} (hn0:n=kV ir.modes (args.map Sl.er)):∀ (ob:Option (List V)),(∀ C',(∀ b j,C' b j→C b j)→∀ cs',ob=some cs'→∃ arg,args.head?=some arg∧vY E0 w C' arg cs')→(ob.isSome=true→(ss.map fun s=>(s.1.er,s.2)).all (fun r=>eQ r.1)=true)→
       ∃ v rs outs' C',(results fn a.tmps).run P w= .ok v w∧Leave E0 w0 w args ⟨(ss.map fun s=>(s.1.er,s.2)).map (·.1),outs,ob⟩ v rs outs' C':=by
 have fin:=Fg D hrun;have hboxf:=Ff D hbox hn0;have hcs:=z9 D;have hyR:=Aa D;obtain ⟨hf1,hf2,hf3⟩:=pi D
 have hkinds:=qo D;have hout:=wi D;have houtL:=sN D;have houtpl:=qp D;have hrsown:=wj D;have hframe:=qn D;have hallR:∀ y∈yss.flatten,ResC (bt E0 nt args) S C w y.1 y.2.1 y.2.2:=by
  intro y hy;obtain ⟨ys,h1,h2⟩:=List.mem_flatten.1 hy
  exact hyR ys h1 y h2
 have hnoboxk:∀ s∈ss,eQ s.1.er=true→∀ t,s.1.k≠ .box t:=fun s _ h=>wE h
 have houtcnt:(Lo.map (·.2.2)).flatMap VA.blks=Lo.flatMap fun e=>e.2.2.blks:=by rw[List.flatMap_map]
 rw[hf1] at hnd;have hsum:((ss.map fun s=>(s.1.er,s.2)).map (·.2.2)).sum=0→∀ y∈yss.flatten,y.2.2=false:=by
  intro h0 y hy;rw[hf2] at h0;have:=List.eq_nil_of_length_eq_zero h0
  rw[List.filter_eq_nil_iff] at this;have:=this y hy
  simpa using this
 obtain ⟨he,h,hfr,hok,yl,ysp,o1,o2,o3⟩:=D
 intro ob hleft hobx;have hob:∀ s∈ss,∀ t,s.1.k= .box t→ob=none:=by
  intro s hs t hk;cases ob with
  | none=>rfl
  | some cs'=>
   have:=List.all_eq_true.1 (hobx rfl) (s.1.er,s.2) (List.mem_map.2 ⟨s,hs,rfl⟩)
   exact absurd hk (hnoboxk s hs this t)
 simp only[Bool.or_eq_true,decide_eq_true_eq,Bool.and_eq_true] at hloose;by_cases h0:((ss.map fun s=>(s.1.er,s.2)).map (·.2.2)).sum=0
 ·-- none loose
  have hlo:=hsum h0;obtain ⟨L,k1,k2,k3⟩:=rS hallR hlo
  have hcount:∀ b,((yss.flatten.map (·.1)).flatMap Cell.own).count b+((Lo.map (·.2.2)).flatMap VA.blks).count b≤(aA S []).count b:=by
   intro b;have:=pL (S:=S) (L++Lo.map fun e=>(e.2.1,e.2.2)) (by
    rw[List.map_append,k1,List.map_map];rw[List.nodup_append];refine ⟨hnd,houtpl,fun p hp q hq hpq=>?_⟩
    subst hpq;rw[←k1] at hp;obtain ⟨e,he1,rfl⟩:=List.mem_map.1 hp
    obtain ⟨e',he2,heq⟩:=List.mem_map.1 hq
    obtain ⟨y,hy,⟨g,hyf⟩,_⟩:=k2 e he1
    obtain ⟨y',hy',hyf',_⟩:=o3 e' he2
    have heq:e'.2.1=e.1:=heq;rw[heq] at hy';rw[hy] at hy';obtain rfl:=Option.some.inj hy'
    rw[hyf'] at hyf;rcases hyf with hyf | hyf<;>simp at hyf) (fun e hee=>by
    rcases List.mem_append.1 hee with hee | hee
    ·obtain ⟨y,hy,⟨g,hyf⟩,hyv⟩:=k2 e hee
     exact ⟨y,hy,by rcases hyf with hyf | hyf<;>rw[hyf]<;>rfl,hyv⟩
    ·obtain ⟨e',he',rfl⟩:=List.mem_map.1 hee
     obtain ⟨y,hy,hyf,hyv⟩:=o3 e' he'
     exact ⟨y,hy,by rw[hyf];rfl,hyv⟩) b
   simp only[List.flatMap_append,List.count_append,List.flatMap_map] at this;rw[k3 b,houtcnt];exact this
  refine fin C ob (fun _ _=>id) (fun y hy=>?_) (fun b=>Nat.le_trans (hcount b) (h.cnt b)) (fun b hb=>?_) (fun s hs t hk=>?_) (hleft C (fun _ _=>id))
  ·have:=hallR y hy
   have hl:=hlo y hy;obtain ⟨z,pl,lo⟩:=y
   simp only at this hl ⊢;cases this with
   | sc v hs=>exact hs
   | nl k=>exact ⟨k,rfl⟩
   | no v hr hrd=>exact ⟨hr,hrd⟩
   | loose v hr hf=>cases hl
   | own v g p q y' hy' hyf hyv=>
    obtain ⟨sl,hs,hc⟩:=aE hy'
    have hk:=h.cells _ sl hs y' (List.mem_of_getElem? hc);obtain ⟨v',f'⟩:=y'
    simp only at hyf hyv;subst hyv;rcases hyf with rfl | rfl
    ·exact hk
    ·exact hk
  ·have h1:=List.count_pos_iff.2 hb;have h2:=hcount b;have hin:b∈aA S []:=List.count_pos_iff.1 (by omega)
   refine ⟨?_,(h.ownlt b hin).1⟩
   rw[k3 b] at h1;obtain ⟨e,hee,hbe⟩:=List.mem_flatMap.1 (List.count_pos_iff.1 h1)
   obtain ⟨y,hy,⟨g,hyf⟩,hyv⟩:=k2 e hee
   obtain ⟨sl,hs,hc⟩:=aE hy
   have hk:=h.cells _ sl hs y (List.mem_of_getElem? hc);obtain ⟨v',f'⟩:=y
   simp only at hyf hyv;rw[←hyv] at hbe;rcases hyf with rfl | rfl
   ·exact hk.2.2 b hbe
   ·exact hk.2.2 b hbe
  ·obtain ⟨q1,q2,q3,q4,_⟩:=hboxf s hs t hk
   refine ⟨q1,hob s hs t hk,q2,?_,q4⟩
   rw[List.flatMap_eq_nil_iff];intro z hz;obtain ⟨y,hy,rfl⟩:=List.mem_map.1 hz
   have h1:=hallR y hy;have h2:=q3 y hy;obtain ⟨z,pl,lo⟩:=y
   simp only at h1 h2 ⊢;obtain ⟨rfl,rfl⟩:=h2
   cases h1<;>simp[Cell.own,aN]
 ·-- one loose
  obtain ⟨⟨h1,h2⟩,h3⟩:=hloose.resolve_left h0
  have hLo:Lo=[]:=by
   cases hLo:Lo with
   | nil=>rfl
   | cons e L=>
    exfalso
    refine hol ?_
    rw[Bool.and_eq_true];refine ⟨?_,by simpa using h0⟩
    rw[←o2,hLo];rfl
  have hpl:∀ y∈yss.flatten,y.2.1=[]:=by
   rw[hf1] at h2;have h2:yss.flatten.flatMap (·.2.1)=[]:=by simpa using h2
   exact fun y hy=>List.flatMap_eq_nil_iff.1 h2 y hy
  have hnno:∀ y∈yss.flatten,y.1.f≠ .no:=by
   intro y hy e;obtain ⟨ys,m1,m2⟩:=List.mem_flatten.1 hy
   obtain ⟨i,hi⟩:=List.mem_iff_getElem?.1 m1
   have hil:i < ss.length:=by rw[←yl];exact (List.getElem?_eq_some_iff.1 hi).1
   obtain ⟨ys',n1,n2,_⟩:=ysp i _ (List.getElem?_eq_getElem hil)
   rw[hi] at n1;obtain rfl:=Option.some.inj n1
   have hm:ss[i]∈ss:=List.getElem_mem hil;have:=List.all_eq_true.1 h3 (ss[i].1.er,ss[i].2) (List.mem_map.2 ⟨_,hm,rfl⟩)
   simp only[wF,aP,List.all_map,List.all_eq_true,Function.comp] at this;have:=this y.1 (by rw[n2];exact List.mem_map_of_mem m2)
   simp[Cell.er,e] at this
  have hone:∀ b,((yss.flatten.map (·.1)).flatMap Cell.own).count b≤1:=by
   intro b;have hlen1:(yss.flatten.filter (·.2.2)).length=1:=by rw[←hf2];exact h1
   have key:∀ (l:List (Cell Tg×List (Nat×Nat)×Bool)),(∀ y∈l,ResC (bt E0 nt args) S C w y.1 y.2.1 y.2.2)→(∀ y∈l,y.2.1=[])→((l.map (·.1)).flatMap Cell.own).count b≤(l.filter (·.2.2)).length:=by
    intro l;induction l with
    | nil=>intro _ _;simp
    | cons y l ih=>
     intro hR hP;have ih':=ih (fun y' hy'=>hR y' (List.mem_cons_of_mem _ hy')) (fun y' hy'=>hP y' (List.mem_cons_of_mem _ hy'))
     have hy1:=hR y (List.mem_cons_self ..);have hy2:=hP y (List.mem_cons_self ..);obtain ⟨z,pl,lo⟩:=y
     simp only at hy1 hy2;subst hy2;simp only[List.map_cons,List.flatMap_cons,List.count_append];cases hy1 with
     | sc v hs=>simpa [Cell.own,aN] using ih'
     | nl k=>simpa [Cell.own,aN] using ih'
     | no v hr hrd=>simpa [Cell.own,aN] using ih'
     | loose v hr hf=>
      have:v.blks.count b≤1:=List.nodup_iff_count.1 hf.2.1 b
      simp only[Cell.own,aN,if_true,List.filter_cons_of_pos,List.length_cons];omega
   have:=key yss.flatten hallR hpl
   omega
  refine fin (fun _ _=>False) ob (fun _ _ hf=>hf.elim) (fun y hy=>?_) (fun b=>?_) (fun b hb=>?_) (fun s hs t hk=>?_) (hleft _ (fun _ _ hf=>hf.elim))
  ·have hR:=hallR y hy;have hp:=hpl y hy;have hn:=hnno y hy;obtain ⟨z,pl,lo⟩:=y
   simp only at hR hp hn ⊢;subst hp;cases hR with
   | sc v hs=>exact hs
   | nl k=>exact ⟨k,rfl⟩
   | no v hr hrd=>exact absurd rfl hn
   | loose v hr hf=>exact ⟨hr,(show Shp' E0.sid w (fun _ _=>False) false v by simp only[Shp',Bool.false_eq_true,if_false];exact hf.1),hf.2.2⟩
  ·rw[hLo]
   simpa using hone b
  ·obtain ⟨z,hz,hbz⟩:=List.mem_flatMap.1 hb
   obtain ⟨y,hy,rfl⟩:=List.mem_map.1 hz
   have hR:=hallR y hy;have hp:=hpl y hy;obtain ⟨z,pl,lo⟩:=y
   simp only at hR hp hbz;subst hp;cases hR with
   | sc v hs=>simp[Cell.own,aN] at hbz
   | nl k=>simp[Cell.own,aN] at hbz
   | no v hr hrd=>simp[Cell.own,aN] at hbz
   | loose v hr hf=>
    have hbz:b∈v.blks:=by simpa [Cell.own,aN] using hbz
    exact ⟨hf.2.2 b hbz,hf.1.lt b hbz⟩
  ·exfalso
   obtain ⟨_,_,q3,_⟩:=hboxf s hs t hk
   refine h0 ?_
   rw[hf2,List.length_eq_zero_iff,List.filter_eq_nil_iff];intro y hy;simp[(q3 y hy).2]
theorem Dv {E0:Env} {w0:World} {args:List SA} {nt:Nat} (he:Entry E0 w0 args) (h:Inv (bt E0 nt args) S [] C a w) {bx:SA} {t:Tg} {cs:List V} (hbxA:S[bf nt+1]?=some bx) (hkb':bx.k= .box t)
  (hleft:iX bx.er.cs (((args.map Sl.er).headD dead).cs) 0=some cs) (C':Nat→Nat→Prop) (hC':∀ b j,C' b j→C b j):∃ arg,args.head?=some arg∧vY E0 w C' arg cs:=by
 have hnt2:bf nt+1=bf (bt E0 nt args).nt+1:=rfl;have hge:(bt E0 nt args).nt≤bf nt+1:=by show nt≤_;unfold bf;omega
 rcases h.high _ bx hge hbxA with h1 | h1 | ⟨t1,h1,h2⟩
 ·rw[hkb'] at h1;cases h1
 ·rw[hkb'] at h1;cases h1
 ·rw[hkb'] at h1;simp only[Kd.box.injEq] at h1;subst h1;have htag:t=nB args:=h2 rfl;obtain ⟨b1,T,q1,q2,q3,_⟩:=h.box _ bx t hbxA hkb'
  cases hargs:args with
  | nil=>
   rw[hargs] at htag;rw[htag] at q1;simp[nB] at q1
  | cons arg r=>
   have htag:t=nB (arg::r):=by rw[htag,hargs]
   have hargk:arg.k= .box t:=by
    obtain ⟨k,cs0⟩:=arg
    cases k with
    | box t0=>simp only[nB] at htag;rw[htag]
    | _=>
     simp only[nB] at htag;rw[htag] at q1;simp at q1
   have hl:iX (bx.cs.map Cell.er) (arg.cs.map Cell.er) 0=some cs:=by
    rw[hargs] at hleft;exact hleft
   obtain ⟨l1,l2,l3⟩:=px hl
   refine ⟨arg,rfl,t,b1,T,bx.cs.map (·.v),hargk,q1,?_,l2,by simpa using l1,fun j hj=>q3 j (hC' b1 j hj),fun c x v hx hv=>?_⟩
   ·rw[q2,List.map_map];rfl
   ·rw[List.getElem?_map,Option.map_eq_some_iff] at hv
    obtain ⟨y,hy,rfl⟩:=hv
    have hfl:=l3 c y x hy hx;have hyk:=h.cells _ bx hbxA y (List.mem_of_getElem? hy);have hxk:=he.cells arg (by rw[hargs];exact List.mem_cons_self ..) x (List.mem_of_getElem? hx)
    obtain ⟨yv,yf⟩:=y
    obtain ⟨xv,xf⟩:=x
    simp only[Nat.zero_add] at hfl;rcases hfl with ⟨h5,h6⟩ | ⟨h5,h6⟩ | ⟨h5,h6⟩
    ·have h5:yf=_:=h5;have h6:xf=_:=h6;subst h5;subst h6;exact .inl ⟨hxk,hyk⟩
    ·have h5:yf=_:=h5;have h6:xf=_:=h6;subst h5;subst h6;have e1:E0.par 0 c=some yv:=hyk.2.2;have e2:E0.par 0 c=some xv:=hxk.2.2;rw[e1] at e2;obtain rfl:=Option.some.inj e2
     refine .inr ⟨?_,rfl⟩
     have hrow:aY yv=true:=hyk.1;cases yv<;>simp_all[aY,scal]
    ·have h5:yf=_:=h5;have h6:xf=_:=h6;subst h5;subst h6;obtain ⟨k1,e1⟩:=hyk
     obtain ⟨k2,e2⟩:=hxk
     have e1:yv= .row ⟨none,0,k1⟩ []:=e1;have e2:xv= .row ⟨none,0,k2⟩ []:=e2;subst e1;subst e2;exact .inr ⟨rfl,rfl⟩
theorem mM {P:Program} {E0:Env} {w0:World} {args:List SA} {nt:Nat} (he:Entry E0 w0 args) (h:Inv (bt E0 nt args) S [] C a w) (hfr:Frame (bt E0 nt args) w0 w)
  {fn:Func} {ir:FnIr} (hres:ir.res=oB P fn.results.toList) (hnt:ir.ntmps=nt) {ret:Ret} (hr:cC ir (args.map Sl.er) (erS S)=some ret):
  ∃ v rs outs C',(results fn a.tmps).run P w= .ok v w∧Leave E0 w0 w args ret v rs outs C':=by
 unfold cC at hr;rw[hres] at hr;split at hr
 ·cases hr
 ·rename_i ys hys;obtain ⟨ss,rfl,hlen,hread,hok⟩:=pP h fn.results.toList hys
  simp only at hr;split at hr
  ·rename_i hcond;simp only[Bool.and_eq_true] at hcond;obtain ⟨⟨hnd0,hloose⟩,hbox⟩:=hcond
   have hnd:=tN hnd0;clear hnd0;split at hr
   ·cases hr
   ·rename_i outs houts;split at hr
    ·cases hr
    ·rename_i hol;obtain ⟨Lo,o1,o2,o3⟩:=rO _ houts
     have hrun:(results fn a.tmps).run P w= .ok (gY E0.sid (ss.map (·.1))) w:=by
      have:=yI (w:=w) (P:=P) (fn:=fn) (tmps:=a.tmps) (vs:=(ss.map (·.1)).map (bm E0.sid)) (fun i r hr=>by
       obtain ⟨s,hs,hrd⟩:=hread i r (by rw[Array.getElem?_toList];exact hr)
       exact ⟨bm E0.sid s.1,by simp[hs],hrd⟩) (by simp[hlen])
      rw[yA] at this;exact this
     obtain ⟨yss,yl,ysp⟩:=Cf hok
     have main:=Dw (P:=P) (fn:=fn) ⟨he,h,hfr,hok,yl,ysp,o1,o2,o3⟩ hrun hloose hbox hnd hol rfl;split at hr
     ·split at hr
      ·rename_i bxU hbx;obtain ⟨bx,hbxA,rfl⟩:=bJ hbx
       split at hr
       ·rename_i u hkb;have hkb':∃ t,bx.k= .box t:=by
         rw[bg] at hkb;cases hk':bx.k<;>rw[hk'] at hkb<;>simp[Kd.er] at hkb ⊢
        obtain ⟨t,hkb'⟩:=hkb'
        split at hr
        ·rename_i cs hleft;split at hr
         ·rename_i hnb;simp only[Option.some.injEq] at hr;subst hr;refine main (some cs) (fun C' hC' cs' hcs'=>?_) (fun _=>hnb)
          simp only[Option.some.injEq] at hcs';subst hcs';rw[hnt] at hbxA;exact Dv he h hbxA hkb' hleft C' hC'
         ·cases hr
        ·cases hr
       ·cases hr
      ·cases hr
     ·simp only[Option.some.injEq] at hr;subst hr;exact main none (fun _ _ cs' hcs'=>by cases hcs') (by simp)
  ·cases hr
end
end Go.Vm
end
section
namespace Go.Vm
theorem yT (x:Cell Tg):(eW x).er=eW x.er:=by
 obtain ⟨v,f⟩:=x
 cases f<;>rfl
theorem EV (s:SA):(aV s).er=aV s.er:=by
 obtain ⟨k,cs⟩:=s
 have h:(cs.map eW).map Cell.er=(cs.map Cell.er).map eW:=by
  rw[List.map_map,List.map_map];exact List.map_congr_left fun x _=>yT x
 cases k<;>simp[aV,Sl.er,Kd.er,h]
theorem yS (ms:List Pm) (args:List SA):(aj ms args).map Sl.er=aj ms (args.map Sl.er):=by
 unfold aj;split
 ·rfl
 ·rw[List.map_map,List.map_map];exact List.map_congr_left fun x _=>EV x
theorem ul {α:Type} (x:Cell α):(eW x).v=x.v:=by
 obtain ⟨v,f⟩:=x
 cases f<;>rfl
theorem CJ {sid:Nat→Nat} (s:SA):bm sid (aV s)=bm sid s:=by
 obtain ⟨k,cs⟩:=s
 have h:(cs.map eW).map (fun c=>c.v.val sid)=cs.map (fun c=>c.v.val sid):=by
  rw[List.map_map];exact List.map_congr_left fun x _=>by simp[ul]
 cases k with
 | val=>match cs with
  | []=>rfl
  | [c]=>simp[aV,bm,ul]
  | c::d::r=>rfl
 | agg=>simp only[bm,aV,h]
 | _=>rfl
theorem w9 {sid:Nat→Nat} (ms:List Pm) (args:List SA):(aj ms args).map (bm sid)=args.map (bm sid):=by
 unfold aj;split
 ·rfl
 ·rw[List.map_map];exact List.map_congr_left fun x _=>CJ x
theorem xb (x:Cell Tg):(eW x).own=x.own:=by
 obtain ⟨v,f⟩:=x
 cases f<;>rfl
theorem CI (s:SA):(aV s).own=s.own:=by
 obtain ⟨k,cs⟩:=s
 have h:(cs.map eW).flatMap Cell.own=cs.flatMap Cell.own:=by
  rw[List.flatMap_map]
  congr 1
  funext x
  exact xb x
 cases k<;>simp[aV,Sl.own,Sl.boxOwn,h]
theorem rW {s:SA} {x:Cell Tg} (h:x∈(aV s).cs):∃ y∈s.cs,x=y∨(x=eW y):=by
 obtain ⟨k,cs⟩:=s
 cases k<;>simp only[aV,List.mem_map] at h<;>first | exact ⟨x,h, .inl rfl⟩ | (obtain ⟨y,hy,rfl⟩:=h;exact ⟨y,hy, .inr rfl⟩)
theorem vO {s:SA} {t:Tg} (h:(aV s).k= .box t):aV s=s:=by
 obtain ⟨k,cs⟩:=s
 cases k<;>simp[aV] at h ⊢
theorem yU {E:Env} {w:World} {C:Nat→Nat→Prop} {x:Cell Tg} (h:COk E w E.old [] [] x):COk E w E.old [] [] (eW x):=by
 obtain ⟨v,f⟩:=x
 cases f with
 | nl=>
  obtain ⟨k,hk⟩:=h
  simp only at hk;subst hk;show Rd E.sid w E.old _;exact .row _ _ (by simp) (by simp) (by simp) (by simp)
 | sp a c=>exact h.2.1
 | _=>exact h
theorem Entry.shut {E:Env} {w:World} {args:List SA} (h:Entry E w args) (ms:List Pm):Entry E w (aj ms args):=by
 unfold aj;split
 ·exact h
 ·have hown:(args.map aV).flatMap Sl.own=args.flatMap Sl.own:=by
   rw[List.flatMap_map]
   congr 1
   funext x
   exact CI x
  refine ⟨h.base,fun i s hs=>?_,fun s hs x hx=>?_,fun s hs x hx=>?_,fun s hs t ht=>?_,by rw[hown];exact h.cnt,by rw[hown];exact h.own,h.olt⟩
  ·rw[List.getElem?_map,Option.map_eq_some_iff] at hs
   obtain ⟨s0,hs0,rfl⟩:=hs
   have:=h.kinds i s0 hs0
   obtain ⟨k,cs⟩:=s0
   rcases this with ⟨h1,c,h2⟩ | h1 | ⟨h1,t,h2⟩
   ·simp only at h1 h2;subst h1;subst h2;exact .inl ⟨rfl,_,rfl⟩
   ·simp only at h1;subst h1;exact .inr (.inl rfl)
   ·simp only at h2;subst h2;exact .inr (.inr ⟨h1,t,rfl⟩)
  ·obtain ⟨s0,hs0,rfl⟩:=List.mem_map.1 hs
   obtain ⟨y,hy,hxy⟩:=rW hx
   have h1:=h.flags s0 hs0 y hy;rcases hxy with rfl | rfl
   ·exact h1
   ·obtain ⟨v,f⟩:=y
    cases f<;>first | exact h1 | exact .inr (.inr (.inl rfl))
  ·obtain ⟨s0,hs0,rfl⟩:=List.mem_map.1 hs
   obtain ⟨y,hy,hxy⟩:=rW hx
   have h1:=h.cells s0 hs0 y hy;rcases hxy with rfl | rfl
   ·exact h1
   ·exact yU (C:=E.old) h1
  ·obtain ⟨s0,hs0,rfl⟩:=List.mem_map.1 hs
   have h1:=vO ht;rw[h1] at ht ⊢;exact h.box s0 hs0 t ht
def jK (P:Program) (sid:Nat→Nat) (g sp:Nat):Prop:=dG P sid (fun _ args=>dy sp args) g
structure FnTab (P:Program) (sid:Nat→Nat) (canon:Nat→Option Nat) (T:Nat→Option FnIr):Prop where
 ids:∀ f g,canon f=some g→sid g=f
 mixed:P.follows .mixedOrders=true
 fn:∀ g ir,T g=some ir→(ir.sp=0∧∃ fn ms,P.funcs[sid g]?=some fn∧(fn.name== "runtime.NumGoroutine")=false∧cFn P canon 0 ms fn=some ir)∨(ir.sp≠0∧jK P sid g ir.sp)
theorem vL {P:Program} {f:FuncId} {fn:Func} {c:Code} (hf:P.funcs[f]?=some fn) (hn:(fn.name== "runtime.NumGoroutine")=false) (hb:fn.body=some c) (args:Array Value) (w:World):
  (callFunc f args).run P w= .ok (.enter f args) w:=by
 have hn':¬fn.name="runtime.NumGoroutine" :=by
  intro e;rw[e] at hn;simp at hn
 simp[callFunc,hf,hn',hb]
theorem zu {P:Program} {sid:Nat→Nat} {canon:Nat→Option Nat} {modes:bO} {T:Nat→Option FnIr} (ht:FnTab P sid canon T) {n g:Nat} (ih:∀ g,dG P sid (df T modes n) g) {E:Env} {w:World} {args:List SA} {ret:Ret} (hP:E.P=P) (hs:E.sid=sid) (he:Entry E w args)
  {ms:List Pm} {fn:Func} {c:Code} (hfn:P.funcs[sid g]?=some fn) (hname:(fn.name== "runtime.NumGoroutine")=false) (hbody:fn.body=some c) (hl:args.length=fn.params.size+fn.nfree) (hle:fn.params.size+fn.nfree≤fn.ntmps) {ex:Ex} {st:St} (hex:ex= .normal∨ex= .ret)
  (hcode:code (df T modes n) modes fn.ntmps n (cX ⟨P,canon,fn.ntmps⟩ (dq c++iv fn.results.toList) c) (jI (⟨0,fn.params.size+fn.nfree,fn.ntmps,oB P fn.results.toList,ms,cX ⟨P,canon,fn.ntmps⟩ (dq c++iv fn.results.toList) c⟩:FnIr) (args.map Sl.er))=some (ex,st))
  (hfin:cC ⟨0,fn.params.size+fn.nfree,fn.ntmps,oB P fn.results.toList,ms,cX ⟨P,canon,fn.ntmps⟩ (dq c++iv fn.results.toList) c⟩ (args.map Sl.er) st=some ret):
  (callFunc (sid g) (args.map (bm sid)).toArray).run P w= .ok (.enter (sid g) (args.map (bm sid)).toArray) w∧
  Calls P (sid g) (args.map (bm sid)).toArray w fun e w'=>∃ v rs outs C,e= .returned v∧Leave E w w' args ret v rs outs C:=by
 refine ⟨vL hfn hname hbody _ _,?_⟩
 refine calls_of_wp hfn hbody ?_
 have hi:=u9 he hl hle;have hf:Fits (bt E fn.ntmps args) ⟨P,canon,fn.ntmps⟩:=⟨by show P=E.P;exact hP.symm,rfl,fun f g hg=>by show E.sid g=f;rw[hs];exact ht.ids f g hg,by show E.P.follows _=_;rw[hP];exact ht.mixed⟩
 have hO:∀ g,dG (bt E fn.ntmps args).P (bt E fn.ntmps args).sid (df T modes n) g:=by
  intro g;show dG E.P E.sid _ g;rw[hP,hs];exact ih g
 have hbase:(bt E fn.ntmps args).base≤w.heap.size:=by show E.base≤_;rw[he.base];exact Nat.le_refl _
 have hsz:((args.map (bm sid)).toArray).size=fn.params.size+fn.nfree:=by simpa using hl
 rw[hsz];rw[←vR] at hcode;rw[hs] at hi;have:=nH (E:=bt E fn.ntmps args) (Q:=bodyPost P fn fun e w'=>∃ v rs outs C,e= .returned v∧Leave E w w' args ret v rs outs C) hf hO c hi hbase hcode (fun S1 C1 a1 w1 e1 e2 e3=>by
  rw[←e1] at hfin;obtain ⟨v,rs,outs,C',r1,r2⟩:=mM (P:=P) he e2 e3 (fn:=fn) rfl rfl hfin
  rcases hex with rfl | rfl
  ·exact ⟨e2.nodef,v,r1,v,rs,outs,C',rfl,r2⟩
  ·exact ⟨e2.nodef,v,r1,v,rs,outs,C',rfl,r2⟩)
 have hPE:(bt E fn.ntmps args).P=P:=hP;rw[hPE] at this;exact this
theorem tr {E:Env} {w w':World} {args:List SA} {ms:List Pm} {ret:Ret} {v:Value} {rs:List SA} {outs:List A} {C:Nat→Nat→Prop} (h:Leave E w w' (aj ms args) ret v rs outs C):Leave E w w' args ret v rs outs C:=by
 refine ⟨h.er,h.val,h.kinds,h.flags,h.cells,h.box,h.cnt,h.own,h.clt,h.cbase,h.frame,h.outer,h.outok,fun cs' hc=>?_⟩
 obtain ⟨arg,h1,h2⟩:=h.left cs' hc
 unfold aj at h1;split at h1
 ·exact ⟨arg,h1,h2⟩
 ·cases args with
  | nil=>simp at h1
  | cons s r=>
   simp only[List.map_cons,List.head?_cons,Option.some.injEq] at h1
   subst h1;refine ⟨s,rfl,?_⟩
   have h3:=h2;obtain ⟨t,b,T,vs,k1,k2⟩:=h2
   rw[vO k1] at h3;exact h3
theorem DH {P:Program} {sid:Nat→Nat} {canon:Nat→Option Nat} {modes:bO} {T:Nat→Option FnIr} (ht:FnTab P sid canon T):∀ (n g:Nat),dG P sid (df T modes n) g:=by
 intro n;induction n with
 | zero=>
  intro g E w args ret hP hs he hr;simp[df] at hr
 | succ n ih=>
  intro g E w args ret hP hs he hr;simp only[df] at hr;split at hr
  ·cases hr
  ·rename_i ir hT;rcases ht.fn g ir hT with ⟨hsp,fn,ms,hfn,hname,hc⟩ | ⟨hsp,hspec⟩
   ·rw[if_pos hsp] at hr;split at hr
    ·rename_i hlen;obtain ⟨hl,hle⟩:=hlen
     rw[List.length_map] at hl;unfold cFn at hc;split at hc
     ·cases hc
     ·rename_i c hbody;simp only[Option.some.injEq] at hc;subst hc;simp only at hl hle hr;rw[←yS] at hr;have hl':(aj ms args).length=fn.params.size+fn.nfree:=by
       rw[←hl];unfold aj;split<;>simp
      rw[←w9 (sid:=sid) ms args];have key:∀ {ex:Ex} {st:St},(ex= .normal∨ex= .ret)→code (df T modes n) modes fn.ntmps n (cX ⟨P,canon,fn.ntmps⟩ (dq c++iv fn.results.toList) c) (jI (⟨0,fn.params.size+fn.nfree,fn.ntmps,oB P fn.results.toList,ms,cX ⟨P,canon,fn.ntmps⟩ (dq c++iv fn.results.toList) c⟩:FnIr) ((aj ms args).map Sl.er))=some (ex,st)→
        cC ⟨0,fn.params.size+fn.nfree,fn.ntmps,oB P fn.results.toList,ms,cX ⟨P,canon,fn.ntmps⟩ (dq c++iv fn.results.toList) c⟩ ((aj ms args).map Sl.er) st=some ret→
        (callFunc (sid g) ((aj ms args).map (bm sid)).toArray).run P w= .ok (.enter (sid g) ((aj ms args).map (bm sid)).toArray) w∧
        Calls P (sid g) ((aj ms args).map (bm sid)).toArray w fun e w'=>∃ v rs outs C,e= .returned v∧Leave E w w' args ret v rs outs C:=by
       intro ex st hex hcode hfin;obtain ⟨k1,k2⟩:=zu (E:=E) (g:=g) ht ih hP hs (he.shut ms) hfn hname hbody hl' hle hex hcode hfin
       exact ⟨k1,Calls.mono k2 fun e w' ⟨v,rs,outs,C,h1,h2⟩=>⟨v,rs,outs,C,h1,tr h2⟩⟩
      split at hr
      ·rename_i st hcode;exact key (.inl rfl) hcode hr
      ·rename_i st hcode;exact key (.inr rfl) hcode hr
      ·cases hr
    ·cases hr
   ·rw[if_neg hsp] at hr;exact hspec E w args ret hP hs he hr
end Go.Vm
end
section
namespace Go.Vm
inductive Sh where
 | int (k:IntKind)
 | bool
 | str
 | row (l:List Sh)
def ES (sh:TypeId→Option (List Sh)) (P:Program):List Field→Nat→Option (List Sh)
 | [],_=>some []
 | f::fs,off=>match sh f.type with
  | some l=>if f.offset=off∧l.length=P.cellsOf f.type then (ES sh P fs (off+l.length)).map (l++·) else none
  | none=>none
def uj (P:Program):Nat→TypeId→Option (List Sh)
 | 0,_=>none
 | m+1,t=>match P.underlying t with
  | some (.int k)=>some [.int k]
  | some .bool=>some [.bool]
  | some .string=>some [.str]
  | some (.slice e)=>match uj P m e with
   | some l=>if l.length=P.cellsOf e∧0 < l.length then some [.row l] else none
   | none=>none
  | some (.struct fs)=>match ES (uj P m) P fs.toList 0 with
   | some l=>if l.length=P.cellsOf t then some l else none
   | none=>none
  | _=>none
inductive Fit:Sh→V→Prop
 | int (k:IntKind) (n:Int) (h1:k.min≤n) (h2:n≤k.max):Fit (.int k) (.int k n)
 | bool (b:Bool):Fit .bool (.bool b)
 | str (s:ByteArray) (h:s.size≤maxLen):Fit .str (.str s)
 | row (l:List Sh) (es:List (List V)) (hl:es.length≤maxLen) (hk:∀ e∈es,e.length=l.length) (h:∀ e∈es,∀ (i:Nat) (s:Sh) (v:V),l[i]?=some s→e[i]?=some v→Fit s v):Fit (.row l) (.row () es)
def iA (l:List Sh) (vs:List V):Prop:=vs.length=l.length∧∀ (i:Nat) (s:Sh) (v:V),l[i]?=some s→vs[i]?=some v→Fit s v
theorem rm {α:Type} {Q:Nat→α→Prop}:∀ (n:Nat),(∀ i,i < n→∃ y,Q i y)→∃ l:List α,l.length=n∧∀ i y,l[i]?=some y→Q i y
 | 0,_=>⟨[],rfl,by simp⟩
 | n+1,h=>by
  obtain ⟨l,h1,h2⟩:=rm n (fun i hi=>h i (by omega))
  obtain ⟨y,hy⟩:=h n (by omega)
  refine ⟨l++[y],by simp[h1],fun i z hz=>?_⟩
  rw[List.getElem?_append] at hz
  split at hz
  ·exact h2 i z hz
  ·rename_i hi;cases hk:i - l.length with
   | zero=>
    rw[hk] at hz;simp only[List.getElem?_cons_zero,Option.some.injEq] at hz
    have:i=n:=by omega
    rw[this,←hz];exact hy
   | succ m=>rw[hk] at hz;simp at hz
theorem xN {α:Type} {k:Nat} {es:List (List α)} (hk:∀ e∈es,e.length=k) (hk0:0 < k) {j:Nat} {c:α} (hj:es.flatten[j]?=some c):∃ i r e,es[i]?=some e∧e[r]?=some c∧r < k∧j=i * k+r:=by
 have hlt:j < es.length * k:=by rw[←aR hk];exact (List.getElem?_eq_some_iff.1 hj).1
 have hd:j / k < es.length:=Nat.div_lt_of_lt_mul (by rw[Nat.mul_comm];exact hlt)
 have hm:=Nat.mod_lt j hk0;have hjj:j=j / k * k+j % k:=by rw[Nat.mul_comm];exact (Nat.div_add_mod j k).symm
 refine ⟨j / k,j % k,es[j / k],List.getElem?_eq_getElem hd,?_,hm,hjj⟩
 rw[←lC hk (List.getElem?_eq_getElem hd) (j % k) hm,←hjj]
 exact hj
section
variable {sid:Nat→Nat} {P:Program} {w:World} {H:Type} {enc:TypeId×Value→H}
def kr (w:World) (b _j:Nat):Prop:=b < w.heap.size
theorem rq {n m:Nat} {base:Nat} {sp:Nat→Bool}
  (ih:∀ (t:TypeId) (cs:List Value) (x:DataW H×List MemPlace) (l:List Sh),uj P m t=some l→DataW.trod enc P w base sp true n t cs=some x→∃ as:List A,as.map (VA.val sid)=cs∧iA l (as.map VA.er)∧∀ a∈as,Rd sid w (kr w) a∧(aY a=true∨scal a=true)) (cs:List Value):
  ∀ (fs:List Field) (off:Nat) (l:List Sh),ES (uj P m) P fs off=some l→(∀ (i:Nat) (f:Field),fs[i]?=some f→∃ x,DataW.trod enc P w base sp true n f.type ((cs.drop f.offset).take (P.cellsOf f.type))=some x)→
   ∃ as:List A,as.map (VA.val sid)=(cs.drop off).take l.length∧iA l (as.map VA.er)∧∀ a∈as,Rd sid w (kr w) a∧(aY a=true∨scal a=true)
 | [],off,l,hl,_=>by
  simp only[ES,Option.some.injEq] at hl;subst hl;exact ⟨[],by simp,⟨rfl,by simp⟩,by simp⟩
 | f::fs,off,l,hl,hx=>by
  unfold ES at hl;split at hl
  ·rename_i l1 hl1;split at hl
   ·rename_i hc;obtain ⟨hoff,hlen⟩:=hc
    rw[Option.map_eq_some_iff] at hl;obtain ⟨l2,hl2,rfl⟩:=hl
    obtain ⟨x,hx0⟩:=hx 0 f rfl
    rw[hoff,←hlen] at hx0;obtain ⟨as1,a1,a2,a3⟩:=ih f.type _ x l1 hl1 hx0
    obtain ⟨as2,b1,b2,b3⟩:=rq ih cs fs (off+l1.length) l2 hl2 (fun i f' hf'=>hx (i+1) f' (by simpa using hf'))
    have hl1':as1.length=l1.length:=by have:=a2.1;simpa using this
    refine ⟨as1++as2,?_,⟨by have:=a2.1;have:=b2.1;simp at *;omega,fun i s v hs hv=>?_⟩,fun a ha=>?_⟩
    ·rw[List.map_append,a1,b1,List.length_append,List.take_add,List.drop_drop]
    ·rw[List.map_append] at hv;rw[List.getElem?_append] at hs hv
     have hll:(as1.map VA.er).length=l1.length:=a2.1;rw[hll] at hv;split at hs
     ·rename_i hi;rw[if_pos hi] at hv;exact a2.2 i s v hs hv
     ·rename_i hi;rw[if_neg hi] at hv;exact b2.2 _ s v hs hv
    ·rcases List.mem_append.1 ha with ha | ha
     ·exact a3 a ha
     ·exact b3 a ha
   ·cases hl
  ·cases hl
theorem CF {base:Nat} {sp:Nat→Bool}:∀ (m n:Nat) (t:TypeId) (cs:List Value) (x:DataW H×List MemPlace) (l:List Sh),uj P m t=some l→DataW.trod enc P w base sp true n t cs=some x→
  ∃ as:List A,as.map (VA.val sid)=cs∧iA l (as.map VA.er)∧∀ a∈as,Rd sid w (kr w) a∧(aY a=true∨scal a=true):=by
 intro m;induction m with
 | zero=>intro n t cs x l hl;simp[uj] at hl
 | succ m ihm=>
  intro n t cs x l hl hx;have one:∀ (a:A) (s:Sh) (v:Value),a.val sid=v→Fit s a.er→Rd sid w (kr w) a→(aY a=true∨scal a=true)→l=[s]→cs=[v]→
    ∃ as:List A,as.map (VA.val sid)=cs∧iA l (as.map VA.er)∧∀ a∈as,Rd sid w (kr w) a∧(aY a=true∨scal a=true):=by
   rintro a s v rfl hf hr hk rfl rfl
   refine ⟨[a],rfl,⟨rfl,fun i s' v' hs hv=>?_⟩,by simpa using ⟨hr,hk⟩⟩
   cases i with
   | zero=>
    simp only[List.getElem?_cons_zero,List.map_cons,Option.some.injEq] at hs hv
    subst hs;subst hv;exact hf
   | succ i=>simp at hs
  unfold uj at hl;split at hl
  ·rename_i k ht;simp only[Option.some.injEq] at hl;obtain ⟨i,rfl,_,hwf⟩:=DataW.trod_int ht hx
   simp only[Lit.wf,Bool.and_eq_true,decide_eq_true_eq] at hwf;exact one (.int k i) (.int k) _ rfl (.int k i hwf.1 hwf.2) (.int k i) (.inr rfl) hl.symm rfl
  ·rename_i ht;simp only[Option.some.injEq] at hl;obtain ⟨b,rfl,_⟩:=DataW.trod_bool ht hx
   exact one (.bool b) .bool _ rfl (.bool b) (.bool b) (.inr rfl) hl.symm rfl
  ·rename_i ht;simp only[Option.some.injEq] at hl;obtain ⟨s,rfl,_,hs⟩:=DataW.trod_string ht hx
   exact one (.str s) .str _ rfl (.str s hs) (.str s) (.inr rfl) hl.symm rfl
  ·rename_i e ht;split at hl
   ·rename_i le hle;split at hl
    ·rename_i hc;obtain ⟨hlen,hpos⟩:=hc
     simp only[Option.some.injEq] at hl;rcases DataW.trod_slice ht hx with ⟨rfl,_⟩ | ⟨a,len,cap,elems,rest,n',_,rfl,_,hb,hlc,hcm,hel,helem,_⟩
     ·exact one (.row ⟨none,0,le.length⟩ []) (.row le) _ rfl (.row le [] (by simp) (by simp) (by simp)) (.row _ _ (by simp) (by simp) (by simp) (by simp)) (.inl rfl) hl.symm rfl
     ·have hex:∀ i,i < len→∃ as:List A,(∃ cs',w.cells? base (a.add (i * le.length)) le.length=some cs'∧as.map (VA.val sid)=cs')∧iA le (as.map VA.er)∧∀ c∈as,Rd sid w (kr w) c∧(aY c=true∨scal c=true):=by
       intro i hi;have h1:=helem i hi;rw[List.getElem?_eq_getElem (by omega)] at h1
       rw[Option.bind_eq_some_iff] at h1;obtain ⟨cs',h2,h3⟩:=h1
       rw[←hlen] at h2;obtain ⟨as,k1,k2,k3⟩:=ihm n' e cs' _ le hle h3
       exact ⟨as,⟨cs',h2,k1⟩,k2,k3⟩
      obtain ⟨es,hesl,hes⟩:=rm len hex
      have hk:∀ e'∈es,e'.length=le.length:=by
       intro e' he';obtain ⟨i,hi⟩:=List.mem_iff_getElem?.1 he'
       have:=(hes i e' hi).2.1.1
       simpa using this
      refine one (.row ⟨some a,cap,le.length⟩ es) (.row le) _ (by simp[VA.val,hesl]) ?_ ?_ (.inl rfl) hl.symm rfl
      ·simp only[VA.er];refine .row le (erR es) (by rw[ce,List.length_map,hesl];omega) (fun e' he'=>?_) (fun e' he' i s v hs hv=>?_)
       ·rw[ce] at he';obtain ⟨e0,he0,rfl⟩:=List.mem_map.1 he'
        simpa using hk e0 he0
       ·rw[ce] at he';obtain ⟨e0,he0,rfl⟩:=List.mem_map.1 he'
        obtain ⟨q,hq⟩:=List.mem_iff_getElem?.1 he0
        exact (hes q e0 hq).2.1.2 i s v hs hv
      ·refine .row _ _ hk (by show es.length≤cap;omega) (fun j c hc=>?_) (fun c hc=>?_)
       ·obtain ⟨i,r,e',he',hr,hrk,rfl⟩:=xN hk hpos hc
        obtain ⟨⟨cs',h2,h3⟩,_⟩:=hes i e' he'
        obtain ⟨_,_,hcell⟩:=World.cells?_some h2
        have hcr:=hcell r hrk;rw[←h3,List.getElem?_map,hr] at hcr
        simp only[Option.map_some] at hcr;have hspot:a.spot=none:=by
         have hi0:i < es.length:=(List.getElem?_eq_some_iff.1 he').1
         obtain ⟨⟨cs0,h4,h5⟩,h6,_⟩:=hes 0 _ (List.getElem?_eq_getElem (by omega))
         obtain ⟨_,_,hcell0⟩:=World.cells?_some h4
         have h7:=hcell0 0 hpos;have h8:cs0.length=le.length:=by
          rw[←h5,List.length_map];have:=h6.1
          simpa using this
         rw[List.getElem?_eq_getElem (by omega)] at h7
         have:=World.cell?_spot h7
         simpa [Addr.add] using this
        obtain ⟨b,off,spot⟩:=a
        simp only at hspot;subst hspot;rw[jq,jq] at hcr;refine ⟨b,off,rfl,?_,by rw[←Nat.add_assoc];exact hcr⟩
        exact World.block_lt_of_cell? w _ hcr
       ·obtain ⟨e',he',hce⟩:=List.mem_flatten.1 hc
        obtain ⟨q,hq⟩:=List.mem_iff_getElem?.1 he'
        exact ((hes q e' hq).2.2 c hce).1
    ·cases hl
   ·cases hl
  ·rename_i fs ht;split at hl
   ·rename_i l0 hl0;split at hl
    ·rename_i hlen;simp only[Option.some.injEq] at hl;subst hl;obtain ⟨xs,n',_,_,hcl,hxl,hf⟩:=DataW.trod_struct ht hx
     obtain ⟨as,k1,k2,k3⟩:=rq (sid:=sid) (fun t cs x l h1 h2=>ihm n' t cs x l h1 h2) cs fs.toList 0 l0 hl0 (fun i f hfi=>by
      have hfi':fs[i]?=some f:=by rw[←Array.getElem?_toList];exact hfi
      have:=hf i f hfi'
      have hil:i < xs.length:=by rw[hxl];exact (Array.getElem?_eq_some_iff.1 hfi').1
      rw[List.getElem?_eq_getElem hil] at this
      exact ⟨_,this⟩)
     refine ⟨as,?_,k2,k3⟩
     rw[k1,hlen,←hcl];simp
    ·cases hl
   ·cases hl
  ·cases hl
end
end Go.Vm
end
section
namespace Go.Vm
open Go.RowKit
def sq (p:Nat):Nat→List V→List (Cell Unit)
 | _,[]=>[]
 | c,v::vs=>⟨v,if aY v then .sp p c else .sc⟩::sq p (c+1) vs
def IA (p:Nat) (agg:Bool) (vs:List V):SU:=⟨if agg then .agg else .val,sq p 0 vs⟩
def xW:Nat→List (Bool×List V)→List SU
 | _,[]=>[]
 | p,x::xs=>IA p x.1 x.2::xW (p+1) xs
def dN (p:Nat):Nat→List A→List (Cell Tg)
 | _,[]=>[]
 | c,v::vs=>⟨v,if aY v then .sp p c else .sc⟩::dN p (c+1) vs
def iO (p:Nat) (agg:Bool) (vs:List A):SA:=⟨if agg then .agg else .val,dN p 0 vs⟩
def gG:Nat→List (Bool×List A)→List SA
 | _,[]=>[]
 | p,x::xs=>iO p x.1 x.2::gG (p+1) xs
theorem rD (p:Nat):∀ (vs:List A) (c:Nat),(dN p c vs).map Cell.er=sq p c (vs.map VA.er)
 | [],_=>rfl
 | v::vs,c=>by simp[dN,sq,rD p vs,Cell.er,fX]
theorem u6:∀ (xs:List (Bool×List A)) (p:Nat),(gG p xs).map Sl.er=xW p (xs.map fun x=>(x.1,x.2.map VA.er))
 | [],_=>rfl
 | (b,vs)::xs,p=>by
  simp only[gG,xW,List.map_cons,u6 xs (p+1)]
  congr 1
  cases b<;>simp[iO,IA,Sl.er,Kd.er,rD]
theorem s5 (p:Nat):∀ (vs:List A) (c:Nat),(dN p c vs).map (·.v)=vs
 | [],_=>rfl
 | v::vs,c=>by simp[dN,s5 p vs]
theorem lF (p:Nat):∀ (vs:List A) (c j:Nat) (x:Cell Tg),(dN p c vs)[j]?=some x→∃ v,vs[j]?=some v∧x=⟨v,if aY v then .sp p (c+j) else .sc⟩
 | [],_,_,x,h=>by simp[dN] at h
 | v::vs,c,0,x,h=>by simp only[dN,List.getElem?_cons_zero,Option.some.injEq] at h;exact ⟨v,rfl,h.symm⟩
 | v::vs,c,j+1,x,h=>by
  simp only[dN,List.getElem?_cons_succ] at h
  obtain ⟨u,h1,h2⟩:=lF p vs (c+1) j x h
  exact ⟨u,by simpa using h1,by rw[h2,show c+1+j=c+(j+1) by omega]⟩
theorem s6:∀ (xs:List (Bool×List A)) (p i:Nat) (s:SA),(gG p xs)[i]?=some s→∃ x,xs[i]?=some x∧s=iO (p+i) x.1 x.2
 | [],_,_,s,h=>by simp[gG] at h
 | x::xs,p,0,s,h=>by simp only[gG,List.getElem?_cons_zero,Option.some.injEq] at h;exact ⟨x,rfl,h.symm⟩
 | x::xs,p,i+1,s,h=>by
  simp only[gG,List.getElem?_cons_succ] at h
  obtain ⟨y,h1,h2⟩:=s6 xs (p+1) i s h
  exact ⟨y,by simpa using h1,by rw[h2,show p+1+i=p+(i+1) by omega]⟩
def yB (P:Program) (m:Nat) (t:TypeId):Option (Bool×List Sh):=(uj P m t).map fun l=>(fg P t,l)
section
variable {sid:Nat→Nat} {P:Program} {W:World} {H:Type} {enc:TypeId×Value→H}
theorem wO {base:Nat} {t:TypeId} {v:Value} (hv:Value.okWide P W .any base t v) {m:Nat} {l:List Sh} (hl:uj P m t=some l) {as:List A} (hc:as.map (VA.val sid)=v.cells.toList) (hlen:as.length=l.length):
  v=bm sid (iO 0 (fg P t) as)∧(fg P t=false→∃ a,as=[a])∧∀ p,bm sid (iO p (fg P t) as)=v:=by
 have agg:∀ cs:Array Value,fg P t=true→v= .agg cs→v=bm sid (iO 0 (fg P t) as)∧(fg P t=false→∃ a,as=[a])∧∀ p,bm sid (iO p (fg P t) as)=v:=by
  intro cs h1 h2;subst h2;have hm:∀ p,(dN p 0 as).map (·.v.val sid)=as.map (VA.val sid):=by
   intro p;have:=congrArg (List.map (VA.val sid)) (s5 p as 0)
   rw[List.map_map] at this;exact this
  have hcs:(as.map (VA.val sid)).toArray=cs:=by
   rw[←Array.toList_inj];exact hc
  rw[h1];refine ⟨?_,by simp,fun p=>?_⟩
  ·simp only[bm,iO,if_true,hm,hcs]
  ·simp only[bm,iO,if_true,hm,hcs]
 have one:∀ x:Value,fg P t=false→v=x→v.cells=#[v]→v=bm sid (iO 0 (fg P t) as)∧(fg P t=false→∃ a,as=[a])∧∀ p,bm sid (iO p (fg P t) as)=v:=by
  intro x h1 _ h3;rw[h3] at hc;obtain ⟨a,rfl,ha⟩:=List.map_eq_singleton_iff.1 hc
  rw[h1];refine ⟨?_,fun _=>⟨a,rfl⟩,fun p=>?_⟩
  ·simp[bm,iO,dN,ha]
  ·simp[bm,iO,dN,ha]
 cases m with
 | zero=>simp[uj] at hl
 | succ m=>
  unfold uj at hl;split at hl
  ·rename_i k ht;obtain ⟨n,rfl⟩:=WideShapes.okWide_int ht hv
   exact one _ (by simp[fg,ht]) rfl rfl
  ·rename_i ht;obtain ⟨b,rfl⟩:=WideShapes.okWide_bool ht hv
   exact one _ (by simp[fg,ht]) rfl rfl
  ·rename_i ht;obtain ⟨s,rfl⟩:=WideShapes.okWide_string ht hv
   exact one _ (by simp[fg,ht]) rfl rfl
  ·rename_i e ht;obtain ⟨a,len,cap,rfl⟩:=WideShapes.okWide_slice ht hv
   exact one _ (by simp[fg,ht]) rfl rfl
  ·rename_i fs ht;obtain ⟨cs,rfl,_⟩:=WideShapes.okWide_struct ht hv
   exact agg cs (by simp[fg,ht]) rfl
  ·cases hl
theorem vD {base:Nat} {sp:Nat→Bool} {m:Nat}:∀ (ts:List TypeId) (ls:List (Bool×List Sh)) (vs:List Value) (ds:List (DataW H)) (ps:List MemPlace),bU (yB P m) ts=some ls→DataW.TrodAll enc P W 0 sp true ts vs ds ps→
  (∀ (j:Nat) t v,ts[j]?=some t→vs[j]?=some v→Value.okWide P W .any base t v)→
  ∃ xs:List (Bool×List A),(∀ p,(gG p xs).map (bm sid)=vs)∧xs.length=ls.length∧(∀ (i:Nat) x y,xs[i]?=some x→ls[i]?=some y→x.1=y.1∧iA y.2 (x.2.map VA.er))∧(∀ x∈xs,(x.1=false→∃ a,x.2=[a])∧∀ a∈x.2,Rd sid W (kr W) a∧(aY a=true∨scal a=true))
 | [],ls,vs,ds,ps,hls,hA,_=>by
  simp only[bU,Option.some.injEq] at hls;subst hls;obtain ⟨rfl,_⟩:=ChangeShapes.trodAll_nil hA
  exact ⟨[],fun _=>rfl,rfl,by simp,by simp⟩
 | t::ts,ls,vs,ds,ps,hls,hA,hok=>by
  unfold bU at hls;cases h1:yB P m t with
  | none=>simp[h1] at hls
  | some y=>cases h2:bU (yB P m) ts with
   | none=>simp[h1,h2] at hls
   | some ys=>
    simp[h1,h2] at hls;subst hls;obtain ⟨v,vs',d,ds',p,q,rfl,rfl,_,hT,hA'⟩:=ChangeShapes.trodAll_cons hA
    obtain ⟨fuel,hf⟩:=hT
    unfold yB at h1;rw[Option.map_eq_some_iff] at h1;obtain ⟨l,hl,rfl⟩:=h1
    obtain ⟨as,a1,a2,a3⟩:=CF (sid:=sid) m fuel t _ _ l hl hf
    have hv:=hok 0 t v rfl rfl;obtain ⟨_,c2,c3⟩:=wO (sid:=sid) hv hl a1 (by have:=a2.1;simpa using this)
    obtain ⟨xs,b1,b2,b3,b4⟩:=vD (m:=m) ts ys vs' ds' q h2 hA' (fun j t' v' h3 h4=>hok (j+1) t' v' (by simpa using h3) (by simpa using h4))
    refine ⟨(fg P t,as)::xs,fun p=>?_,by simp[b2],fun i x y hx hy=>?_,fun x hx=>?_⟩
    ·simp only[gG,List.map_cons,c3 p,b1 (p+1)]
    ·cases i with
     | zero=>
      simp only[List.getElem?_cons_zero,Option.some.injEq] at hx hy
      subst hx;subst hy;exact ⟨rfl,a2⟩
     | succ i=>exact b3 i x y (by simpa using hx) (by simpa using hy)
    ·rcases List.mem_cons.1 hx with rfl | hx
     ·exact ⟨c2,a3⟩
     ·exact b4 x hx
theorem oq (hl:laidOutB P=true) {W':World} (hb:Below W.heap.size W W'):∀ (ts:List TypeId) (vs:List Value) (ds:List (DataW H)) (ps:List MemPlace),(∀ t∈ts,P.readableRec t=true∧t < P.types.size)→(∀ x∈ps,x.block < W.heap.size)→
  DataW.TrodAll enc P W 0 (fun _=>true) true ts vs ds ps→DataW.TrodAll enc P W' 0 (fun b=>decide (b < W.heap.size)) true ts vs ds ps
 | [],vs,ds,ps,_,_,h=>by
  obtain ⟨rfl,rfl,rfl⟩:=ChangeShapes.trodAll_nil h
  exact rfl
 | t::ts,vs,ds,ps,ht,hlt,h=>by
  obtain ⟨v,vs',d,ds',p,q,rfl,rfl,rfl,hT,hA⟩:=ChangeShapes.trodAll_cons h
  obtain ⟨h1,h2⟩:=ht t (List.mem_cons_self ..)
  exact ⟨p,q,Below.trod hl h1 h2 hT hb (fun x hx=>hlt x (List.mem_append.2 (.inl hx))),oq hl hb ts vs' ds' q (fun t' ht'=>ht t' (List.mem_cons_of_mem _ ht')) (fun x hx=>hlt x (List.mem_append.2 (.inr hx))) hA,rfl⟩
end
def aO (T:Nat→Option FnIr) (modes:bO) (g:Nat) (ls:List (Bool×List Sh)):Prop:=
 ∀ xs:List (Bool×List V),xs.length=ls.length→(∀ (i:Nat) x y,xs[i]?=some x→ls[i]?=some y→x.1=y.1∧iA y.2 x.2)→∃ n f,df T modes n g (xW 0 xs)=some ⟨[⟨.val,[⟨.bool true,f⟩]⟩],[],none⟩
theorem Fu {C:Checked} {sid:Nat→Nat} {canon:Nat→Option Nat} {modes:bO} {T:Nat→Option FnIr} (ht:FnTab C.prog sid canon T) {g m:Nat} {fn:Func} {ls:List (Bool×List Sh)} (hls:bU (yB C.prog m) fn.params.toList=some ls)
  (hans:aO T modes g ls) {s:ChangeSpec} (hvars:s.vars=[]) (hfn:∀ (H:Type) (ds:List (DataW H)),ds.length=fn.params.size→s.fn H ds={ results:=[.lit (.bool true)],args:=ds })
  {tb:TypeId} (hres:fn.resultTypes=#[tb]) (htb:C.prog.underlying tb=some .bool) (hlaid:laidOutB C.prog=true) (hread:∀ t∈fn.params.toList,C.prog.readableRec t=true∧t < C.prog.types.size)
  {H:Type} {enc:TypeId×Value→H} {fresh handsOn:Bool} (W:World) (base:Nat) (args:Array Value) (ds gs:List (DataW H)) (before:List MemPlace)
  (hval:∀ (j:Nat) t v,fn.params[j]?=some t→args[j]?=some v→Value.okWide C.prog W .any base t v) (hW:DataW.Whole enc C.prog fn.params.toList s.vars false W args.toList ds gs before):
  Calls C.prog (sid g) args W fun e W'=>∃ v,e= .returned v∧s.post enc C.prog fn false fresh handsOn false W args v W':=by
 have hW':=hW;obtain ⟨p,q,hA,hV,rfl,_,_⟩:=hW
 rw[hvars] at hV;obtain ⟨rfl,rfl⟩:=ChangeShapes.trodVars_none hV
 obtain ⟨xs,x1,x2,x3,x4⟩:=vD (sid:=sid) fn.params.toList ls args.toList ds p hls hA (fun j t v h1 h2=>hval j t v (by rw[←Array.getElem?_toList];exact h1) (by rw[←Array.getElem?_toList];exact h2))
 obtain ⟨n,fl,hrun⟩:=hans (xs.map fun x=>(x.1,x.2.map VA.er)) (by simp[x2]) (fun i x y hx hy=>by
  rw[List.getElem?_map,Option.map_eq_some_iff] at hx
  obtain ⟨x0,hx0,rfl⟩:=hx
  exact x3 i x0 y hx0 hy)
 rw[←u6] at hrun;obtain ⟨E0,hE0⟩:∃ E0:Env,E0=⟨C.prog,sid,0,0,fun _ _=>False,fun _=>False,fun _ _=>none,fun _=>none,⟨none,0,0⟩⟩:=⟨_,rfl⟩
 have hentry:Entry (iL E0 W (kr W) (gG 0 xs)) W (gG 0 xs):=by
  refine sO (fun b j hb=>hb) (fun i z hz=>?_)
  obtain ⟨x,hx,rfl⟩:=s6 xs 0 i z hz
  rw[Nat.zero_add];obtain ⟨q1,q2⟩:=x4 x (List.mem_of_getElem? hx)
  have hsid:E0.sid=sid:=by rw[hE0]
  refine ⟨?_,fun E' hs' hE hpar c y hy=>?_,fun c y hy=>?_⟩
  ·cases hb:x.1 with
   | true=>exact .inr (by simp[iO])
   | false=>
    obtain ⟨a,ha⟩:=q1 hb
    exact .inl ⟨by simp[iO],⟨a,if aY a then .sp i 0 else .sc⟩,by simp[iO,ha,dN]⟩
  ·obtain ⟨v,hv,rfl⟩:=lF i x.2 0 c y hy
   have h1:=hE c _ hy;have h2:=hpar c _ hy;rw[Nat.zero_add];simp only at h1 h2;obtain ⟨_,hk⟩:=q2 v (List.mem_of_getElem? hv)
   cases hrow:aY v with
   | true=>
    simp only[if_true];exact ⟨⟨hrow,by rw[hs'];exact h1,h2⟩, .inr (.inl ⟨_,_,rfl⟩)⟩
   | false=>
    rw[hrow] at hk;simp only[Bool.false_eq_true,if_false,false_or] at hk ⊢;exact ⟨hk, .inl trivial⟩
  ·obtain ⟨v,hv,rfl⟩:=lF i x.2 0 c y hy
   rw[hsid];exact (q2 v (List.mem_of_getElem? hv)).1
 have hk:=DH (modes:=modes) ht n g (iL E0 W (kr W) (gG 0 xs)) W (gG 0 xs) _ (by rw[hE0];rfl) (by rw[hE0];rfl) hentry hrun
 rw[x1 0] at hk;have hcalls:=hk.2;have hargs:args.toList.toArray=args:=by simp
 rw[hargs] at hcalls;refine Calls.mono hcalls ?_
 rintro e W' ⟨v,rs,outs,C',rfl,hl⟩
 have hsid:(iL E0 W (kr W) (gG 0 xs)).sid=sid:=by rw[hE0];rfl
 have hv:v= .bool true:=by
  have h1:=hl.er;have h2:=hl.val
  match rs,h1,h2 with
  | [r],h1,h2=>
   simp only[List.map_cons,List.map_nil,List.cons.injEq,and_true] at h1;obtain ⟨k,cs⟩:=r
   simp only[Sl.er,Sl.mk.injEq] at h1;obtain ⟨h3,h4⟩:=h1
   cases k<;>simp[Kd.er] at h3
   obtain ⟨c,rfl,hc⟩:=List.map_eq_singleton_iff.1 h4
   obtain ⟨cv,cf⟩:=c
   simp only[Cell.er,Cell.mk.injEq] at hc;have:=sj hc.1
   subst this;rw[h2];rfl
  | [],h1,_=>simp at h1
  | r::r'::rs,h1,_=>simp at h1
 subst hv;have hb:Below W.heap.size W W':=⟨hl.frame.os,hl.frame.tape,hl.frame.output,hl.frame.size,fun b hb=>hl.frame.block b hb (fun hc=>hc)⟩
 have hlt:∀ x∈p,x.block < W.heap.size:=fun x hx=>by
  simp only[List.append_nil] at hW';exact hW'.lt x hx
 refine ⟨.bool true,rfl,ds,[],p++[],[],p,[],hW',?_,?_,?_,?_,by simp⟩
 ·have hdl:ds.length=fn.params.size:=by
   have:=hA
   clear hW' hval hrun hk hcalls hl hlt x1 x2 x3 x4 hentry hls hread;have key:∀ (ts:List TypeId) (vs:List Value) (ds:List (DataW H)) (ps:List MemPlace),DataW.TrodAll enc C.prog W 0 (fun _=>true) true ts vs ds ps→ds.length=ts.length:=by
    intro ts;induction ts with
    | nil=>
     intro vs ds ps h;obtain ⟨_,rfl,_⟩:=ChangeShapes.trodAll_nil h
     rfl
    | cons t ts ih=>
     intro vs ds ps h;obtain ⟨v,vs',d,ds',p,q,rfl,rfl,rfl,_,h2⟩:=ChangeShapes.trodAll_cons h
     simp[ih vs' ds' q h2]
   simpa using key _ _ _ _ this
  rw[List.append_nil,hfn H ds hdl,hres];exact ChangeShapes.trodAll_mk1 ⟨1,by simp[DataW.trod,htb,Value.cells]⟩
 ·have hdl:ds.length=fn.params.size:=by
   have key:∀ (ts:List TypeId) (vs:List Value) (ds:List (DataW H)) (ps:List MemPlace),DataW.TrodAll enc C.prog W 0 (fun _=>true) true ts vs ds ps→ds.length=ts.length:=by
    intro ts;induction ts with
    | nil=>
     intro vs ds ps h;obtain ⟨_,rfl,_⟩:=ChangeShapes.trodAll_nil h
     rfl
    | cons t ts ih=>
     intro vs ds ps h;obtain ⟨v,vs',d,ds',p,q,rfl,rfl,rfl,_,h2⟩:=ChangeShapes.trodAll_cons h
     simp[ih vs' ds' q h2]
   simpa using key _ _ _ _ hA
  rw[List.append_nil,hfn H ds hdl];exact oq hlaid hb _ _ _ _ hread hlt hA
 ·rw[hvars];have hdl:(s.fn H (ds++[])).vars=[]:=by
   have key:∀ (ts:List TypeId) (vs:List Value) (ds:List (DataW H)) (ps:List MemPlace),DataW.TrodAll enc C.prog W 0 (fun _=>true) true ts vs ds ps→ds.length=ts.length:=by
    intro ts;induction ts with
    | nil=>
     intro vs ds ps h;obtain ⟨_,rfl,_⟩:=ChangeShapes.trodAll_nil h
     rfl
    | cons t ts ih=>
     intro vs ds ps h;obtain ⟨v,vs',d,ds',p,q,rfl,rfl,rfl,_,h2⟩:=ChangeShapes.trodAll_cons h
     simp[ih vs' ds' q h2]
   rw[List.append_nil,hfn H ds (by simpa using key _ _ _ _ hA)]
  rw[hdl];rfl
 ·exact hb.frame _
end Go.Vm
end
section
namespace Go.Vm
def Ev (p:Nat→Prop):Prop:=∃ N,∀ n,N≤n→p n
theorem Ev.of {p:Nat→Prop} (h:∀ n,p n):Ev p:=⟨0,fun n _=>h n⟩
theorem Ev.imp {p q:Nat→Prop} (h:Ev p) (f:∀ n,p n→q n):Ev q:=by
 obtain ⟨N,hN⟩:=h
 exact ⟨N,fun n hn=>f n (hN n hn)⟩
theorem Ev.and {p q:Nat→Prop} (h:Ev p) (h':Ev q):Ev fun n=>p n∧q n:=by
 obtain ⟨N,hN⟩:=h
 obtain ⟨M,hM⟩:=h'
 exact ⟨N+M,fun n hn=>⟨hN n (by omega),hM n (by omega)⟩⟩
section
variable {O:dH} {o:Nat→dH} {modes:bO} {nt:Nat}
def Agr {α:Type} (p:FM α) (q:Nat→FM α) (st:St):Prop:=∀ r,p.run st=some r→Ev fun n=>(q n).run st=some r∧(q n).log st=p.log st
theorem Agr.rfl' {α:Type} {p:FM α} {st:St}:Agr p (fun _=>p) st:=fun _ h=>Ev.of fun _=>⟨h,rfl⟩
theorem FM.log_bind {α β:Type}:∀ (p:FM α) (f:α→FM β) {st st':St} {a:α},p.run st=some (a,st')→(p.bind f).log st=((p.log st).1++((f a).log st').1,(p.log st).2++((f a).log st').2)
 | .ret a,f,st,st',b,h=>by
  obtain ⟨rfl,rfl⟩:=au h
  simp[FM.bind,FM.log]
 | .get i k,f,st,st',b,h=>by
  simp only[FM.run] at h;cases hs:st[i]? with
  | none=>rw[hs] at h;cases h
  | some s=>
   rw[hs] at h;simp only at h;simp only[FM.bind,FM.log,hs];rw[FM.log_bind (k s) f h];rfl
 | .set i s k,f,st,st',b,h=>by
  simp only[FM.run] at h;split at h
  ·rename_i hi;simp only[FM.bind,FM.log,hi,if_true];rw[FM.log_bind k f h];rfl
  ·cases h
 | .fail,f,st,st',b,h=>(aM h).elim
theorem Agr.bind {α β:Type} {p:FM α} {q:Nat→FM α} {f:α→FM β} {g:Nat→α→FM β} {st:St} (hp:Agr p q st) (hf:∀ a st',p.run st=some (a,st')→Agr (f a) (fun n=>g n a) st'):Agr (p.bind f) (fun n=>(q n).bind (g n)) st:=by
 intro r hr;obtain ⟨a,st',h1,h2⟩:=FM.bind_some hr
 refine ((hp _ h1).and (hf a st' h1 r h2)).imp fun n ⟨⟨k1,k2⟩,k3,k4⟩=>⟨?_,?_⟩
 ·rw[FM.run_bind,k1];exact k3
 ·rw[FM.log_bind _ _ k1,FM.log_bind _ _ h1,k2,k4]
theorem Agr.pre {α β:Type} {p:FM α} {f:α→FM β} {g:Nat→α→FM β} {st:St} (hf:∀ a st',p.run st=some (a,st')→Agr (f a) (fun n=>g n a) st'):Agr (p.bind f) (fun n=>p.bind (g n)) st:=Agr.bind Agr.rfl' hf
variable (h:∀ g args r,O g args=some r→Ev fun n=>o n g args=some r)
include h
theorem A0 {α:Type} (g:Nat) (as:List SU) (k:Option Ret→FM α) (hk:k none= .fail) (st:St):Agr (k (O g as)) (fun n=>k (o n g as)) st:=by
 intro r hr;cases hO:O g as with
 | none=>rw[hO,hk] at hr;exact (aM hr).elim
 | some x=>
  rw[hO] at hr;refine (h g as x hO).imp fun n hn=>?_
  simp only[hn];exact ⟨hr,trivial⟩
theorem kY (g:Nat) (args:List Opd) (caps:List V) (st:St):Agr (dn O g args caps) (fun n=>dn (o n) g args caps) st:=by
 unfold dn;refine Agr.pre fun as st' _=>?_
 exact A0 h g _ (fun x=>match x with | some ⟨rs,[],none⟩=>if (as.all jB&&caps.isEmpty)||rs.all wF then .ret (oj rs) else .fail | _=> .fail) rfl st'
theorem xl (g:Nat) (xs:List Opd) (r:Nat) (b:SU) (st:St):Agr (gB O g xs r b) (fun n=>gB (o n) g xs r b) st:=by
 unfold gB;split
 ·split
  ·refine Agr.pre fun b' st' _=>Agr.pre fun as st'' _=>?_
   split
   ·exact Agr.rfl'
   ·rename_i t _ _ _ _ _;exact A0 h g _ (fun x=>match x with | some ⟨rs,[],some cs⟩=>(opt (pO cs b.cs)).bind fun cs'=>(kE r ⟨.box t,cs'⟩).bind fun _=> .ret (oj rs) | _=> .fail) rfl st''
  ·exact Agr.rfl'
 ·exact Agr.rfl'
theorem C0 (op:Ir) (st:St):Agr (cY O modes nt op) (fun n=>cY (o n) modes nt op) st:=by
 cases op with
 | call g args=>
  simp only[cY];split
  ·split
   ·split
    ·exact Agr.rfl'
    ·exact Agr.pre fun r st' _=>Agr.pre fun b st'' _=>xl h _ _ _ _ _
   ·exact Agr.rfl'
  ·split
   ·exact Agr.rfl'
   ·exact kY h _ _ _ _
 | callv f args=>
  simp only[cY];refine Agr.pre fun sl st' _=>?_
  split
  ·split
   ·exact Agr.rfl'
   ·exact kY h _ _ _ _
  ·split
   ·exact Agr.rfl'
   ·exact Agr.pre fun caps st'' _=>kY h _ _ _ _
  ·exact Agr.rfl'
 | _=>exact Agr.rfl'
theorem G5 (io:Io) (st:St):Agr (ioF O modes nt io) (fun n=>ioF (o n) modes nt io) st:=by
 unfold ioF;refine Agr.pre fun b st' _=>?_
 cases b with
 | false=>exact Agr.rfl'
 | true=>
  simp only[if_true];obtain ⟨d,op,gd,an⟩:=io
  unfold oF;cases op<;>cases d<;>simp only<;>first | exact Agr.rfl' | exact Agr.bind (C0 h _ _) fun _ _ _=>Agr.rfl'
theorem Dy (d:Option Nat) (g:Nat) (args:List Opd) (st:St) {st1:St} (hr:sG O modes nt d g args st=some st1):Ev fun n=>sG (o n) modes nt d g args st=some st1:=by
 revert hr
 unfold sG;split
 ·split
  ·intro hr;cases hr
  ·intro hr;obtain ⟨sl,s2,h1,h2⟩:=dj hr
   simp only[gw,h1];split at h2
   ·rename_i hv;simp only[hv,if_true];split at h2
    ·cases h2
    ·rename_i hs hh;split at h2
     ·rename_i hap;simp only[hap,if_true];obtain ⟨as,s3,h3,h4⟩:=dj h2
      simp only[h3];split at h4
      ·rename_i hsc;simp only[hsc,if_true];cases hO:O g (⟨sl.k,jS 0 sl.cs⟩::as) with
       | none=>rw[hO] at h4;simp at h4
       | some x=>
        rw[hO] at h4;exact (h _ _ _ hO).imp fun n hn=>by rw[hn];exact h4
      ·cases h4
     ·cases h2
   ·cases h2
 ·intro hr;cases hr
theorem Ch (io:Io) (st:St) {st1:St} (hr:dm O modes nt io st=some st1):Ev fun n=>dm (o n) modes nt io st=some st1∧ei (o n) modes nt io st=ei O modes nt io st:=by
 unfold dm at hr;split at hr
 ·rename_i he;unfold z8 at hr;obtain ⟨b,s2,h1,h2⟩:=dj hr
  have hlog:∀ n,ei (o n) modes nt io st=ei O modes nt io st:=fun n=>by simp[ei,he]
  cases b with
  | false=>
   refine Ev.of fun n=>⟨?_,hlog n⟩
   simp only[dm,he,if_true,z8,gw,h1,Bool.false_eq_true,if_false] at h2 ⊢;exact h2
  | true=>
   simp only[if_true] at h2;have key:Ev fun n=>gL (o n) modes nt io s2=some st1:=by
    obtain ⟨d,op,gd,an⟩:=io
    unfold gL at h2 ⊢;cases op<;>cases d<;>simp only at h2 ⊢<;>first | exact Ev.of (fun _=>h2) | exact Dy h _ _ _ _ h2
   exact key.imp fun n hn=>⟨by simp only[dm,he,if_true,z8,gw,h1];exact hn,hlog n⟩
 ·rename_i he;obtain ⟨u,s2,h1,h2⟩:=dj hr
  simp only[Option.some.injEq] at h2;subst h2;refine (G5 h io st _ h1).imp fun n ⟨k1,k2⟩=>⟨?_,?_⟩
  ·simp[dm,he,gw,k1]
  ·simp only[ei,he,k2]
theorem sP:∀ (ops:List Io) (st:St) {st1:St},eg O modes nt ops st=some st1→Ev fun n=>eg (o n) modes nt ops st=some st1∧lJ (o n) modes nt ops st=lJ O modes nt ops st
 | [],st,st1,hr=>Ev.of fun _=>⟨hr,rfl⟩
 | io::ops,st,st1,hr=>by
  unfold eg at hr;split at hr
  ·rename_i s2 h1;refine ((Ch h io st h1).and (sP ops s2 hr)).imp fun n ⟨⟨k1,k2⟩,k3,k4⟩=>⟨?_,?_⟩
   ·simp only[eg,k1];exact k3
   ·simp only[lJ,k1,h1,k2,k4]
  ·cases hr
omit h in
theorem tA {b b':St→Option (Ex×St)} (hb:∀ st r,b st=some r→b' st=some r):∀ (m m':Nat) (st:St) {r:Ex×St},m≤m'→gM b m st=some r→gM b' m' st=some r
 | 0,_,_,_,_,hr=>by simp[gM] at hr
 | m+1,0,_,_,hm,_=>by omega
 | m+1,m'+1,st,r,hm,hr=>by
  unfold gM at hr ⊢;split at hr
  ·rename_i s2 h1;rw[hb _ _ h1];exact tA hb m m' s2 (by omega) hr
  ·rename_i hne;rw[hb _ _ hr];split
   ·rename_i s2 hs;simp only[Option.some.injEq] at hs;subst hs;exact absurd hr (by intro h';exact hne s2 h')
   ·rfl
theorem f9:∀ (c:Cd) (m:Nat) (st:St) {r:Ex×St},code O modes nt m c st=some r→Ev fun n=>∀ k,m≤k→code (o n) modes nt k c st=some r
 | .skip,m,st,r,hr=>Ev.of fun _ _ _=>hr
 | .exit _,m,st,r,hr=>Ev.of fun _ _ _=>hr
 | .ret,m,st,r,hr=>Ev.of fun _ _ _=>hr
 | .bad,m,st,r,hr=>by simp[code] at hr
 | .region d k0 k1 ops,m,st,r,hr=>by
  unfold code at hr;split at hr
  ·cases hr
  ·rename_i hd;unfold region at hr;split at hr
   ·rename_i s1 h1;split at h1
    ·rename_i s2 h2;refine (sP h ops _ h2).imp fun n ⟨k1,k2⟩ k hk=>?_
     unfold code region;rw[k2,k1];simp only[hd];simp only[Option.some.injEq] at h1;subst h1;exact hr
    ·cases h1
   ·cases hr
 | .seq a b,m,st,r,hr=>by
  unfold code at hr;split at hr
  ·rename_i s1 h1;refine ((f9 a m st h1).and (f9 b m s1 hr)).imp fun n ⟨k1,k2⟩ k hk=>?_
   unfold code;rw[k1 k hk];exact k2 k hk
  ·rename_i hne;refine (f9 a m st hr).imp fun n k1 k hk=>?_
   unfold code;rw[k1 k hk];split
   ·rename_i s1 hs;simp only[Option.some.injEq] at hs;subst hs;exact absurd hr (hne _)
   ·rfl
 | .cond x a b,m,st,r,hr=>by
  unfold code at hr;split at hr
  ·rename_i s1 h1;exact (f9 a m s1 hr).imp fun n k1 k hk=>by unfold code;rw[h1];exact k1 k hk
  ·rename_i s1 h1;exact (f9 b m s1 hr).imp fun n k1 k hk=>by unfold code;rw[h1];exact k1 k hk
  ·cases hr
 | .block id c,m,st,r,hr=>by
  unfold code at hr;split at hr
  ·rename_i id' s1 h1;exact (f9 c m st h1).imp fun n k1 k hk=>by unfold code;rw[k1 k hk];exact hr
  ·rename_i hne;refine (f9 c m st hr).imp fun n k1 k hk=>?_
   unfold code;rw[k1 k hk];split
   ·rename_i id' s1 hs;simp only[Option.some.injEq] at hs;subst hs;exact absurd hr (hne _ _)
   ·rfl
 | .loop c,m,st,r,hr=>by
  unfold code at hr;have key:∀ (j:Nat) (st:St) {r:Ex×St},gM (code O modes nt m c) j st=some r→Ev fun n=>∀ k,m≤k→∀ j',j≤j'→gM (code (o n) modes nt k c) j' st=some r:=by
   intro j;induction j with
   | zero=>intro st r hr;simp[gM] at hr
   | succ j ih=>
    intro st r hr;unfold gM at hr;split at hr
    ·rename_i s1 h1;refine ((f9 c m st h1).and (ih s1 hr)).imp fun n ⟨k1,k2⟩ k hk j' hj=>?_
     cases j' with
     | zero=>omega
     | succ j'=>
      unfold gM;rw[k1 k hk];exact k2 k hk j' (by omega)
    ·rename_i hne;refine (f9 c m st hr).imp fun n k1 k hk j' hj=>?_
     cases j' with
     | zero=>omega
     | succ j'=>
      unfold gM;rw[k1 k hk];split
      ·rename_i s1 hs;simp only[Option.some.injEq] at hs;subst hs;exact absurd hr (hne _)
      ·rfl
  exact (key m st hr).imp fun n k1 k hk=>by unfold code;exact k1 k hk k hk
end
theorem jN {T:Nat→Option FnIr} {modes:bO}:∀ (n g:Nat) (args:List SU) (r:Ret),df T modes n g args=some r→∀ m,n≤m→df T modes m g args=some r
 | 0,_,_,_,hr,_,_=>by simp[df] at hr
 | n+1,g,args,r,hr,0,hm=>by omega
 | n+1,g,args,r,hr,m+1,hm=>by
  have hO:∀ g args r,df T modes n g args=some r→Ev fun _=>df T modes m g args=some r:=fun g args r hr=>Ev.of fun _=>jN n g args r hr m (by omega)
  have hc:∀ {nt:Nat} {c:Cd} {st:St} {r:Ex×St},code (df T modes n) modes nt n c st=some r→code (df T modes m) modes nt m c st=some r:=fun hr=>by
   obtain ⟨N,hN⟩:=f9 (o:=fun _=>df T modes m) hO _ _ _ hr
   exact hN N (Nat.le_refl _) m (by omega)
  unfold df at hr ⊢;split at hr
  ·cases hr
  ·rename_i fn hT;split at hr
   ·rename_i hsp;split at hr
    ·rename_i hlen;simp only[hsp,hlen,if_true];split at hr
     ·rename_i st h1;rw[hc h1];exact hr
     ·rename_i st h1;rw[hc h1];exact hr
     ·cases hr
    ·cases hr
   ·rename_i hsp;simp only[hsp,if_false];exact hr
noncomputable def fix (T:Nat→Option FnIr) (modes:bO):dH:=fun g args=>
 open Classical in if h : ∃ r n, df T modes n g args = some r then some h.choose else none
theorem fix_iff {T:Nat→Option FnIr} {modes:bO} {g:Nat} {args:List SU} {r:Ret}:fix T modes g args=some r↔∃ n,df T modes n g args=some r:=by
 unfold fix;constructor
 ·intro h;split at h
  ·rename_i he;simp only[Option.some.injEq] at h;subst h;exact he.choose_spec
  ·cases h
 ·rintro ⟨n,hn⟩
  have he:∃ r n,df T modes n g args=some r:=⟨r,n,hn⟩;rw[dif_pos he];obtain ⟨m,hm⟩:=he.choose_spec
  have h1:=jN n g args _ hn (n+m) (by omega)
  have h2:=jN m g args _ hm (n+m) (by omega)
  rw[h1] at h2;exact h2.symm
theorem Hl {T:Nat→Option FnIr} {modes:bO}:∀ g args r,fix T modes g args=some r→Ev fun n=>df T modes n g args=some r:=by
 intro g args r h;obtain ⟨n,hn⟩:=fix_iff.1 h
 exact ⟨n,fun m hm=>jN n g args r hn m hm⟩
theorem pn {T:Nat→Option FnIr} {modes:bO} {g:Nat} {fn:FnIr} (hT:T g=some fn) (hsp:fn.sp=0) {args:List SU} (hlen:args.length=fn.np) (hle:fn.np≤fn.ntmps) {m:Nat} {ex:Ex} {st:St}
  (hc:code (fix T modes) modes fn.ntmps m fn.body (jI fn (aj fn.modes args))=some (ex,st)) (hex:ex= .normal∨ex= .ret) {r:Ret} (hf:cC fn (aj fn.modes args) st=some r):fix T modes g args=some r:=by
 obtain ⟨N,hN⟩:=f9 (o:=df T modes) Hl _ _ _ hc
 refine fix_iff.2 ⟨N+m+1,?_⟩
 have:=hN (N+m) (by omega) (N+m) (by omega)
 unfold df;simp only[hT,hsp,hlen,hle,and_self,if_true,this];rcases hex with rfl | rfl<;>exact hf
theorem mO {T:Nat→Option FnIr} {modes:bO} {g:Nat} {fn:FnIr} (hT:T g=some fn) (hsp:fn.sp≠0) {args:List SU} {r:Ret} (hr:dy fn.sp args=some r):fix T modes g args=some r:=by
 refine fix_iff.2 ⟨1,?_⟩
 unfold df;simp only[hT,hsp,if_false];exact hr
end Go.Vm
end
section
namespace Go.Vm
def cU:List (Nat×SU)→Nat→SU
 | [],_=>dead
 | (k,s)::m,i=>if i=k then s else cU m i
def ins:List (Nat×SU)→Nat→SU→List (Nat×SU)
 | [],i,s=>[(i,s)]
 | (k,t)::m,i,s=>if i=k then (i,s)::m else if i < k then (i,s)::(k,t)::m else (k,t)::ins m i s
def del:List (Nat×SU)→Nat→List (Nat×SU)
 | [],_=>[]
 | (k,t)::m,i=>if i=k then del m i else (k,t)::del m i
def kil (ks:List Nat):List (Nat×SU)→List (Nat×SU)
 | []=>[]
 | (k,s)::m=>if ks.contains k then kil ks m else (k,qj ks (lU s))::kil ks m
def los:List (Nat×SU)→List (Nat×SU)
 | []=>[]
 | (k,s)::m=>(k,vj s)::los m
def S (L:Nat) (m:List (Nat×SU)):St:=(List.range L).map (cU m)
theorem rg (L:Nat) (m:List (Nat×SU)):(S L m).length=L:=by simp[S]
theorem l8 (L:Nat) (m:List (Nat×SU)) (i:Nat):(S L m)[i]?=if i < L then some (cU m i) else none:=by
 unfold S;rw[List.getElem?_map]
 split
 ·rename_i h;rw[List.getElem?_range h];rfl
 ·rename_i h;rw[List.getElem?_eq_none (by simpa using h)];rfl
theorem uM {L:Nat} {m:List (Nat×SU)} {st:St} (hl:st.length=L) (h:∀ i,i < L→st[i]?=some (cU m i)):st=S L m:=by
 apply List.ext_getElem?;intro i;rw[l8];split
 ·rename_i hi;exact h i hi
 ·rename_i hi;exact List.getElem?_eq_none (by omega)
theorem x8:∀ (m:List (Nat×SU)) (i j:Nat) (s:SU),cU (ins m i s) j=if j=i then s else cU m j
 | [],i,j,s=>by simp[ins,cU]
 | (k,t)::m,i,j,s=>by
  unfold ins;split
  ·rename_i h;subst h;simp only[cU];split<;>rfl
  ·split
   ·simp only[cU]
   ·rename_i h1 h2;simp only[cU];rw[x8 m i j s];split
    ·rename_i h3;subst h3;rw[if_neg (fun e=>h1 e.symm)]
    ·rfl
theorem tw:∀ (m:List (Nat×SU)) (i j:Nat),cU (del m i) j=if j=i then dead else cU m j
 | [],i,j=>by simp[del,cU]
 | (k,t)::m,i,j=>by
  unfold del;split
  ·rename_i h;subst h;rw[tw m i j];split
   ·rfl
   ·rename_i h;simp[cU,h]
  ·rename_i h1;simp only[cU];rw[tw m i j];split
   ·rename_i h3;subst h3;rw[if_neg (fun e=>h1 e.symm)]
   ·rfl
theorem AZ (L:Nat) (m:List (Nat×SU)) (i:Nat) (s:SU):(S L m).set i s=S L (ins m i s):=by
 refine uM (by simp[rg]) fun j hj=>?_
 rw[x8,List.getElem?_set,rg,l8,if_pos hj]
 by_cases h:i=j
 ·subst h;simp[hj]
 ·rw[if_neg h,if_neg (fun e=>h e.symm)]
theorem Gr (L:Nat) (m:List (Nat×SU)) (i:Nat):(S L m).set i dead=S L (del m i):=by
 refine uM (by simp[rg]) fun j hj=>?_
 rw[tw,List.getElem?_set,rg,l8,if_pos hj]
 by_cases h:i=j
 ·subst h;simp[hj]
 ·rw[if_neg h,if_neg (fun e=>h e.symm)]
theorem tz (ks:List Nat):∀ (m:List (Nat×SU)) (j:Nat),cU (kil ks m) j=if ks.contains j then dead else qj ks (lU (cU m j))
 | [],j=>by simp[kil,cU,dead,lU,qj]
 | (k,s)::m,j=>by
  unfold kil;split
  ·rename_i h;rw[tz ks m j];split
   ·rfl
   ·rename_i hj;simp only[cU];rw[if_neg (fun e=>by subst e;exact hj h)]
  ·rename_i h;simp only[cU];rw[tz ks m j];split
   ·rename_i e;subst e;rw[if_neg h]
   ·rfl
theorem tk (ks:List Nat):∀ (st:St) (c i:Nat),(kz ks c st)[i]?=(st[i]?).map fun s=>if ks.contains (c+i) then dead else qj ks (lU s)
 | [],_,_=>by simp[kz]
 | s::r,c,0=>by simp[kz]
 | s::r,c,i+1=>by
  simp only[kz,List.getElem?_cons_succ]
  rw[tk ks r (c+1) i,show c+1+i=c+(i+1) by omega]
theorem tm (ks:List Nat):∀ (st:St) (c:Nat),(kz ks c st).length=st.length
 | [],_=>rfl
 | s::r,c=>by simp[kz,tm ks r (c+1)]
theorem CX (nt L:Nat) (ks:List Nat) (m:List (Nat×SU)):lI nt ks (S L m)=S L (kil (bf nt::ks) m):=by
 unfold lI;refine uM (by rw[tm,rg]) fun j hj=>?_
 rw[tk,l8,if_pos hj,tz,Nat.zero_add];rfl
theorem x9:∀ (m:List (Nat×SU)) (j:Nat),cU (los m) j=vj (cU m j)
 | [],j=>by simp[los,cU,dead,vj]
 | (k,s)::m,j=>by
  simp only[los,cU];rw[x9 m j];split<;>rfl
theorem CY (L:Nat) (m:List (Nat×SU)):lose (S L m)=S L (los m):=by
 unfold lose;refine uM (by simp[rg]) fun j hj=>?_
 rw[List.getElem?_map,l8,if_pos hj,x9]
 rfl
def iC:Nat→List SU→List (Nat×SU)
 | _,[]=>[]
 | i,s::r=>(i,s)::iC (i+1) r
theorem qA:∀ (l:List SU) (c j:Nat),cU (iC c l) j=if c≤j then (l[j - c]?).getD dead else dead
 | [],c,j=>by simp[iC,cU]
 | s::r,c,j=>by
  simp only[iC,cU];rw[qA r (c+1) j];by_cases h:j=c
  ·subst h;simp
  ·rw[if_neg h];by_cases h2:c≤j
   ·rw[if_pos h2,if_pos (by omega),show j - c=(j - (c+1))+1 by omega,List.getElem?_cons_succ]
   ·rw[if_neg h2,if_neg (by omega)]
theorem rG:∀ (m:List (Nat×SU)) (k j:Nat) (s:SU),j≠k→cU (m++[(k,s)]) j=cU m j
 | [],k,j,s,h=>by simp[cU,h]
 | (k',t)::m,k,j,s,h=>by
  simp only[List.cons_append,cU];rw[rG m k j s h]
theorem rE:∀ (m:List (Nat×SU)) (k:Nat) (s:SU),(∀ t,(k,t)∉m)→cU (m++[(k,s)]) k=s
 | [],k,s,_=>by simp[cU]
 | (k',t)::m,k,s,h=>by
  simp only[List.cons_append,cU];rw[if_neg (fun e=>h t (by rw[e];exact List.mem_cons_self ..)),rE m k s (fun t ht=>h t (List.mem_cons_of_mem _ ht))]
theorem BV {fn:FnIr} {args:List SU} (hl:args.length=fn.np) (hle:fn.np≤fn.ntmps) (hb:∀ s r t,args=s::r→s.k≠ .box t):jI fn args=S (2 * fn.ntmps+2) (iC 0 args):=by
 have hs:jI fn args=(args++List.replicate (fn.ntmps - fn.np) dead)++(List.replicate (fn.ntmps+1) dead++[dead]):=by
  unfold jI;split
  ·rename_i t cs r;exact absurd rfl (hb _ _ _ rfl)
  ·rfl
 rw[hs];refine uM (by simp;omega) fun j hj=>?_
 rw[qA,if_pos (Nat.zero_le _),Nat.sub_zero];by_cases h:j < args.length
 ·rw[List.append_assoc,List.getElem?_append_left h]
  rw[List.getElem?_eq_getElem h];rfl
 ·rw[List.append_assoc,List.getElem?_append_right (by omega),List.getElem?_eq_none (Nat.le_of_not_lt h)]
  have:(List.replicate (fn.ntmps - fn.np) dead++(List.replicate (fn.ntmps+1) dead++[dead]))=List.replicate (fn.ntmps - fn.np+(fn.ntmps+1)+1) dead:=by
   rw[show ([dead]:List SU)=List.replicate 1 dead from rfl,List.replicate_append_replicate,List.replicate_append_replicate]
   congr 1
  rw[this,List.getElem?_replicate,if_pos (by omega)]
  rfl
theorem vS {fn:FnIr} {t:Unit} {cs:List (Cell Unit)} {r:List SU} (hl:r.length+1=fn.np) (hle:fn.np≤fn.ntmps):jI fn (⟨.box t,cs⟩::r)=S (2 * fn.ntmps+2) (iC 0 (⟨.ptr (bf fn.ntmps+1) 0,[]⟩::r)++[(bf fn.ntmps+1,⟨.box t,cs⟩)]):=by
 have hs:jI fn (⟨.box t,cs⟩::r)=(⟨.ptr (bf fn.ntmps+1) 0,[]⟩::(r++List.replicate (fn.ntmps - fn.np) dead))++(List.replicate (fn.ntmps+1) dead++[⟨.box t,cs⟩]):=rfl;rw[hs];have hr:r.length+1≤fn.ntmps:=by omega
 have key:∀ (l:List SU) (x:SU),l.length=2 * fn.ntmps+1→∀ m,(∀ j,j < 2 * fn.ntmps+1→l[j]?=some (cU m j))→(∀ t,(2 * fn.ntmps+1,t)∉m)→l++[x]=S (2 * fn.ntmps+2) (m++[(2 * fn.ntmps+1,x)]):=by
  intro l x hlen m hm hno;refine uM (by simp;omega) fun j hj=>?_
  by_cases h:j < 2 * fn.ntmps+1
  ·rw[List.getElem?_append_left (by omega),hm j h,rG _ _ _ _ (by omega)]
  ·have:j=2 * fn.ntmps+1:=by omega
   subst this;rw[List.getElem?_append_right (by omega),hlen,rE _ _ _ hno]
   simp
 have hlk:bf fn.ntmps+1=2 * fn.ntmps+1:=rfl;rw[hlk,←List.append_assoc];have hmem:∀ (l:List SU) (c j:Nat) (t:SU),(j,t)∈iC c l→j < c+l.length:=by
  intro l;induction l with
  | nil=>intro c j t h;simp[iC] at h
  | cons s l ih=>
   intro c j t h;simp only[iC,List.mem_cons,Prod.mk.injEq] at h;rcases h with ⟨rfl,_⟩ | h
   ·simp
   ·have:=ih _ _ _ h;simp;omega
 refine key _ _ (by simp;omega) _ (fun j hj=>?_) (fun t ht=>?_)
 ·rw[qA,if_pos (Nat.zero_le _),Nat.sub_zero];have e:((⟨.ptr (2 * fn.ntmps+1) 0,[]⟩:SU)::(r++List.replicate (fn.ntmps - fn.np) dead))++List.replicate (fn.ntmps+1) dead=(⟨.ptr (2 * fn.ntmps+1) 0,[]⟩::r)++List.replicate (fn.ntmps - fn.np+(fn.ntmps+1)) dead:=by
   rw[List.cons_append,List.cons_append,List.append_assoc,List.replicate_append_replicate]
  rw[e];by_cases h:j < ((⟨.ptr (2 * fn.ntmps+1) 0,[]⟩:SU)::r).length
  ·rw[List.getElem?_append_left h,List.getElem?_eq_getElem h];rfl
  ·rw[List.getElem?_append_right (by omega),List.getElem?_eq_none (Nat.le_of_not_lt h),List.getElem?_replicate]
   simp only[List.length_cons] at h ⊢;rw[if_pos (by omega)]
   rfl
 ·have:=hmem _ _ _ _ ht
  simp only[List.length_cons] at this;omega
end Go.Vm
end
section
namespace Go.Vm
structure Prims where
 add:IntKind→Int→Int→Int
 sub:IntKind→Int→Int→Int
 mul:IntKind→Int→Int→Int
 arith:BinOp→IntKind→Int→Int→Option V
 eq:Int→Int→Bool
 ne:Int→Int→Bool
 lt:Int→Int→Bool
 le:Int→Int→Bool
 gt:Int→Int→Bool
 ge:Int→Int→Bool
 neg:IntKind→Int→Int
 conv:IntKind→Int→Int
 mn:Int→Int→Int
 mx:Int→Int→Int
 not:Bool→Bool
 beq:Bool→Bool→Bool
 len:List (List V)→Int
 at':Nat→List (List V)→Int→Option (Nat×List V)
 ln:List (List V)→Nat
 bd:Nat→Int→Option Nat
 cut:Nat→List (List V)→Nat→Nat→Option (List (List V))
 app:Nat→List (List V)→List (List V)→Option (List (List V))
 allS:List (List V)→Bool
 isNil:List (List V)→Bool
 mks:List V→Int→Int→Option (List (List V))
 set:List (List V)→Nat→List V→Option (List (List V))
def rX (k:Nat) (es:List (List V)) (i:Int):Option (Nat×List V):=match idx es.length i with
 | none=>none
 | some j=>match es[j]? with
  | none=>none
  | some e=>if k≠0∧e.length=k∧es.all (fun e=>e.length=k) then some (j * k,e) else none
def uq (n:Nat) (i:Int):Option Nat:=if 0≤i∧i≤n then some i.toNat else none
def q8 (k:Nat) (es:List (List V)) (h l:Nat):Option (List (List V)):=if es.all (fun e=>e.length=k) then some ((es.take h).drop l) else none
def lX (k:Nat) (es ys:List (List V)):Option (List (List V)):=if eM k es∧eM k ys∧es.length+ys.length≤lim then some (es++ys) else none
def ur (es:List (List V)):Bool:=match es with
 | []=>true
 | _::_=>false
def vT (z:List V) (n m:Int):Option (List (List V)):=if n=m∧0≤n∧n≤lim∧ !z.isEmpty then some (List.replicate n.toNat z) else none
def std:Prims where
 add k x y:=k.wrap (x+y)
 sub k x y:=k.wrap (x - y)
 mul k x y:=k.wrap (x * y)
 arith op k x y:=match op with
  | .shl=>qW .shl k x y
  | .shr=>qW .shr k x y
  | op=>p6 op k x y
 eq x y:=x== y
 ne x y:=x != y
 lt x y:=x < y
 le x y:=x≤y
 gt x y:=x > y
 ge x y:=x≥y
 neg k n:=k.wrap (0 - n)
 conv k n:=k.wrap n
 mn a b:=if b < a then b else a
 mx a b:=if b > a then b else a
 not b:= !b
 beq a b:=a== b
 len es:=es.length
 at':=rX
 ln es:=es.length
 bd:=uq
 cut:=q8
 app:=lX
 allS:=cn
 isNil:=ur
 mks:=vT
 set:=bh
def Hr:BinOp→Bool
 | .shl | .shr=>true
 | _=>false
def G7 (P:Prims) (op:BinOp) (a b:V):FM V:=match a,b with
 | .int k x, .int k' y=>
  match Hr op||decide (k=k') with
  | true=>match op with
   | .add=> .ret (.int k (P.add k x y))
   | .sub=> .ret (.int k (P.sub k x y))
   | .mul=> .ret (.int k (P.mul k x y))
   | .eql=> .ret (.bool (P.eq x y))
   | .neq=> .ret (.bool (P.ne x y))
   | .lss=> .ret (.bool (P.lt x y))
   | .leq=> .ret (.bool (P.le x y))
   | .gtr=> .ret (.bool (P.gt x y))
   | .geq=> .ret (.bool (P.ge x y))
   | op=>opt (P.arith op k x y)
  | false=> .fail
 | _,_=> .fail
def p7 (f:Int→Option Nat) (d:Nat):Option Opd→FM Nat
 | none=> .ret d
 | some x=>(dX x).bind fun y=>opt (f y.2)
def lZ (P:Prims) (es:List (List V)) (y:Opd):FM (List (List V)×Bool):=
 match P.allS es with
 | true=> .ret (es,true)
 | false=>(take y).bind fun z=>match z with
  | (false,[⟨.row _ es', .ow false⟩])=> .ret (es',true)
  | _=> .ret (es,false)
def o8 (P:Prims) (k:Nat) (ok:Bool) (es ys:List (List V)) (f:Fl):FM SU:=
 match P.app k es ys with
 | none=> .fail
 | some es'=>match f with
  | .ow false=> .ret ⟨.val,[⟨.row () es',jZ ok⟩]⟩
  | .ow true=>match decide (k=1),P.allS ys with
   | true,true=> .ret ⟨.val,[⟨.row () es', .ow (P.isNil ys)⟩]⟩
   | _,_=> .fail
  | .nl=>match P.isNil ys with
   | true=> .ret ⟨.val,[⟨.row () es', .nl⟩]⟩
   | false=> .ret ⟨.val,[⟨.row () es',jZ ok⟩]⟩
  | _=> .fail
def A8 (P:Prims) (nt:Nat):Ir→FM SU
 | .pick c a b=>(f8 c).bind fun c=>match c with
  | true=>(f8 a).bind fun v=> .ret (hJ (.bool v))
  | false=>(f8 b).bind fun v=> .ret (hJ (.bool v))
 | .bin op x y=>(one x).bind fun a=>(one y).bind fun b=>(G7 P op a.v b.v).bind fun v=> .ret (hJ v)
 | .beq neg x y=>(f8 x).bind fun a=>(f8 y).bind fun b=> .ret (hJ (.bool (match neg with | true=>P.not (P.beq a b) | false=>P.beq a b)))
 | .un op x=>(one x).bind fun a=>(match op,a.v with
  | .neg, .int k n=> .ret (hJ (.int k (P.neg k n)))
  | .not, .bool b=> .ret (hJ (.bool (P.not b)))
  | _,_=> .fail)
 | .conv k x=>(dX x).bind fun y=> .ret (hJ (.int k (P.conv k y.2)))
 | .len ofStr x=>(one x).bind fun c=>
  match ofStr,c.v with
  | false, .row _ es=> .ret (hJ (.int .i64 (P.len es)))
  | true, .str s=> .ret (hJ (.int .i64 s.size))
  | _,_=> .fail
 | .min x y=>(dX x).bind fun a=>(dX y).bind fun b=> .ret (hJ (.int a.1 (P.mn a.2 b.2)))
 | .max x y=>(dX x).bind fun a=>(dX y).bind fun b=> .ret (hJ (.int a.1 (P.mx a.2 b.2)))
 | .append k x y=>(rU y).bind fun ys=>
  match decide (k=0) with
  | true=> .fail
  | false=>(one x).bind fun c=>
   match c.v,c.f with
   | .row _ es, .cp .own s' c' (some ix)=>
    (eP s').bind fun sl=>
    (eP (bf nt)).bind fun l=>
    match qt sl c',l.k with
    | some (.ow false), .dead=>
     match P.allS es,P.allS ys.1,P.app k es ys.1 with
     | true,true,some es'=>(kE (bf nt) ⟨.und,[]⟩).bind fun _=> .ret ⟨.val,[⟨.row () es', .ap s' c' ix⟩]⟩
     | _,_,_=> .fail
    | _,_=> .fail
   | _,_=>
    (take x).bind fun xs=>
    (lZ P ys.1 y).bind fun z=>
    match xs with
    | (false,[⟨.row _ es,f⟩])=>o8 P k z.2 es z.1 f
    | _=> .fail
 | .slice k x lo hi=>(rU x).bind fun r=>
  (p7 (P.bd (P.ln r.1)) (P.ln r.1) hi).bind fun h=>(p7 (P.bd h) 0 lo).bind fun l=>
  (opt (P.cut k r.1 h l)).bind fun es=> .ret ⟨.val,[⟨.row () es,gc r.2⟩]⟩
 | .iaddr k x i=>(rU x).bind fun r=>(dX i).bind fun n=>
  (opt (P.at' k r.1 n.2)).bind fun e=>
   .ret ⟨.ept () (match r.2 with | .cp _ s c none=>some (s,c) | _=>none) e.1,e.2.map (ph r.2)⟩
 | .mkslice z l c=>(dX l).bind fun n=>(dX c).bind fun m=>(opt (P.mks z n.2 m.2)).bind fun es=> .ret ⟨.val,[⟨.row () es, .ow false⟩]⟩
 | op=>bn nt op
theorem bF {α β:Type} {p:FM α} {f g:α→FM β} (h:∀ a,f a=g a):p.bind f=p.bind g:=by
 have:f=g:=funext h
 rw[this]
theorem FM.bind_assoc {α β γ:Type}:∀ (p:FM α) (f:α→FM β) (g:β→FM γ),(p.bind f).bind g=p.bind fun x=>(f x).bind g
 | .ret a,f,g=>rfl
 | .get i k,f,g=>by
  simp only[FM.bind]
  congr 1
  funext s
  exact FM.bind_assoc (k s) f g
 | .set i s k,f,g=>by
  simp only[FM.bind]
  congr 1
  exact FM.bind_assoc k f g
 | .fail,f,g=>rfl
theorem C8 (op:BinOp) (a b:V):G7 std op a b=opt (C9 op a b):=by
 unfold G7 C9;split
 ·rename_i k x k' y;by_cases hk:k=k'
  ·subst hk;cases op<;>simp[Hr,std,p6,opt]
  ·cases op<;>simp[Hr,std,hk,opt]
 ·rename_i h;split
  ·rename_i k x k' y;exact absurd rfl (h k x k' y rfl)
  ·rfl
theorem uO (n d:Nat) (o:Option Opd):p7 (uq n) d o=sC n d o:=by
 unfold p7 sC;cases o with
 | none=>rfl
 | some x=>
  refine bF fun y=>?_
  unfold uq;split<;>rfl
theorem uL (es:List (List V)) (y:Opd):lZ std es y=jn es y:=by
 unfold lZ jn;show (match cn es with | true=>_ | false=>_)=_
 cases cn es<;>rfl
theorem xp (k:Nat) (ok:Bool) (es ys:List (List V)) (f:Fl):o8 std k ok es ys f=nD k ok es ys f:=by
 unfold o8 nD;show (match lX k es ys with | none=>_ | some es'=>_)=_
 unfold lX;split
 ·rename_i h;split at h
  ·cases h
  ·rename_i hc;rw[if_neg hc]
 ·rename_i es' h;split at h
  ·rename_i hc;rw[if_pos hc];simp only[Option.some.injEq] at h;subst h;split
   ·rfl
   ·show (match decide (k=1),cn ys with | true,true=>_ | _,_=>_)=_
    by_cases h1:k=1
    ·cases h2:cn ys
     ·simp[h1]
     ·simp only[h1,decide_true,and_self,if_true,std,ur];cases ys<;>rfl
    ·simp[h1]
   ·show (match ur ys with | true=>_ | false=>_)=_
    cases ys<;>rfl
   ·rename_i h1 h2 h3;split
    ·exact (h1 rfl).elim
    ·exact (h2 rfl).elim
    ·exact (h3 rfl).elim
    ·rfl
  ·cases h
theorem Ac (nt:Nat) (op:Ir):A8 std nt op=bn nt op:=by
 cases op with
 | pick c a b=>
  refine bF fun c=>?_
  cases c<;>rfl
 | bin op x y=>
  refine bF fun a=>bF fun b=>?_
  rw[C8]
 | beq neg x y=>
  refine bF fun a=>bF fun b=>?_
  cases neg<;>rfl
 | un op x=>
  refine bF fun a=>?_
  obtain ⟨v,f⟩:=a
  cases op<;>cases v<;>rfl
 | conv k x=>rfl
 | len ofStr x=>rfl
 | min x y=>rfl
 | max x y=>rfl
 | append k x y=>
  refine bF fun ys=>?_
  by_cases hk:k=0
  ·simp[hk]
  ·simp only[hk,decide_false,if_false];refine bF fun c=>?_
   have other:((take x).bind fun xs=>(lZ std ys.1 y).bind fun z=>match xs with
     | (false,[⟨.row _ es,f⟩])=>o8 std k z.2 es z.1 f
     | _=> .fail)=((take x).bind fun xs=>(jn ys.1 y).bind fun z=>match xs with
     | (false,[⟨.row _ es,f⟩])=>nD k z.2 es z.1 f
     | _=> .fail):=by
    refine bF fun xs=>?_
    rw[uL];refine bF fun z=>?_
    split
    ·rw[xp]
    ·rfl
   have main:∀ (es:List (List V)) (s' c' ix:Nat),(((eP s').bind fun sl=>(eP (bf nt)).bind fun l=>match qt sl c',l.k with
     | some (.ow false), .dead=>(match std.allS es,std.allS ys.1,std.app k es ys.1 with
      | true,true,some es'=>(kE (bf nt) ⟨.und,[]⟩).bind fun _=>(FM.ret ⟨.val,[⟨.row () es', .ap s' c' ix⟩]⟩:FM SU)
      | _,_,_=> .fail)
     | _,_=> .fail):FM SU)=((eP s').bind fun sl=>(eP (bf nt)).bind fun l=>match qt sl c',l.k with
     | some (.ow false), .dead=>if cn es∧cn ys.1∧eM k es∧eM k ys.1∧es.length+ys.1.length≤lim then (kE (bf nt) ⟨.und,[]⟩).bind fun _=>(FM.ret ⟨.val,[⟨.row () (es++ys.1), .ap s' c' ix⟩]⟩:FM SU) else .fail
     | _,_=> .fail):=by
    intro es s' c' ix;refine bF fun sl=>bF fun l=>?_
    split
    ·show (match cn es,cn ys.1,lX k es ys.1 with | true,true,some es'=>_ | _,_,_=>_)=_
     unfold lX;cases h1:cn es with
     | false=>simp
     | true=>cases h2:cn ys.1 with
      | false=>simp
      | true=>
       simp only[true_and];by_cases hd:eM k es=true∧eM k ys.1=true∧es.length+ys.1.length≤lim
       ·simp only[hd,and_self,if_true]
       ·simp only[hd,if_false]
    ·rfl
   obtain ⟨v,f⟩:=c
   cases v with
   | row t es=>
    cases f with
    | cp m s' c' ix=>
     cases ix with
     | some ix=>cases m with
      | own=>exact main es s' c' ix
      | grn=>exact other
      | chg=>exact other
     | none=>cases m<;>exact other
    | _=>exact other
   | _=>exact other
 | slice k x lo hi=>
  refine bF fun r=>?_
  show (p7 (uq r.1.length) r.1.length hi).bind _=_;rw[uO];refine bF fun h=>?_
  show (p7 (uq h) 0 lo).bind _=_;rw[uO];refine bF fun l=>?_
  show (opt (q8 k r.1 h l)).bind _=_;unfold q8;split<;>rfl
 | iaddr k x i=>
  refine bF fun r=>bF fun n=>?_
  show (opt (rX k r.1 n.2)).bind _=(opt (idx r.1.length n.2)).bind fun j=>(opt r.1[j]?).bind fun e=>_
  unfold rX;cases h1:idx r.1.length n.2 with
  | none=>rfl
  | some j=>
   simp only;show _=(opt r.1[j]?).bind fun e=>_
   cases h2:r.1[j]? with
   | none=>rfl
   | some e=>
    simp only;show _=(if _ then _ else _)
    by_cases hc:k≠0∧e.length=k∧(r.1.all fun e=>decide (e.length=k))=true
    ·rw[if_pos hc,if_pos hc];rfl
    ·rw[if_neg hc,if_neg hc];rfl
 | mkslice z l c=>
  refine bF fun n=>bF fun m=>?_
  show (opt (vT z n.2 m.2)).bind _=_;unfold vT;split<;>rfl
 | _=>rfl
end Go.Vm
end
