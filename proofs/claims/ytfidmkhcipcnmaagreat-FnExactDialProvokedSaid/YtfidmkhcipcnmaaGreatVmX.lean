/- The library's contracts, as the value machine takes them. -/
import Derived.Test.YtfidmkhcipcnmaaGreatVmF
import Derived.Shelf.Spec.SlicesGrow
set_option maxHeartbeats 4000000
set_option maxRecDepth 10000
set_option linter.unusedVariables false
set_option linter.unusedSimpArgs false
section
namespace Go.Vm
open Go.Proofs Go.Shelf
theorem za {args:List SU} {ret:Ret} (h:dy 2 args=some ret):∃ n f,args=[⟨.val,[⟨.row () [], .nl⟩]⟩,⟨.val,[⟨.int .i64 n,f⟩]⟩]∧0 < n∧n≤lim∧ret=⟨[⟨.val,[⟨.row () [], .ow true⟩]⟩],[],none⟩:=by
 match args,h with
 | [⟨.val,[⟨.row _ [], .nl⟩]⟩,⟨.val,[⟨.int .i64 n,f⟩]⟩],h=>
  simp only[dy] at h;split at h
  ·rename_i hc;simp only[Option.some.injEq] at h;exact ⟨n,f,rfl,hc.1,hc.2,h.symm⟩
  ·cases h
theorem ws {P:Program} {sid:Nat→Nat} {g:Nat} {ρ:Ren} (L:Lays8.n4 P ρ) (hg:sid g=ρ.f 4) {i0:TypeInfo} {z:Value} (hi0:P.info? (ρ.t 25)=some i0) (hz0:i0.zero=some z) (hs0:i0.size=1) (hb0:i0.bytes≤128) (hzc:z.cells.size=1):jK P sid g 2:=by
 intro E w args ret hP hs he hr
 replace hr:dy 2 (args.map Sl.er)=some ret:=hr
 obtain ⟨n,f,hargs,hn0,hn1,rfl⟩:=za hr
 obtain ⟨s1,rest,rfl,hs1,hrest⟩:=List.map_eq_cons_iff.1 hargs
 obtain ⟨s2,rest2,rfl,hs2,hrest2⟩:=List.map_eq_cons_iff.1 hrest
 have hnil:rest2=[]:=by simpa using hrest2
 subst hnil;obtain ⟨k1,cs1⟩:=s1
 obtain ⟨k2,cs2⟩:=s2
 simp only[Sl.er,Sl.mk.injEq] at hs1 hs2;obtain ⟨hk1,hcs1⟩:=hs1
 obtain ⟨hk2,hcs2⟩:=hs2
 obtain ⟨c1,rfl,hc1⟩:=List.map_eq_singleton_iff.1 hcs1
 obtain ⟨c2,rfl,hc2⟩:=List.map_eq_singleton_iff.1 hcs2
 obtain ⟨v1,f1⟩:=c1
 obtain ⟨v2,f2⟩:=c2
 simp only[Cell.er,Cell.mk.injEq] at hc1 hc2;obtain ⟨hv1,rfl⟩:=hc1
 obtain ⟨hv2,rfl⟩:=hc2
 cases k1<;>simp[Kd.er] at hk1
 cases k2<;>simp[Kd.er] at hk2
 have hce:=he.cells _ (List.mem_cons_self ..) _ (List.mem_cons_self ..);obtain ⟨k,hk⟩:=hce
 simp only at hk;subst hk;have hv2':v2= .int .i64 n:=by cases v2<;>simp_all[VA.er]
 subst hv2';obtain ⟨m,rfl⟩:∃ m:Nat,n=(m:Int):=⟨n.toNat,by omega⟩
 have hm0:0 < m:=by omega
 have hm1:m≤1099511627776:=by simp only[lim] at hn1;omega
 have hval:[(⟨.val,[⟨.row ⟨none,0,k⟩ [], .nl⟩]⟩:SA),⟨.val,[⟨.int .i64 (m:Int),f2⟩]⟩].map (bm sid)=[.slice none 0 0, .int .i64 (m:Int)]:=rfl;rw[hval,hg];refine ⟨L.f4.enters rfl _ _,?_⟩
 have hbig:m * i0.bytes≤1099511627776 * 128:=Nat.mul_le_mul hm1 hb0;refine Calls.mono (Any8.slices_Grow_grow L i0 z hi0 hz0 (by omega) none 0 0 m [] w (Nat.le_refl _) (by omega) (by rw[Nat.zero_add];omega) (by omega) (by simp) (fun _=>rfl) (by simp)) ?_
 rintro e w' ⟨rfl,rfl⟩
 rw[Nat.zero_add,Nat.sub_zero];have hge:m≤grownCap w m 0 (ρ.t 25):=grownCap_ge w _ _ _;have hle:grownCap w m 0 (ρ.t 25)≤maxLen:=grownCap_le_maxLen w m 0 _ (by unfold maxLen;omega)
 obtain ⟨cap,hcap⟩:∃ cap,cap=grownCap w m 0 (ρ.t 25):=⟨_,rfl⟩
 rw[←hcap] at hge hle ⊢;obtain ⟨cur,hcur⟩:∃ cur,cur=(#[]:Array Value)++Builtin.zeroCells z.cells m++Builtin.zeroCells z.cells (cap - m):=⟨_,rfl⟩
 have hsz:cur.size=cap:=by rw[hcur,Array.size_append,Array.size_append,size_zeroCells,size_zeroCells,hzc];simp;omega
 rw[show (([]:List Value).toArray++Builtin.zeroCells z.cells m++Builtin.zeroCells z.cells (cap - m))=cur from hcur.symm]
 have hnew:(w.drew.alloc (.cells cur (ρ.t 25))).heap[w.heap.size]?=some (.cells cur (ρ.t 25) (0,0)):=gX w.drew _;have hlt:w.heap.size < (w.drew.alloc (.cells cur (ρ.t 25))).heap.size:=eF w.drew _;have hold:∀ j,¬E.old w.heap.size j:=fun j hj=>Nat.lt_irrefl _ (he.olt _ j hj)
 have hbase:=he.base;refine ⟨_,[⟨.val,[⟨.row ⟨some ⟨w.heap.size,0,none⟩,cap,1⟩ [], .ow true⟩]⟩],[],E.old,rfl,?_⟩
 refine { er:=rfl,val:=rfl,kinds:=?_,flags:=?_,cells:=?_,box:=?_,cnt:=?_,own:=?_,clt:=?_,cbase:=?_,frame:=?_,outer:=rfl,outok:=by simp,left:=by simp }
 ·intro s hs;simp at hs;subst hs;exact .inl ⟨rfl,_,rfl⟩
 ·intro s hs x hx;simp at hs;subst hs;simp at hx;subst hx;exact .inr (.inr (.inl ⟨_,rfl⟩))
 ·intro s hs x hx;simp at hs;subst hs;simp at hx;subst hx;refine ⟨rfl,?_,?_⟩
  ·exact ⟨w.heap.size,cap,cur,ρ.t 25,rfl,hnew,hle,hsz,hold⟩
  ·intro b hb;simp[VA.blks,gh] at hb;omega
 ·intro s hs t ht;simp at hs;subst hs;cases ht
 ·intro b;simp only[List.flatMap_cons,List.flatMap_nil,Sl.own,Sl.boxOwn,Cell.own,aN,if_true,VA.blks,gh,List.append_nil,List.nil_append,List.count_nil,Nat.add_zero];rw[List.count_cons,List.count_nil];split<;>omega
 ·intro b hb;simp[Sl.own,Sl.boxOwn,Cell.own,aN,VA.blks,gh] at hb;subst hb;exact ⟨by omega,hlt⟩
 ·intro b j hb;exact Nat.lt_trans (he.olt b j hb) hlt
 ·intro b j hb;exact .inr (.inl hb)
 ·exact ⟨rfl,rfl,rfl,Nat.le_of_lt hlt,fun b h _=>(cN w.drew _).block b (by show b < w.heap.size;omega)⟩
theorem H6 {P:Program} {sid:Nat→Nat} {canon:Nat→Option Nat} {g:Nat} {ir:FnIr} {ρ:Ren} (L:Lays8.n4 P ρ) (hsp:ir.sp=2) (hg:sid g=ρ.f 4) {i0:TypeInfo} {z:Value} (hi0:P.info? (ρ.t 25)=some i0) (hz0:i0.zero=some z) (hs0:i0.size=1) (hb0:i0.bytes≤128) (hzc:z.cells.size=1):E7 P sid canon (g,ir):=by
 refine .inr ⟨by show ir.sp≠0;rw[hsp];decide,?_⟩
 show jK P sid g ir.sp;rw[hsp];exact ws L hg hi0 hz0 hs0 hb0 hzc
end Go.Vm
end
