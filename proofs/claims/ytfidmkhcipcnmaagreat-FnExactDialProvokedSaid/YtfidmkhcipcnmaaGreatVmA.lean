/- The value machine, part 1: code read as work on values, and its soundness over memory. -/
import GoSem.Core.Code
import GoSem.Core.View
import Derived.Below
import Derived.Calls
import Derived.Orders
import Derived.Tactics
set_option maxHeartbeats 4000000
set_option maxRecDepth 10000
set_option linter.unusedVariables false
set_option linter.unusedSimpArgs false
section
namespace Go.Vm
inductive VA (α:Type) where
 | int (k:IntKind) (n:Int)
 | bool (b:Bool)
 | str (s:ByteArray)
 | row (t:α) (es:List (List (VA α)))
 | ptr (t:α) (cs:List (VA α))
 | fn (g:Nat) (caps:List (VA α))
 deriving Inhabited
abbrev V:=VA Unit
inductive Ck where
 | own | grn | chg
 deriving DecidableEq,Inhabited
inductive Fl where
 | sc | sp (a c:Nat) | sh | nl | ow (g:Bool) | nw (g:Bool) | mp (i:Nat)
 | cp (m:Ck) (s c:Nat) (ix:Option Nat) | ap (s c ix:Nat) | fr | no | dd
 deriving DecidableEq,Inhabited
structure Cell (α:Type) where
 v:VA α
 f:Fl
 deriving Inhabited
inductive Kd (α:Type) where
 | dead | und | val | agg
 | box (t:α)
 | tup (shape:List (Bool×Nat))
 | ptr (root off:Nat)
 | ept (t:α) (src:Option (Nat×Nat)) (ix:Nat)
 | clo (g:Nat) (roots:List Nat)
 deriving Inhabited
structure Sl (α:Type) where
 k:Kd α
 cs:List (Cell α)
 deriving Inhabited
abbrev SU:=Sl Unit
abbrev St:=List SU
def dead:SU:=⟨.dead,[]⟩
inductive Opd where
 | t (i:Nat)
 | c (agg:Bool) (cs:List V)
 | f (g:Nat)
 deriving Inhabited
inductive Ir where
 | move (x:Opd)
 | assign (x:Opd)
 | clear
 | pick (c a b:Opd)
 | alloc (zs:List V)
 | box (x:Opd)
 | build (zs:List V) (parts:List (Nat×Nat×Opd))
 | bslice (z:List V) (len:Nat) (parts:List (Nat×Opd))
 | load (agg:Bool) (n:Nat) (a:Opd)
 | store (n:Nat) (a x:Opd)
 | rstore (n:Nat) (a x:Opd)
 | bin (op:BinOp) (x y:Opd)
 | beq (neg:Bool) (x y:Opd)
 | un (op:UnOp) (x:Opd)
 | conv (k:IntKind) (x:Opd)
 | call (g:Nat) (args:List Opd)
 | callv (f:Opd) (args:List Opd)
 | len (ofStr:Bool) (x:Opd)
 | append (k:Nat) (x y:Opd)
 | min (x y:Opd)
 | max (x y:Opd)
 | slice (k:Nat) (x:Opd) (lo hi:Option Opd)
 | faddr (off:Nat) (x:Opd)
 | iaddr (k:Nat) (x i:Opd)
 | field (agg:Bool) (off n:Nat) (x:Opd)
 | index (x i:Opd)
 | extract (i:Nat) (x:Opd)
 | nilchk (x:Opd)
 | mkfn (g:Nat) (caps:List Nat)
 | mkslice (z:List V) (l c:Opd)
 | bad
 deriving Inhabited
structure Io where
 dst:Option Nat
 op:Ir
 guard:Option (Nat×Bool)
 anc:List Nat
 deriving Inhabited
inductive Cd where
 | skip
 | region (draw:Bool) (kill0 kill1:List Nat) (ops:List Io)
 | seq (a b:Cd)
 | cond (x:Opd) (a b:Cd)
 | block (id:Nat) (c:Cd)
 | loop (c:Cd)
 | exit (id:Nat)
 | ret
 | bad
 deriving Inhabited
inductive Pm where
 | val | mrow | mbox
 deriving DecidableEq,Inhabited
structure FnIr where
 sp:Nat:=0
 np:Nat
 ntmps:Nat
 res:List (Nat×Option (Bool×Nat))
 modes:List Pm
 body:Cd
 deriving Inhabited
inductive FM (α:Type) where
 | ret (a:α)
 | get (i:Nat) (k:SU→FM α)
 | set (i:Nat) (s:SU) (k:FM α)
 | fail
def FM.bind {α β:Type}:FM α→(α→FM β)→FM β
 | .ret a,f=>f a
 | .get i k,f=> .get i fun s=>(k s).bind f
 | .set i s k,f=> .set i s (k.bind f)
 | .fail,_=> .fail
instance:Monad FM where
 pure:=FM.ret
 bind:=FM.bind
def FM.run {α:Type}:FM α→St→Option (α×St)
 | .ret a,st=>some (a,st)
 | .get i k,st=>match st[i]? with | some s=>(k s).run st | none=>none
 | .set i s k,st=>if i < st.length then k.run (st.set i s) else none
 | .fail,_=>none
def FM.log {α:Type}:FM α→St→List Nat×List Nat
 | .ret _,_=>([],[])
 | .get i k,st=>match st[i]? with | some s=>(i::((k s).log st).1,((k s).log st).2) | none=>([],[])
 | .set i s k,st=>if i < st.length then (i::(k.log (st.set i s)).1,i::(k.log (st.set i s)).2) else ([],[])
 | .fail,_=>([],[])
def eP (i:Nat):FM SU:= .get i .ret
def kE (i:Nat) (s:SU):FM Unit:= .set i s (.ret ())
def opt {α:Type}:Option α→FM α
 | some a=> .ret a
 | none=> .fail
def aY {α:Type}:VA α→Bool
 | .row _ _=>true
 | _=>false
def scal {α:Type}:VA α→Bool
 | .int _ _ | .bool _ | .str _=>true
 | _=>false
def cn {α:Type} (es:List (List (VA α))):Bool:=es.all fun e=>e.all scal
def vals {α:Type} (cs:List (Cell α)):List (VA α):=cs.map (·.v)
def cP (v:V):Cell Unit:=⟨v,if aY v then .nl else .sc⟩
def opd:Opd→FM SU
 | .t i=>eP i
 | .c agg cs=> .ret ⟨if agg then .agg else .val,cs.map cP⟩
 | .f g=> .ret ⟨.val,[⟨.fn g [], .sh⟩]⟩
def cpy (s c:Nat) (x:Cell Unit):Cell Unit:=
 match x.f with
 | .ow false | .nw false=>⟨x.v, .cp .own s c none⟩
 | .ow true | .nw true=>⟨x.v, .cp .grn s c none⟩
 | .mp _=>⟨x.v, .cp .chg s c none⟩
 | _=>x
def sH (s:Nat):Nat→List (Cell Unit)→List (Cell Unit)
 | _,[]=>[]
 | c,x::xs=>cpy s c x::sH s (c+1) xs
def vN (s:SU) (c:Nat) (f:Fl):SU:=
 match s.cs[c]? with
 | some x=>⟨s.k,s.cs.set c ⟨x.v,f⟩⟩
 | none=>s
def sU (s c:Nat) (f:Fl):FM Unit:=(eP s).bind fun sl=>kE s (vN sl c f)
def qt (sl:SU) (c:Nat):Option Fl:=(sl.cs[c]?).map (·.f)
def mU (g:Bool):Fl:=if g then .no else .fr
def uC:Ck→Fl
 | .own=> .fr
 | _=> .no
def kX (s c:Nat) (x:Cell Unit):FM (Cell Unit):=
 match x.f with
 | .ow g | .nw g=>(sU s c (mU g)).bind fun _=> .ret ⟨x.v, .ow g⟩
 | .mp i=>(sU s c .no).bind fun _=> .ret ⟨x.v, .mp i⟩
 | .cp .chg _ _ _=> .ret ⟨x.v, .no⟩
 | .cp m s' c' none=>(eP s').bind fun sl=>
  match qt sl c' with
  | some (.ow g)=>(kE s' (vN sl c' (mU g))).bind fun _=> .ret ⟨x.v, .ow g⟩
  | _=> .ret ⟨x.v,uC m⟩
 | .cp m _ _ _=> .ret ⟨x.v,uC m⟩
 | .ap _ _ _ | .dd=> .fail
 | _=> .ret x
def nV (s:Nat):Nat→Nat→FM (List (Cell Unit))
 | 0,_=> .ret []
 | n+1,c=>(eP s).bind fun sl=>
  match sl.cs[c]? with
  | some x=>(kX s c x).bind fun y=>(nV s n (c+1)).bind fun ys=> .ret (y::ys)
  | none=> .fail
def take (x:Opd):FM (Bool×List (Cell Unit)):=
 (opd x).bind fun sl=>
 (match x with | .t i=>nV i sl.cs.length 0 | _=> .ret sl.cs).bind fun cs=>
 match sl.k with
 | .val=> .ret (false,cs)
 | .agg=> .ret (true,cs)
 | _=> .fail
def one (x:Opd):FM (Cell Unit):=
 (opd x).bind fun sl=>
 match sl.k,sl.cs with
 | .val,[c]=>if c.f= .dd then .fail else .ret c
 | _,_=> .fail
def rU (x:Opd):FM (List (List V)×Fl):=
 (one x).bind fun c=>match c.v,c.f with
 | .row _ _, .ap _ _ _=> .fail
 | .row _ es,f=> .ret (es,f)
 | _,_=> .fail
def dX (x:Opd):FM (IntKind×Int):=
 (one x).bind fun c=>match c.v with
 | .int k n=> .ret (k,n)
 | _=> .fail
def f8 (x:Opd):FM Bool:=
 (one x).bind fun c=>match c.v with
 | .bool b=> .ret b
 | _=> .fail
def hJ (v:V):SU:=⟨.val,[⟨v, .sc⟩]⟩
def p6 (op:BinOp) (k:IntKind) (x y:Int):Option V:=
 match op with
 | .add=>some (.int k (k.wrap (x+y)))
 | .sub=>some (.int k (k.wrap (x - y)))
 | .mul=>some (.int k (k.wrap (x * y)))
 | .quo=>if y=0 then none else some (.int k (k.wrap (x.tdiv y)))
 | .rem=>if y=0 then none else some (.int k (x.tmod y))
 | .and=>some (.int k (k.wrap ((BitVec.ofInt k.bits x&&&BitVec.ofInt k.bits y).toNat)))
 | .or=>some (.int k (k.wrap ((BitVec.ofInt k.bits x|||BitVec.ofInt k.bits y).toNat)))
 | .xor=>some (.int k (k.wrap ((BitVec.ofInt k.bits x ^^^ BitVec.ofInt k.bits y).toNat)))
 | .andNot=>some (.int k (k.wrap ((BitVec.ofInt k.bits x&&&~~~ BitVec.ofInt k.bits y).toNat)))
 | .eql=>some (.bool (x== y))
 | .neq=>some (.bool (x != y))
 | .lss=>some (.bool (x < y))
 | .leq=>some (.bool (x≤y))
 | .gtr=>some (.bool (x > y))
 | .geq=>some (.bool (x≥y))
 | .shl | .shr=>none
def qW (op:BinOp) (k:IntKind) (x y:Int):Option V:=
 if y < 0 then none
 else match op with
  | .shl=>some (.int k (k.wrap (x * 2 ^ (Nat.min y.toNat k.bits))))
  | .shr=>some (.int k (x.fdiv (2 ^ (Nat.min y.toNat k.bits))))
  | _=>none
def C9 (op:BinOp) (a b:V):Option V:=
 match a,b with
 | .int k x, .int k' y=>match op with
  | .shl=>qW .shl k x y
  | .shr=>qW .shr k x y
  | op=>if k=k' then p6 op k x y else none
 | _,_=>none
def unV (op:UnOp) (v:V):Option V:=
 match op,v with
 | .neg, .int k n=>some (.int k (k.wrap (0 - n)))
 | .not, .bool b=>some (.bool !b)
 | _,_=>none
def splice {α:Type} (cs:List α) (off:Nat):List α→List α
 | []=>cs
 | x::xs=>splice (cs.set off x) (off+1) xs
def lg:List (Nat×Nat×Opd)→List (Cell Unit)→FM (List (Cell Unit))
 | [],cs=> .ret cs
 | (off,n,x)::ps,cs=>(take x).bind fun y=>
  if y.2.length=n∧off+n≤cs.length then lg ps (splice cs off y.2) else .fail
def qI (c:Cell Unit):Bool:=match c.f with
 | .sc | .nl | .ow false=>true
 | _=>false
def owned (cs:List (Cell Unit)):Bool:=cs.all qI
def t8 (c:Cell Unit):Bool:=(aY c.v||scal c.v)&&c.f != .dd&& !(match c.f with | .mp _ | .ap _ _ _=>true | _=>false)
def lW (k:Nat):List (Nat×Opd)→List (List V)→Bool→FM (List (List V)×Bool)
 | [],es,ok=> .ret (es,ok)
 | (i,x)::ps,es,ok=>(take x).bind fun y=>
  if y.2.length=k∧i < es.length∧y.2.all t8 then lW k ps (es.set i (vals y.2)) (ok&&owned y.2) else .fail
def dt:Fl→Fl
 | .sp _ _ | .sh=> .sh
 | .ow false | .nw false | .cp .own _ _ _ | .fr=> .fr
 | _=> .no
def gc:Fl→Fl
 | .sp _ _ | .sh=> .sh
 | .nl=> .nl
 | _=> .no
def ph (f:Fl) (v:V):Cell Unit:=⟨v,if aY v then dt f else if scal v then .sc else .dd⟩
def sL (s c:Nat):Nat→List (Cell Unit)→Option (List (Cell Unit))
 | _,[]=>some []
 | ix,x::xs=>match sL s c (ix+1) xs with
  | none=>none
  | some r=>if aY x.v then (match x.f with
    | .fr=>some (⟨x.v, .cp .own s c (some ix)⟩::r)
    | .no | .sh=>some (⟨x.v, .cp .chg s c (some ix)⟩::r)
    | _=>none)
   else some (x::r)
def aN:Fl→Bool
 | .ow _ | .nw _ | .mp _=>true
 | _=>false
def BQ (v:V):Cell Unit:=⟨v,if scal v then .sc else .sh⟩
def vJ (a:Opd) (n:Nat):FM (List (Cell Unit)):=
 (opd a).bind fun sl=>
 match sl.k with
 | .ptr r off=>(eP r).bind fun b=>
  match b.k with
  | .box _=>if off+n≤b.cs.length then .ret (sH r off ((b.cs.drop off).take n)) else .fail
  | _=> .fail
 | .ept _ none _=>if n≤sl.cs.length∧(sl.cs.all fun c=> !aN c.f) then .ret (sl.cs.take n) else .fail
 | .ept _ (some (s,c)) ix=>if n≤sl.cs.length then opt (sL s c ix (sl.cs.take n)) else .fail
 | .val=>match sl.cs with
  | [⟨.ptr _ cs, .sh⟩]=>if n≤cs.length∧n≠0 then .ret ((cs.take n).map BQ) else .fail
  | _=> .fail
 | _=> .fail
def x7 (agg:Bool) (cs:List (Cell Unit)):FM SU:=
 match agg with
 | true=> .ret ⟨.agg,cs⟩
 | false=>match cs with
  | [c]=> .ret ⟨.val,[c]⟩
  | _=> .fail
def idx (n:Nat) (i:Int):Option Nat:=if 0≤i∧i < n then some i.toNat else none
def sC (n:Nat) (d:Nat):Option Opd→FM Nat
 | none=> .ret d
 | some x=>(dX x).bind fun y=>if 0≤y.2∧y.2≤n then .ret y.2.toNat else .fail
def lim:Nat:=1099511627776
def jm:List (Bool×Nat)→Nat→Nat→Option (Bool×Nat×Nat)
 | [],_,_=>none
 | (b,n)::_,0,off=>some (b,off,n)
 | (_,n)::r,i+1,off=>jm r i (off+n)
def su:List Nat→FM (List Nat)
 | []=> .ret []
 | i::is=>(eP i).bind fun sl=>
  match sl.k with
  | .ptr r 0=>(su is).bind fun rs=> .ret (r::rs)
  | _=> .fail
def jn (es:List (List V)) (y:Opd):FM (List (List V)×Bool):=
 if cn es then .ret (es,true)
 else (take y).bind fun z=>match z with
  | (false,[⟨.row _ es', .ow false⟩])=> .ret (es',true)
  | _=> .ret (es,false)
def jZ (ok:Bool):Fl:=if ok then .ow false else .no
def eM (k:Nat) (es:List (List V)):Bool:=es.all fun e=>e.length=k
def nD (k:Nat) (ok:Bool) (es ys:List (List V)) (f:Fl):FM SU:=
 if eM k es∧eM k ys∧es.length+ys.length≤lim then
  match f with
  | .ow false=> .ret ⟨.val,[⟨.row () (es++ys),jZ ok⟩]⟩
  | .ow true=>if k=1∧cn ys then .ret ⟨.val,[⟨.row () (es++ys), .ow (match ys with | []=>true | _::_=>false)⟩]⟩ else .fail
  | .nl=> .ret ⟨.val,[⟨.row () (es++ys),match ys with | []=> .nl | _::_=>jZ ok⟩]⟩
  | _=> .fail
 else .fail
def bf (nt:Nat):Nat:=2 * nt
def bn (nt:Nat):Ir→FM SU
 | .move x=>(opd x).bind fun sl=>
  match sl.k,x with
  | .val, .t i=> .ret ⟨.val,sH i 0 sl.cs⟩
  | .agg, .t i=> .ret ⟨.agg,sH i 0 sl.cs⟩
  | .tup sh, .t i=> .ret ⟨.tup sh,sH i 0 sl.cs⟩
  | .val,_=> .ret sl
  | .agg,_=> .ret sl
  | .ptr _ _,_=> .ret sl
  | .clo _ _,_=> .ret sl
  | _,_=> .fail
 | .pick c a b=>(f8 c).bind fun c=>
  if c then (f8 a).bind fun v=> .ret (hJ (.bool v)) else (f8 b).bind fun v=> .ret (hJ (.bool v))
 | .alloc zs=> .ret ⟨.box (),zs.map cP⟩
 | .box x=>(take x).bind fun y=> .ret ⟨.box (),y.2⟩
 | .build zs parts=>(lg parts (zs.map cP)).bind fun cs=> .ret ⟨.agg,cs⟩
 | .bslice z len parts=>
  if z.isEmpty then .fail else
  (lW z.length parts (List.replicate len z) true).bind fun y=> .ret ⟨.val,[⟨.row () y.1,jZ y.2⟩]⟩
 | .load agg n a=>(vJ a n).bind fun cs=>x7 agg cs
 | .bin op x y=>(one x).bind fun a=>(one y).bind fun b=>(opt (C9 op a.v b.v)).bind fun v=> .ret (hJ v)
 | .beq neg x y=>(f8 x).bind fun a=>(f8 y).bind fun b=> .ret (hJ (.bool (if neg then !(a== b) else a== b)))
 | .un op x=>(one x).bind fun a=>(opt (unV op a.v)).bind fun v=> .ret (hJ v)
 | .conv k x=>(dX x).bind fun y=> .ret (hJ (.int k (k.wrap y.2)))
 | .len ofStr x=>(one x).bind fun c=>
  match ofStr,c.v with
  | false, .row _ es=> .ret (hJ (.int .i64 es.length))
  | true, .str s=> .ret (hJ (.int .i64 s.size))
  | _,_=> .fail
 | .min x y=>(dX x).bind fun a=>(dX y).bind fun b=> .ret (hJ (.int a.1 (if b.2 < a.2 then b.2 else a.2)))
 | .max x y=>(dX x).bind fun a=>(dX y).bind fun b=> .ret (hJ (.int a.1 (if b.2 > a.2 then b.2 else a.2)))
 | .append k x y=>(rU y).bind fun ys=>
  if k=0 then .fail else
   (one x).bind fun c=>
   match c.v,c.f with
   | .row _ es, .cp .own s' c' (some ix)=>
    (eP s').bind fun sl=>
    (eP (bf nt)).bind fun l=>
    match qt sl c',l.k with
    | some (.ow false), .dead=>
     if cn es∧cn ys.1∧eM k es∧eM k ys.1∧es.length+ys.1.length≤lim then
      (kE (bf nt) ⟨.und,[]⟩).bind fun _=> .ret ⟨.val,[⟨.row () (es++ys.1), .ap s' c' ix⟩]⟩
     else .fail
    | _,_=> .fail
   | _,_=>
    (take x).bind fun xs=>
    (jn ys.1 y).bind fun z=>
    match xs with
    | (false,[⟨.row _ es,f⟩])=>nD k z.2 es z.1 f
    | _=> .fail
 | .slice k x lo hi=>(rU x).bind fun r=>
  (sC r.1.length r.1.length hi).bind fun h=>(sC h 0 lo).bind fun l=>
  if r.1.all (fun e=>e.length=k) then .ret ⟨.val,[⟨.row () ((r.1.take h).drop l),gc r.2⟩]⟩ else .fail
 | .faddr off x=>(opd x).bind fun sl=>
  match sl.k with
  | .ptr r o=> .ret ⟨.ptr r (o+off),[]⟩
  | .ept _ src ix=>if sl.cs.all fun c=> !aN c.f then .ret ⟨.ept () src (ix+off),sl.cs.drop off⟩ else .fail
  | .val=>match sl.cs with
   | [⟨.ptr _ cs, .sh⟩]=>if off < cs.length then .ret ⟨.val,[⟨.ptr () (cs.drop off), .sh⟩]⟩ else .fail
   | _=> .fail
  | _=> .fail
 | .iaddr k x i=>(rU x).bind fun r=>(dX i).bind fun n=>
  (opt (idx r.1.length n.2)).bind fun j=>(opt r.1[j]?).bind fun e=>
  if k≠0∧e.length=k∧r.1.all (fun e=>e.length=k) then
   .ret ⟨.ept () (match r.2 with | .cp _ s c none=>some (s,c) | _=>none) (j * k),e.map (ph r.2)⟩
  else .fail
 | .field agg off n x=>(opd x).bind fun sl=>
  match sl.k,x with
  | .agg, .t i=>if off+n≤sl.cs.length then x7 agg (sH i off ((sl.cs.drop off).take n)) else .fail
  | _,_=> .fail
 | .index x i=>(dX i).bind fun n=>(one x).bind fun c=>
  match c.v with
  | .str s=>match (if 0≤n.2 then s[n.2.toNat]? else none) with
   | some b=> .ret (hJ (.int .u8 b.toNat))
   | none=> .fail
  | _=> .fail
 | .extract i x=>(opd x).bind fun sl=>
  match sl.k,x with
  | .tup sh, .t s=>match jm sh i 0 with
   | some (agg,off,n)=>if agg||n=1&&off < sl.cs.length then .ret ⟨if agg then .agg else .val,sH s off ((sl.cs.drop off).take n)⟩ else .fail
   | none=> .fail
  | _,_=> .fail
 | .nilchk x=>(opd x).bind fun sl=>
  match sl.k with
  | .ptr _ _=> .ret sl
  | _=> .fail
 | .mkfn g caps=>(su caps).bind fun rs=> .ret ⟨.clo g rs,[]⟩
 | .mkslice z l c=>(dX l).bind fun n=>(dX c).bind fun m=>
  if n.2=m.2∧0≤n.2∧n.2≤lim∧ !z.isEmpty then .ret ⟨.val,[⟨.row () (List.replicate n.2.toNat z), .ow false⟩]⟩ else .fail
 | _=> .fail
def qj (ks:List Nat) (s:SU):SU:=match s.k with
 | .ptr r _=>if ks.contains r then dead else s
 | .clo _ rs=>if rs.any ks.contains then dead else s
 | _=>s
def oX (x:Cell Unit):Cell Unit:=
 match x.f with
 | .cp m _ _ _=>⟨x.v,uC m⟩
 | .ap _ _ _=>⟨x.v, .dd⟩
 | .nw g=>⟨x.v, .ow g⟩
 | _=>x
def lU (s:SU):SU:=⟨match s.k with | .ept t _ ix=> .ept t none ix | k=>k,s.cs.map oX⟩
def kz (ks:List Nat):Nat→St→St
 | _,[]=>[]
 | i,s::r=>(if ks.contains i then dead else qj ks (lU s))::kz ks (i+1) r
def lI (nt:Nat) (ks:List Nat) (st:St):St:=kz (bf nt::ks) 0 st
def tC (x:Cell Unit):Cell Unit:=
 match x.f with
 | .cp _ _ _ _ | .ap _ _ _ | .fr | .no=>⟨x.v, .dd⟩
 | _=>x
def vj (s:SU):SU:=match s.k with
 | .ept _ _ _=>dead
 | _=>⟨s.k,s.cs.map tC⟩
def lose (st:St):St:=st.map vj
def fm {α:Type}:Nat→List (List α)→Option (Nat×Nat)
 | _,[]=>none
 | ix,e::es=>if ix < e.length then some (0,ix) else (fm (ix - e.length) es).map fun p=>(p.1+1,p.2)
def bh {α:Type} (es:List (List α)) (ix:Nat):List α→Option (List (List α))
 | []=>some es
 | v::vs=>match fm ix es with
  | some (i,j)=>match es[i]? with
   | some e=>bh (es.set i (e.set j v)) (ix+1) vs
   | none=>none
  | none=>none
def Kl (es:List (List V)) (ix:Nat):Option V:=es.flatten[ix]?
def gw {α:Type} (p:FM α) (st:St) (k:α→St→Option St):Option St:=
 match p.run st with
 | some (a,st')=>k a st'
 | none=>none
def AS (s c ix:Nat) (x:Opd):FM (List (Cell Unit)):=
 (opd x).bind fun sl=>
 match sl.k,sl.cs with
 | .val,[⟨v, .ap s' c' ix'⟩]=>(eP s).bind fun sl=>
  match qt sl c with
  | some (.ow false)=>if s'=s∧c'=c∧ix'=ix then .ret [⟨v, .ow false⟩] else .fail
  | _=> .fail
 | _,_=>(take x).bind fun y=> .ret y.2
def pC (x:Cell Unit):Cell Unit:=match x.f with | .ow g=>⟨x.v, .nw g⟩ | _=>x
def fZ:List (Cell Unit)→List (Cell Unit)→Bool
 | [],_=>true
 | x::xs,[]=> !aY x.v&&fZ xs []
 | x::xs,y::ys=>(!aY x.v||aY y.v)&&fZ xs ys
def FB (cs:List (Cell Unit)):Bool:=cs.all fun c=>match c.f with | .mp _=>false | _=>true
def ly (nt d:Nat) (x:Opd):FM Unit:=
 if nt≤d then .fail else
 (opd x).bind fun sl=>
  match sl.k with
  | .val | .agg=>(take x).bind fun y=>(eP d).bind fun old=>
   if fZ old.cs y.2∧FB y.2 then kE d ⟨if y.1 then .agg else .val,y.2.map pC⟩ else .fail
  | .ptr _ _ | .clo _ _=>(eP d).bind fun old=>if fZ old.cs [] then kE d sl else .fail
  | _=> .fail
def nL (n:Nat) (a x:Opd):FM Unit:=
 (opd a).bind fun sl=>
 match sl.k with
 | .ptr r off=>(take x).bind fun y=>(eP r).bind fun b=>
  match b.k with
  | .box t=>if y.2.length=n∧off+n≤b.cs.length∧fZ (b.cs.drop off) (y.2++(b.cs.drop (off+n)))∧FB y.2 then kE r ⟨.box t,splice b.cs off (y.2.map pC)⟩ else .fail
  | _=> .fail
 | _=> .fail
def nq (st:St) (s c:Nat):Option (List (List V)×Fl):=
 match st[s]? with
 | some sl=>match sl.cs[c]? with
  | some ⟨.row _ es, .ow false⟩=>some (es, .ow false)
  | some ⟨.row _ es, .mp i⟩=>some (es, .mp i)
  | _=>none
 | none=>none
def setRow (st:St) (s c:Nat) (v:V):St:=
 match st[s]? with
 | some sl=>match sl.cs[c]? with
  | some x=>st.set s ⟨sl.k,sl.cs.set c ⟨v,x.f⟩⟩
  | none=>st
 | none=>st
def xi (n:Nat) (a x:Opd) (st:St):Option St:=
 gw (opd a) st fun sl st=>
 match sl.k with
 | .ept _ (some (s,c)) ix=>
  gw (AS s c ix x) st fun cs st=>
   if n≠0∧cs.length=n∧owned cs then
    match nq (lose st) s c with
    | some (es,_)=>match bh es ix (vals cs) with
     | some es'=>some (setRow (lose st) s c (.row () es'))
     | none=>none
    | none=>none
   else none
 | _=>none
structure Ret where
 res:List SU
 outs:List V
 obox:Option (List V)
 deriving Inhabited
def bU {α β:Type} (f:α→Option β):List α→Option (List β)
 | []=>some []
 | x::xs=>match f x,bU f xs with
  | some y,some ys=>some (y::ys)
  | _,_=>none
def vZ (a c:Nat) (x:Cell Unit):Option (Cell Unit):=
 match x.f with
 | .dd | .ap _ _ _=>none
 | .sc | .nl=>some x
 | _=>some (match x.v with
  | .row _ _=>⟨x.v, .sp a c⟩
  | _=>⟨x.v,if scal x.v then .sc else .sh⟩)
def iB (a:Nat):Nat→List (Cell Unit)→Option (List (Cell Unit))
 | _,[]=>some []
 | c,x::xs=>match vZ a c x,iB a (c+1) xs with
  | some y,some ys=>some (y::ys)
  | _,_=>none
def A3 (b:SU):Option (List V):=
 match b.k with
 | .box _=>if b.cs.all (fun c=>match c.f with | .dd | .ap _ _ _=>false | _=>true) then some (vals b.cs) else none
 | _=>none
def mC:List Nat→FM (List V)
 | []=> .ret []
 | r::rs=>(eP r).bind fun b=>(opt (A3 b)).bind fun vs=>(mC rs).bind fun ps=> .ret (VA.ptr () vs::ps)
def G6 (a:Nat) (sl:SU):FM SU:=
 match sl.k with
 | .val=>(opt (iB a 0 sl.cs)).bind fun cs=> .ret ⟨.val,cs⟩
 | .agg=>(opt (iB a 0 sl.cs)).bind fun cs=> .ret ⟨.agg,cs⟩
 | .clo g roots=>(mC roots).bind fun ps=> .ret ⟨.val,[⟨.fn g ps, .sh⟩]⟩
 | _=> .fail
def sB:Nat→List Opd→FM (List SU)
 | _,[]=> .ret []
 | a,x::xs=>(opd x).bind fun s=>(G6 a s).bind fun y=>(sB (a+1) xs).bind fun ss=> .ret (y::ss)
def kK (caps:List V):List SU:=caps.map fun p=>⟨.val,[⟨p, .sh⟩]⟩
def oj:List SU→SU
 | [s]=>s
 | ss=>⟨.tup (ss.map fun s=>(match s.k with | .agg=>true | _=>false,s.cs.length)),ss.flatMap (·.cs)⟩
abbrev dH:=Nat→List SU→Option Ret
abbrev bO:=Nat→List Pm
def fj (m:List Pm):Bool:=m.any (·≠ .val)
def qL (c:Cell Unit):Bool:=match c.f with
 | .sc | .nl | .sp _ _ | .sh | .no | .fr=>true
 | _=>false
def pM (bs:List (Cell Unit)):Bool:=bs.all qL
def oT (x:Opd):FM Nat:=
 (opd x).bind fun sl=>
 match sl.k with
 | .ptr r 0=> .ret r
 | _=> .fail
def zw (b:SU):Option SU:=(iB 0 0 b.cs).map fun cs=>⟨.box (),cs⟩
def pO:List V→List (Cell Unit)→Option (List (Cell Unit))
 | [],[]=>some []
 | v::vs,c::cs=>match pO vs cs with
  | some r=>some ((if scal c.v then ⟨v, .sc⟩ else c)::r)
  | none=>none
 | _,_=>none
def EJ:List Opd→FM (List SU)
 | []=> .ret []
 | x::xs=>(opd x).bind fun s=>(EJ xs).bind fun ss=> .ret (s::ss)
def jB (s:SU):Bool:=s.cs.all fun c=>match c.v with | .fn _ (_::_)=>false | _=>true
def wF (s:SU):Bool:=s.cs.all fun c=>c.f≠ .no
def gB (orac:dH) (g:Nat) (xs:List Opd) (r:Nat) (b:SU):FM SU:=
 match b.k with
 | .box t=>if pM b.cs then
   (opt (zw b)).bind fun b'=>
   (sB 1 xs).bind fun as=>
    if !as.all jB then .fail else
    match orac g (b'::as) with
    | some ⟨rs,[],some cs⟩=>(opt (pO cs b.cs)).bind fun cs'=>(kE r ⟨.box t,cs'⟩).bind fun _=> .ret (oj rs)
    | _=> .fail
  else .fail
 | _=> .fail
def dn (orac:dH) (g:Nat) (args:List Opd) (caps:List V):FM SU:=
 (sB 0 args).bind fun as=>
  match orac g (as++kK caps) with
  | some ⟨rs,[],none⟩=>if (as.all jB&&caps.isEmpty)||rs.all wF then .ret (oj rs) else .fail
  | _=> .fail
def cY (orac:dH) (modes:bO) (nt:Nat):Ir→FM SU
 | .call g args=>
  match modes g with
  | .mbox::ms=>match args with
   | x::xs=>if fj ms then .fail else (oT x).bind fun r=>(eP r).bind fun b=>gB orac g xs r b
   | []=> .fail
  | ms=>if fj ms then .fail else dn orac g args []
 | .callv f args=>(opd f).bind fun sl=>
  match sl.k,sl.cs with
  | .val,[⟨.fn g caps, .sh⟩]=>if fj (modes g) then .fail else dn orac g args caps
  | .clo g roots,_=>if fj (modes g) then .fail else (mC roots).bind fun caps=>dn orac g args caps
  | _,_=> .fail
 | op=>bn nt op
def gk (s c:Nat) (x:Cell Unit):Option (Nat×Nat×Option Nat):=
 match x.f with
 | .ow false | .nw false | .mp _=>some (s,c,none)
 | .cp _ s' c' ix=>some (s',c',ix)
 | _=>none
def mb (s:Nat):Nat→List (Cell Unit)→Option (List (Nat×Nat×Option Nat))
 | _,[]=>some []
 | c,x::xs=>match x.f with
  | .sc | .nl=>mb s (c+1) xs
  | _=>match gk s c x,mb s (c+1) xs with
   | some h,some hs=>some (h::hs)
   | _,_=>none
def jS:Nat→List (Cell Unit)→List (Cell Unit)
 | _,[]=>[]
 | i,x::xs=>match x.f with
  | .sc | .nl=>x::jS i xs
  | _=>⟨x.v, .mp i⟩::jS (i+1) xs
def iu:List (Nat×Nat×Option Nat)→List V→St→Option St
 | [],[],st=>some st
 | (s,c,ix)::hs,v::vs,st=>
  match nq st s c with
  | none=>none
  | some (es,_)=>match ix with
   | none=>iu hs vs (setRow st s c v)
   | some ix=>match bh es ix [v] with
    | some es'=>iu hs vs (setRow st s c (.row () es'))
    | none=>none
 | _,_,_=>none
def qu (p:Fl→Bool) (st:St) (h:Nat×Nat×Option Nat):Bool:=
 match nq st h.1 h.2.1 with
 | some (_,f)=>p f
 | none=>false
def Hq:Fl→Bool
 | .ow _=>true
 | _=>false
def Cn:Fl→Bool
 | .mp _=>true
 | _=>false
def sY (st:St) (hs:List (Nat×Nat×Option Nat)):Bool:=hs.all (qu Hq st)||hs.all (qu Cn st)
def dV:List (Nat×Nat×Option Nat)→Bool
 | []=>true
 | (s,c,ix)::hs=>(hs.all fun h=>h.1≠s||h.2.1≠c||(match ix,h.2.2 with | some i,some j=>i≠j | _,_=>false))&&dV hs
def AI:Opd→Nat
 | .t i=>i
 | _=>0
def uf (s:SU):Bool:=(match s.k with | .val=>true | _=>false)&&s.cs.all fun c=>c.f= .sc
def ry (old:SU):Bool:=match old.k with
 | .dead | .und=>true
 | .val=>old.cs.all (fun c=>c.f= .sc)
 | _=>false
def AW (k:Kd Unit):Bool:=match k with
 | .val | .agg=>true
 | _=>false
def sG (orac:dH) (modes:bO) (nt:Nat) (d:Option Nat) (g:Nat) (args:List Opd) (st:St):Option St:=
 match modes g,args with
 | .mrow::ms,x::xs=>
  if fj ms then none else
  gw (opd x) st fun sl st=>
  if AW sl.k then
   match mb (AI x) 0 sl.cs with
   | none=>none
   | some hs=>
    if dV hs&&sY st hs then
     gw (EJ xs) st fun as st=>
     if as.all uf then
      match orac g (⟨sl.k,jS 0 sl.cs⟩::as) with
      | some ⟨rs,outs,none⟩=>
       match iu hs outs (lose st) with
       | some st=>match d with
        | some d=>match st[d]? with
         | some old=>if ry old∧d < nt∧rs.all uf then some (st.set d (oj rs)) else none
         | none=>none
        | none=>some st
       | none=>none
      | _=>none
     else none
    else none
  else none
 | _,_=>none
def Ay (nt d:Nat) (s:SU):FM Unit:=
 (eP d).bind fun old=>
 if ry old∧d < nt then
  match s.k with
  | .box _=>(eP (d+nt)).bind fun there=>
   match there.k with
   | .dead=>(kE (d+nt) s).bind fun _=>kE d ⟨.ptr (d+nt) 0,[]⟩
   | _=> .fail
  | _=>kE d s
 else .fail
def oF (orac:dH) (modes:bO) (nt:Nat) (o:Io):FM Unit:=
 match o.op,o.dst with
 | .assign x,some d=>ly nt d x
 | .store n a x,none=>nL n a x
 | op,some d=>(cY orac modes nt op).bind fun s=>Ay nt d s
 | op,none=>(cY orac modes nt op).bind fun _=> .ret ()
def oE (modes:bO):Ir→Bool
 | .clear | .rstore ..=>true
 | .call g _=>(modes g).head?== some .mrow
 | _=>false
def gL (orac:dH) (modes:bO) (nt:Nat) (o:Io) (st:St):Option St:=
 match o.op,o.dst with
 | .clear,some d=>match st[d]? with
  | some old=>if ry old∧d < nt then some (st.set d dead) else none
  | none=>none
 | .rstore n a x,none=>xi n a x st
 | .call g args,d=>sG orac modes nt d g args st
 | _,_=>none
def um (nt:Nat) (o:Io):FM Unit:=
 match o.dst with
 | some d=>(eP d).bind fun old=>if ry old∧d < nt then kE d ⟨.und,[]⟩ else .fail
 | none=> .ret ()
def uy (o:Io):FM Bool:=
 match o.guard with
 | none=> .ret true
 | some (j,b)=>(eP j).bind fun s=>match s.k,s.cs with
  | .val,[c]=>match c.v with
   | .bool x=> .ret (x== b)
   | _=> .fail
  | .und,_=> .ret false
  | _,_=> .fail
def ioF (orac:dH) (modes:bO) (nt:Nat) (o:Io):FM Unit:=
 (uy o).bind fun b=>if b then oF orac modes nt o else um nt o
def z8 (orac:dH) (modes:bO) (nt:Nat) (o:Io) (st:St):Option St:=
 gw (uy o) st fun b st=>if b then gL orac modes nt o st else gw (um nt o) st fun _ st=>some st
def dm (orac:dH) (modes:bO) (nt:Nat) (o:Io) (st:St):Option St:=
 if oE modes o.op then z8 orac modes nt o st
 else gw (ioF orac modes nt o) st fun _ st=>some st
def eg (orac:dH) (modes:bO) (nt:Nat):List Io→St→Option St
 | [],st=>some st
 | o::os,st=>match dm orac modes nt o st with
  | some st=>eg orac modes nt os st
  | none=>none
abbrev Lg:=Option (List Nat×List Nat)
def ei (orac:dH) (modes:bO) (nt:Nat) (o:Io) (st:St):Lg:=
 if oE modes o.op then none else some ((ioF orac modes nt o).log st)
def lJ (orac:dH) (modes:bO) (nt:Nat):List Io→St→List Lg
 | [],_=>[]
 | o::os,st=>match dm orac modes nt o st with
  | some st'=>ei orac modes nt o st::lJ orac modes nt os st'
  | none=>[]
def zZ (a b:List Nat):Bool:=a.all fun x=> !b.contains x
def iQ:Lg→Lg→Bool
 | some m,some l=>zZ m.2 l.1&&zZ l.2 m.1
 | _,_=>false
def kv:List Io→List Lg→List Lg→Bool
 | o::os,l::ls,before=>
  (before.zipIdx.all fun (m,i)=>o.anc.contains i||iQ m l)&&kv os ls (before++[l])
 | _,_,_=>true
def region (orac:dH) (modes:bO) (nt:Nat) (kill0 kill1:List Nat) (ops:List Io) (st:St):Option St:=
 match eg orac modes nt ops (lI nt kill0 st) with
 | some st=>some (lI nt kill1 st)
 | none=>none
inductive Ex where
 | normal | exit (id:Nat) | ret
 deriving DecidableEq,Inhabited
def gM (body:St→Option (Ex×St)):Nat→St→Option (Ex×St)
 | 0,_=>none
 | n+1,st=>match body st with
  | some (.normal,st)=>gM body n st
  | r=>r
def uT (x:Opd) (st:St):Option (Bool×St):=
 match x with
 | .t i=>match st[i]? with
  | some s=>match s.k,s.cs with
   | .val,[c]=>match c.v with
    | .bool b=>some (b,st.set i dead)
    | _=>none
   | _,_=>none
  | none=>none
 | .c false [.bool b]=>some (b,st)
 | _=>none
def code (orac:dH) (modes:bO) (nt n:Nat):Cd→St→Option (Ex×St)
 | .skip,st=>some (.normal,st)
 | .region draw k0 k1 ops,st=>
  if draw&& !kv ops (lJ orac modes nt ops (lI nt k0 st)) [] then none
  else match region orac modes nt k0 k1 ops st with
   | some st=>some (.normal,st)
   | none=>none
 | .seq a b,st=>match code orac modes nt n a st with
  | some (.normal,st)=>code orac modes nt n b st
  | r=>r
 | .cond x a b,st=>match uT x st with
  | some (true,st)=>code orac modes nt n a st
  | some (false,st)=>code orac modes nt n b st
  | none=>none
 | .block id c,st=>match code orac modes nt n c st with
  | some (.exit id',st)=>if id'=id then some (.normal,st) else some (.exit id',st)
  | r=>r
 | .loop c,st=>gM (code orac modes nt n c) n st
 | .exit id,st=>some (.exit id,st)
 | .ret,st=>some (.ret,st)
 | .bad,_=>none
def wU (st:St) (s c:Nat) (x:Cell Unit):Option (Cell Unit×List (Nat×Nat)×Bool):=
 match x.f with
 | .sc | .nl=>some (x,[],false)
 | .ow g | .nw g=>some (⟨x.v, .ow g⟩,[(s,c)],false)
 | .cp .chg _ _ _=>some (⟨x.v, .no⟩,[],false)
 | .cp m s' c' none=>match (st[s']?).bind fun sl=>qt sl c' with
  | some (.ow g)=>some (⟨x.v, .ow g⟩,[(s',c')],false)
  | _=>match m with
   | .own=>some (⟨x.v, .ow false⟩,[],true)
   | _=>some (⟨x.v, .no⟩,[],false)
 | .cp .own _ _ (some _) | .fr=>some (⟨x.v, .ow false⟩,[],true)
 | .cp _ _ _ _ | .sp _ _ | .sh | .no=>if aY x.v then some (⟨x.v, .no⟩,[],false) else none
 | _=>none
def nk (st:St) (s:Nat):Nat→List (Cell Unit)→Option (List (Cell Unit×List (Nat×Nat)×Bool))
 | _,[]=>some []
 | c,x::xs=>match wU st s c x,nk st s (c+1) xs with
  | some y,some ys=>some (y::ys)
  | _,_=>none
def xM (st:St) (k:Kd Unit) (s:Nat) (cs:List (Cell Unit)):Option (SU×List (Nat×Nat)×Nat):=
 match nk st s 0 cs with
 | some ys=>some (⟨k,ys.map (·.1)⟩,ys.flatMap (·.2.1),(ys.filter (·.2.2)).length)
 | none=>none
def qP (st:St) (r:Nat×Option (Bool×Nat)):Option (SU×List (Nat×Nat)×Nat):=
 match st[r.1]? with
 | none=>none
 | some sl=>
  match r.2,sl.k with
  | none, .val=>xM st .val r.1 sl.cs
  | none, .agg=>xM st .agg r.1 sl.cs
  | none, .ptr b 0=>match st[b]? with
   | some bx=>match bx.k with
    | .box _=>if pM bx.cs&&bx.cs.all (fun c=>aY c.v||scal c.v) then some (⟨.box (),bx.cs.map fun c=>⟨c.v,if aY c.v then (if c.f= .nl then .nl else .no) else .sc⟩⟩,[],0) else none
    | _=>none
   | none=>none
  | some (agg,n), .ptr b 0=>match st[b]? with
   | some bx=>match bx.k with
    | .box _=>if n=bx.cs.length∧n≠0 then xM st (if agg then .agg else .val) b bx.cs else none
    | _=>none
   | none=>none
  | _,_=>none
def sQ (st:St) (i:Nat):Option V:=
 (st.flatMap (·.cs)).findSome? fun c=>if c.f= .mp i then some c.v else none
def HT (st:St) (n:Nat):Option (List V):=bU (sQ st) (List.range n)
def kV (modes:List Pm) (args:List SU):Nat:=
 match modes,args with
 | .mrow::_,a::_=>(a.cs.filter fun c=>match c.f with | .mp _=>true | _=>false).length
 | _,_=>0
def iX:List (Cell Unit)→List (Cell Unit)→Nat→Option (List V)
 | [],[],_=>some []
 | x::xs,y::ys,c=>match iX xs ys (c+1) with
  | none=>none
  | some r=>match x.f,y.f with
   | .sc, .sc=>some (x.v::r)
   | .sp 0 c', .sp 0 d=>if c'=c∧d=c then some (x.v::r) else none
   | .nl, .nl=>some (x.v::r)
   | _,_=>none
 | _,_,_=>none
def Bm:List (Nat×Nat)→Bool
 | []=>true
 | x::xs=> !xs.contains x&&Bm xs
def eQ (s:SU):Bool:=match s.k with | .box _=>false | _=>true
def ni (s:SU):Bool:=eQ s&&s.cs.all fun c=> !Cn c.f
def cC (fn:FnIr) (args:List SU) (st:St):Option Ret:=
 match bU (qP st) fn.res with
 | none=>none
 | some rs=>
  let own:=rs.flatMap (·.2.1)
  let loose:=(rs.map (·.2.2)).sum
  if Bm own&&(loose=0||(loose=1&&own.isEmpty&&rs.all fun r=>wF r.1))&&((rs.all fun r=>eQ r.1)||(rs.length== 1&&args.all ni)) then
   match HT st (kV fn.modes args) with
   | none=>none
   | some outs=>
    if !outs.isEmpty&&loose≠0 then none else
    match fn.modes with
    | .mbox::_=>match st[bf fn.ntmps+1]? with
     | some bx=>match bx.k with
      | .box _=>match iX bx.cs ((args.headD dead).cs) 0 with
       | some cs=>if rs.all fun r=>eQ r.1 then some ⟨rs.map (·.1),outs,some cs⟩ else none
       | none=>none
      | _=>none
     | none=>none
    | _=>some ⟨rs.map (·.1),outs,none⟩
  else none
def jI (fn:FnIr) (args:List SU):St:=
 match args with
 | ⟨.box t,cs⟩::r=>(⟨.ptr (bf fn.ntmps+1) 0,[]⟩::(r++List.replicate (fn.ntmps - fn.np) dead))++(List.replicate (fn.ntmps+1) dead++[⟨.box t,cs⟩])
 | _=>(args++List.replicate (fn.ntmps - fn.np) dead)++(List.replicate (fn.ntmps+1) dead++[dead])
def jv:List (List V)→Option (List Int)
 | []=>some []
 | [.int .i64 n]::es=>(jv es).map fun l=>n::l
 | _::_=>none
def iP (l:List Int):List Int:=l.mergeSort fun x y=>decide (x≤y)
def Fm:Fl→Bool
 | .sp _ _ | .nl | .sh=>true
 | _=>false
def dy (sp:Nat) (args:List SU):Option Ret:=
 match sp,args with
 | 1,[⟨.val,[⟨.row _ es,f⟩]⟩]=>if es.all (fun e=>e.all scal&&e.length=1)&&es.length≤lim&&Fm f then some ⟨[⟨.val,[⟨.row () es, .ow false⟩]⟩],[],none⟩ else none
 | 2,[⟨.val,[⟨.row _ [], .nl⟩]⟩,⟨.val,[⟨.int .i64 n,_⟩]⟩]=>if 0 < n∧n≤lim then some ⟨[⟨.val,[⟨.row () [], .ow true⟩]⟩],[],none⟩ else none
 | 3,[⟨.val,[⟨.row _ es, .mp 0⟩]⟩]=>match jv es with
  | some zs=>if zs.length≤lim then some ⟨[],[.row () ((iP zs).map fun n=>[.int .i64 n])],none⟩ else none
  | none=>none
 | _,_=>none
def eW {α:Type} (x:Cell α):Cell α:=match x.f with
 | .nl | .sp _ _=>⟨x.v, .sh⟩
 | _=>x
def aV {α:Type} (s:Sl α):Sl α:=match s.k with
 | .val | .agg=>⟨s.k,s.cs.map eW⟩
 | _=>s
def aj {α:Type} (ms:List Pm) (args:List (Sl α)):List (Sl α):=if ms.head?=some .mrow then args else args.map aV
def df (T:Nat→Option FnIr) (modes:bO):Nat→dH
 | 0,_,_=>none
 | n+1,f,args=>
  match T f with
  | none=>none
  | some fn=>
   if fn.sp=0 then
    if args.length=fn.np∧fn.np≤fn.ntmps then
     match code (df T modes n) modes fn.ntmps n fn.body (jI fn (aj fn.modes args)) with
     | some (.normal,st)=>cC fn (aj fn.modes args) st
     | some (.ret,st)=>cC fn (aj fn.modes args) st
     | _=>none
    else none
   else dy fn.sp args
end Go.Vm
end
section
namespace Go.Vm
def fg (P:Program) (t:TypeId):Bool:=
 match P.underlying t with
 | some (.struct _) | some (.array _ _)=>true
 | _=>false
def iM (P:Program) (t:TypeId):Option (Bool×Nat):=
 match P.underlying t with
 | some (.struct _) | some (.array _ _)=>some (true,P.cellsOf t)
 | some _=>some (false,1)
 | none=>none
def cQ:Value→Option V
 | .int k n=>some (.int k n)
 | .bool b=>some (.bool b)
 | .string s=>some (.str s)
 | .slice none 0 0=>some (.row () [])
 | _=>none
def r6 (P:Program) (t:TypeId):Option (List V):=
 match P.info? t with
 | some i=>match i.zero with
  | some z=>if z.cells.size=i.size then bU cQ z.cells.toList else none
  | none=>none
 | none=>none
structure Cx where
 P:Program
 canon:Nat→Option Nat
 nt:Nat
def bj (cx:Cx):Operand→Option Opd
 | .tmp t=>if t < cx.nt then some (.t t) else none
 | .const (.agg cs)=>(bU cQ cs.toList).map (.c true)
 | .const v=>(cQ v).map fun v=> .c false [v]
 | .func f=>(cx.canon f).map .f
 | .global _=>none
def iV (P:Program) (t:TypeId) (i:Nat):Option Field:=
 match P.underlying t with
 | some (.struct fs)=>fs[i]?
 | _=>none
def mK (P:Program) (t:TypeId):Option (List V):=
 match P.underlying t with
 | some (.slice e)=>match P.info? e with
  | some i=>if i.bytes≤128 then r6 P e else none
  | none=>none
 | _=>none
def places (P:Program) (t:TypeId):Option (List (Nat×Nat)):=
 match P.underlying t with
 | some (.struct fs)=>fs.toList.mapM fun f=>(P.info? f.type).map fun i=>(f.offset,i.size)
 | _=>none
def p8 (cx:Cx) (pl:List (Nat×Nat)):List (Nat×Operand)→Option (List (Nat×Nat×Opd))
 | []=>some []
 | (i,x)::ps=>match pl[i]?,bj cx x,p8 cx pl ps with
  | some (off,n),some x,some ps=>some ((off,n,x)::ps)
  | _,_,_=>none
def nG (cx:Cx):List (Nat×Operand)→Option (List (Nat×Opd))
 | []=>some []
 | (i,x)::ps=>match bj cx x,nG cx ps with
  | some x,some ps=>some ((i,x)::ps)
  | _,_=>none
def zH (cx:Cx):Option Operand→Option (Option Opd)
 | none=>some none
 | some x=>(bj cx x).map some
def o4 (cx:Cx):List Operand→Option (List Nat)
 | []=>some []
 | .tmp t::r=>if t < cx.nt then (o4 cx r).map (t::·) else none
 | _=>none
def uP (cx:Cx) (k:Call):Option Ir:=
 match k.callee,bU (bj cx) k.args.toList with
 | .value (.func f),some as=>(cx.canon f).map fun g=> .call g as
 | .value f,some as=>(bj cx f).map fun f=> .callv f as
 | .builtin .len,some [x]=>match k.argTypes.toList with
  | [t]=>match cx.P.underlying t with
   | some (.slice _)=>some (.len false x)
   | some .string=>some (.len true x)
   | _=>none
  | _=>none
 | .builtin .min,some [x,y]=>some (.min x y)
 | .builtin .max,some [x,y]=>some (.max x y)
 | .builtin .append,some [x,y]=>match k.argTypes.toList with
  | [t,u]=>match mK cx.P t,cx.P.underlying u with
   | some z,some (.slice _)=>some (.append z.length x y)
   | _,_=>none
  | _=>none
 | _,_=>none
def cOp (cx:Cx) (inRow:Nat→Bool) (o:Oper):Option Ir:=
 match o.op with
 | .move x=>(bj cx x).map .move
 | .assign x=>match x with
  | .const (.pointer none) | .const .nilFunc=>some .clear
  | x=>(bj cx x).map .assign
 | .pick a b d=>match bj cx a,bj cx b,bj cx d with | some a,some b,some d=>some (.pick a b d) | _,_,_=>none
 | .alloc e=>(r6 cx.P e).map .alloc
 | .box _ x=>(bj cx x).map .box
 | .build t parts=>match places cx.P t,r6 cx.P t with
  | some pl,some z=>(p8 cx pl parts.toList).map (.build z)
  | _,_=>none
 | .buildSlice t len parts=>match mK cx.P t,nG cx parts.toList with
  | some z,some ps=>if len≤4096∧len * z.length≤16777216 then some (.bslice z len ps) else none
  | _,_=>none
 | .load t a=>match iM cx.P t,bj cx a with
  | some (g,n),some a=>some (.load g n a)
  | _,_=>none
 | .store t a x=>match bj cx a,bj cx x,cx.P.info? t with
  | some a,some x,some i=>some (if (match a with | .t i=>inRow i | _=>false) then .rstore i.size a x else .store i.size a x)
  | _,_,_=>none
 | .nilCheck x=>(bj cx x).map .nilchk
 | .binOp op t x y _=>match bj cx x,bj cx y,cx.P.underlying t with
  | some x,some y,some (.int _)=>some (.bin op x y)
  | some x,some y,some .bool=>match op with
   | .eql=>some (.beq false x y)
   | .neq=>some (.beq true x y)
   | _=>none
  | _,_,_=>none
 | .unOp op _ x=>(bj cx x).map (.un op)
 | .convert s d x=>match cx.P.underlying s,cx.P.underlying d with | some (.int _),some (.int k)=>(bj cx x).map (.conv k) | _,_=>none
 | .makeFunc (.func f) first caps=>if first.isEmpty then (match cx.canon f,o4 cx caps.toList with | some g,some ts=>some (.mkfn g ts) | _,_=>none) else none
 | .makeSlice t l k=>match mK cx.P t,bj cx l,bj cx k with
  | some z,some l,some k=>some (.mkslice z l k)
  | _,_,_=>none
 | .slice t x lo hi none=>match mK cx.P t,bj cx x,zH cx lo,zH cx hi with
  | some z,some x,some lo,some hi=>some (.slice z.length x lo hi)
  | _,_,_,_=>none
 | .fieldAddr t x f=>match iV cx.P t f,bj cx x with | some f,some x=>if cx.P.cellsOf f.type=0 then none else some (.faddr f.offset x) | _,_=>none
 | .field t x f=>match iV cx.P t f,bj cx x with
  | some f,some x=>match iM cx.P f.type with | some (g,n)=>some (.field g f.offset n x) | none=>none
  | _,_=>none
 | .indexAddr t x i=>match mK cx.P t,bj cx x,bj cx i with | some z,some x,some i=>some (.iaddr z.length x i) | _,_,_=>none
 | .index t x i=>match cx.P.underlying t,bj cx x,bj cx i with | some .string,some x,some i=>some (.index x i) | _,_,_=>none
 | .extract x i=>(bj cx x).map (.extract i)
 | .call k=>uP cx k
 | _=>none
def wP (o:Oper):List Nat:=o.op.operands.toList.filterMap fun | .tmp t=>some t | _=>none
def HY (ops:List Oper):List Nat:=ops.flatMap wP
def Az (ops:List Oper):List Nat:=ops.filterMap fun o=>match o.op with | .assign _=>none | _=>o.dst
def mN:List Nat→List Oper→List Nat
 | _,[]=>[]
 | seen,o::os=>
  let seen:=wP o++seen
  match o.op,o.dst with
  | .assign _,_=>mN seen os
  | _,some d=>if seen.contains d then mN seen os else d::mN seen os
  | _,none=>mN seen os
def dq:Code→List Nat
 | .region _ ops _=>ops.toList.flatMap fun o=>wP o++o.dst.toList
 | .seq a b=>dq a++dq b
 | .cond (.tmp t) a b=>t::(dq a++dq b)
 | .cond _ a b=>dq a++dq b
 | .block _ c=>dq c
 | .loop c=>dq c
 | _=>[]
def Df (t:Nat) (l:List Nat):Nat:=(l.filter (·== t)).length
def Gg (all:List Nat) (ops:List Oper):List Nat:=
 let here:=ops.flatMap fun o=>wP o++o.dst.toList
 (Az ops).filter fun d=>Df d here== Df d all
def o7 (ops:List Oper):List (List Nat):=
 ops.foldl (init:=[]) fun acc o=>
  acc++[(o.after.toList.flatMap fun e=>match e.ground with
   | .textOnly _ | .gcOnly _=>[]
   | _=>e.on::acc.getD e.on []).eraseDups]
def j0:List Oper→List Nat→List Nat
 | [],acc=>acc
 | o::os,acc=>match o.op,o.dst with
  | .indexAddr ..,some d=>j0 os (d::acc)
  | .fieldAddr _ (.tmp i) _,some d=>j0 os (if acc.contains i then d::acc else acc)
  | _,_=>j0 os acc
def B8 (cx:Cx) (all:List Oper) (draw:Bool):List Oper→List (List Nat)→Option (List Io)
 | [],_=>some []
 | o::os,an=>
  let g:Option (Option (Nat×Bool)):=match o.guard with
   | none=>some none
   | some (j,b)=>match (all[j]?).bind (·.dst) with | some d=>if d < cx.nt then some (some (d,b)) else none | none=>none
  match g,B8 cx all draw os an.tail with
  | some g,some r=>
   some (⟨o.dst,(cOp cx (j0 all []).contains o).getD .bad,g,if draw then an.headD [] else []⟩::r)
  | _,_=>none
def o9 (nt:Nat):List Oper→List Nat
 | []=>[]
 | o::os=>match o.op,o.dst with
  | .alloc _,some d=>(d+nt)::o9 nt os
  | .box _ _,some d=>(d+nt)::o9 nt os
  | .call { callee:= .value _, .. },some d=>(d+nt)::o9 nt os
  | _,_=>o9 nt os
def pe:Nat→List Oper→Bool
 | _,[]=>true
 | i,o::os=>(o.after.toList.all fun e=>(match e.ground with | .textOnly _ | .gcOnly _=>true | _=>e.on < i))&&pe (i+1) os
def cX (cx:Cx) (all:List Nat):Code→Cd
 | .skip=> .skip
 | .region _ ops draw=>
  let l:=ops.toList
  if draw&& !pe 0 l then .bad else
  match B8 cx l draw l (if draw then o7 l else []) with
  | some ios=> .region draw (mN [] l++o9 cx.nt l) (Gg all l) ios
  | none=> .bad
 | .seq a b=> .seq (cX cx all a) (cX cx all b)
 | .cond c a b=>match bj cx c with
  | some x=> .cond x (cX cx all a) (cX cx all b)
  | none=> .bad
 | .block id c=> .block id (cX cx all c)
 | .loop c=> .loop (cX cx all c)
 | .exit id=> .exit id
 | .ret=> .ret
 | _=> .bad
def oB (P:Program):List ResultVar→List (Nat×Option (Bool×Nat))
 | []=>[]
 | .tmp t::r=>(t,none)::oB P r
 | .cell a t::r=>(a,some ((iM P t).getD (false,0)))::oB P r
def iv:List ResultVar→List Nat
 | []=>[]
 | .tmp t::r=>t::iv r
 | .cell a _::r=>a::iv r
def cFn (P:Program) (canon:Nat→Option Nat) (sp:Nat) (modes:List Pm) (fn:Func):Option FnIr:=
 match fn.body with
 | none=>none
 | some c=>some ⟨sp,fn.params.size+fn.nfree,fn.ntmps,oB P fn.results.toList,modes,cX ⟨P,canon,fn.ntmps⟩ (dq c++iv fn.results.toList) c⟩
end Go.Vm
end
section
namespace Go.Vm
structure Tg where
 a:Option Addr
 cap:Nat
 k:Nat
abbrev A:=VA Tg
def gQ:A→Value
 | .ptr t _=> .pointer t.a
 | _=>undef
def VA.val (sid:Nat→Nat):A→Value
 | .int k n=> .int k n
 | .bool b=> .bool b
 | .str s=> .string s
 | .row t es=> .slice t.a es.length t.cap
 | .ptr t _=> .pointer t.a
 | .fn g caps=> .func (.func (sid g)) #[] (caps.map gQ).toArray
mutual
def VA.er:A→V
 | .int k n=> .int k n
 | .bool b=> .bool b
 | .str s=> .str s
 | .row _ es=> .row () (erR es)
 | .ptr _ cs=> .ptr () (erL cs)
 | .fn g caps=> .fn g (erL caps)
def erL:List A→List V
 | []=>[]
 | c::cs=>c.er::erL cs
def erR:List (List A)→List (List V)
 | []=>[]
 | e::es=>erL e::erR es
end
theorem il:∀ cs:List A,erL cs=cs.map VA.er
 | []=>rfl
 | c::cs=>by rw[erL,il cs];rfl
theorem ce:∀ es:List (List A),erR es=es.map (List.map VA.er)
 | []=>rfl
 | e::es=>by rw[erR,ce es,il];rfl
mutual
def VA.blks:A→List Nat
 | .row t es=>(match t.a with | some a=>[a.block] | none=>[])++gh es
 | _=>[]
def B5:List A→List Nat
 | []=>[]
 | c::cs=>c.blks++B5 cs
def gh:List (List A)→List Nat
 | []=>[]
 | e::es=>B5 e++gh es
end
theorem xw:∀ cs:List A,B5 cs=cs.flatMap VA.blks
 | []=>rfl
 | c::cs=>by rw[B5,xw cs];rfl
theorem cG:∀ es:List (List A),gh es=es.flatten.flatMap VA.blks
 | []=>rfl
 | e::es=>by rw[gh,cG es,xw];simp
theorem fX (v:A):aY v.er=aY v:=by cases v<;>simp[VA.er,aY]
theorem nT (v:A):scal v.er=scal v:=by cases v<;>simp[VA.er,scal]
theorem ji {v:A} (h:scal v=true):v.blks=[]:=by cases v<;>simp_all[scal,VA.blks]
inductive Rd (sid:Nat→Nat) (w:World) (R:Nat→Nat→Prop):A→Prop
 | int (k n):Rd sid w R (.int k n)
 | bool (b):Rd sid w R (.bool b)
 | str (s):Rd sid w R (.str s)
 | row (t es) (hk:∀ e∈es,e.length=t.k) (hcap:es.length≤t.cap)
   (h:∀ j c,es.flatten[j]?=some c→∃ b o,t.a=some ⟨b,o,none⟩∧R b (o+j)∧w.cell? ⟨b,o+j,none⟩=some (c.val sid))
   (hr:∀ c∈es.flatten,Rd sid w R c):Rd sid w R (.row t es)
 | ptr (t cs) (h:∀ j c,cs[j]?=some c→∃ b o,t.a=some ⟨b,o,none⟩∧R b (o+j)∧w.cell? ⟨b,o+j,none⟩=some (c.val sid))
   (hr:∀ c∈cs,Rd sid w R c):Rd sid w R (.ptr t cs)
 | fn (g caps) (hp:∀ c∈caps,∃ t cs,c= .ptr t cs) (hr:∀ c∈caps,Rd sid w R c):Rd sid w R (.fn g caps)
theorem Rd.mono {sid:Nat→Nat} {w w':World} {R R':Nat→Nat→Prop} {v:A} (h:Rd sid w R v) (hR:∀ b j,R b j→R' b j)
  (hw:∀ b j,R b j→w'.cell? ⟨b,j,none⟩=w.cell? ⟨b,j,none⟩):Rd sid w' R' v:=by
 induction h with
 | int k n=>exact .int k n
 | bool b=>exact .bool b
 | str s=>exact .str s
 | row t es hk hcap h hr ih=>
  refine .row t es hk hcap (fun j c hc=>?_) ih
  obtain ⟨b,o,h1,h2,h3⟩:=h j c hc
  exact ⟨b,o,h1,hR _ _ h2,(hw _ _ h2).trans h3⟩
 | ptr t cs h hr ih=>
  refine .ptr t cs (fun j c hc=>?_) ih
  obtain ⟨b,o,h1,h2,h3⟩:=h j c hc
  exact ⟨b,o,h1,hR _ _ h2,(hw _ _ h2).trans h3⟩
 | fn g caps hp hr ih=>exact .fn g caps hp ih
theorem Rd.of_scal {sid:Nat→Nat} {w:World} {R:Nat→Nat→Prop} {v:A} (h:scal v=true):Rd sid w R v:=by
 cases v with
 | int k n=>exact .int k n
 | bool b=>exact .bool b
 | str s=>exact .str s
 | row t es=>simp[scal] at h
 | ptr t cs=>simp[scal] at h
 | fn g caps=>simp[scal] at h
inductive Shp (sid:Nat→Nat) (w:World) (C:Nat→Nat→Prop):A→Prop
 | int (k n):Shp sid w C (.int k n)
 | bool (b):Shp sid w C (.bool b)
 | str (s):Shp sid w C (.str s)
 | nil (k):Shp sid w C (.row ⟨none,0,k⟩ [])
 | row (b cap k es cur e) (hb:w.heap[b]?=some (.cells cur e (0,0))) (hcap:es.length≤cap) (hmax:cap≤maxLen) (hsize:cur.size=cap * k)
   (hk:∀ e∈es,e.length=k) (hk0:0 < k) (hne:es=[]→cap=0)
   (htake:cur.toList.take (es.length * k)=es.flatten.map (VA.val sid)) (hC:∀ j,es.length * k≤j→¬C b j)
   (hr:∀ c∈es.flatten,Shp sid w C c):Shp sid w C (.row ⟨some ⟨b,0,none⟩,cap,k⟩ es)
def ShpG (w:World) (C:Nat→Nat→Prop) (v:A):Prop:=
 ∃ b cap cur e,v= .row ⟨some ⟨b,0,none⟩,cap,1⟩ []∧w.heap[b]?=some (.cells cur e (0,0))∧cap≤maxLen∧cur.size=cap∧∀ j,¬C b j
def Shp' (sid:Nat→Nat) (w:World) (C:Nat→Nat→Prop) (g:Bool) (v:A):Prop:=
 if g then ShpG w C v else Shp sid w C v
theorem aR {α:Type} {es:List (List α)} {k:Nat} (h:∀ e∈es,e.length=k):es.flatten.length=es.length * k:=by
 induction es with
 | nil=>simp
 | cons e es ih=>
  have h1:=h e (by simp)
  have h2:=ih (fun x hx=>h x (by simp[hx]))
  simp only[List.flatten_cons,List.length_append,List.length_cons,h1,h2,Nat.succ_mul];omega
theorem Shp.mono {sid:Nat→Nat} {w w':World} {C C':Nat→Nat→Prop} {v:A} (h:Shp sid w C v) (hC:∀ b∈v.blks,∀ j,C' b j→C b j)
  (hw:∀ b∈v.blks,w'.heap[b]?=w.heap[b]?):Shp sid w' C' v:=by
 induction h with
 | int k n=>exact .int k n
 | bool b=>exact .bool b
 | str s=>exact .str s
 | nil k=>exact .nil k
 | row b cap k es cur e hb hcap hmax hsize hk hk0 hne htake hfree hr ih=>
  have hbm:b∈(VA.row ⟨some ⟨b,0,none⟩,cap,k⟩ es:A).blks:=by simp[VA.blks]
  have hin:∀ c∈es.flatten,∀ x∈c.blks,x∈(VA.row ⟨some ⟨b,0,none⟩,cap,k⟩ es:A).blks:=by
   intro c hc x hx;simp only[VA.blks,cG];exact List.mem_append.2 (.inr (List.mem_flatMap.2 ⟨c,hc,hx⟩))
  refine .row b cap k es cur e ((hw b hbm).trans hb) hcap hmax hsize hk hk0 hne htake (fun j hj hc=>hfree j hj (hC b hbm j hc)) (fun c hc=>?_)
  exact ih c hc (fun x hx=>hC x (hin c hc x hx)) (fun x hx=>hw x (hin c hc x hx))
theorem Shp.of_scal {sid:Nat→Nat} {w:World} {C:Nat→Nat→Prop} {v:A} (h:scal v=true):Shp sid w C v:=by
 cases v with
 | int k n=>exact .int k n
 | bool b=>exact .bool b
 | str s=>exact .str s
 | row t es=>simp[scal] at h
 | ptr t cs=>simp[scal] at h
 | fn g caps=>simp[scal] at h
inductive InC:A→Nat→Nat→Prop
 | here (b cap k es j) (h:j < es.flatten.length):InC (.row ⟨some ⟨b,0,none⟩,cap,k⟩ es) b j
 | there (t es c b j) (hc:c∈es.flatten) (h:InC c b j):InC (.row t es) b j
theorem InC.blk {v:A} {b j:Nat} (h:InC v b j):b∈v.blks:=by
 induction h with
 | here b cap k es j h=>simp[VA.blks]
 | there t es c b j hc h ih=>simp only[VA.blks,cG];exact List.mem_append.2 (.inr (List.mem_flatMap.2 ⟨c,hc,ih⟩))
theorem dM {w:World} {b j:Nat} {cur:Array Value} {e:TypeId} {f:Nat×Nat} (h:w.heap[b]?=some (.cells cur e f)):w.cell? ⟨b,j,none⟩=cur[j]?:=by
 simp[World.cell?,h]
theorem Shp.rd {sid:Nat→Nat} {w:World} {C:Nat→Nat→Prop} {v:A} (h:Shp sid w C v):Rd sid w (InC v) v:=by
 induction h with
 | int k n=>exact .int k n
 | bool b=>exact .bool b
 | str s=>exact .str s
 | nil k=>exact .row _ _ (by simp) (by simp) (by simp) (by simp)
 | row b cap k es cur e hb hcap hmax hsize hk hk0 hne htake hfree hr ih=>
  refine .row _ _ hk hcap (fun j c hc=>?_) (fun c hc=>(ih c hc).mono (fun b j hj=> .there _ _ c b j hc hj) (fun _ _ _=>rfl))
  have hlt:j < es.flatten.length:=(List.getElem?_eq_some_iff.1 hc).1
  refine ⟨b,0,rfl,by rw[Nat.zero_add];exact .here b cap k es j hlt,?_⟩
  rw[Nat.zero_add,dM hb,←Array.getElem?_toList]
  have h1:(cur.toList.take (es.length * k))[j]?=(es.flatten.map (VA.val sid))[j]?:=by rw[htake]
  rw[List.getElem?_take,if_pos (by rw[←aR hk];exact hlt),List.getElem?_map,hc] at h1
  exact h1
theorem Shp.lt {sid:Nat→Nat} {w:World} {C:Nat→Nat→Prop} {v:A} (h:Shp sid w C v):∀ b∈v.blks,b < w.heap.size:=by
 induction h with
 | int k n=>simp[VA.blks]
 | bool b=>simp[VA.blks]
 | str s=>simp[VA.blks]
 | nil k=>simp[VA.blks,gh]
 | row b cap k es cur e hb hcap hmax hsize hk hk0 hne htake hfree hr ih=>
  intro x hx;simp only[VA.blks,cG,List.mem_append,List.mem_flatMap,List.mem_singleton] at hx;rcases hx with rfl | ⟨c,hc,hx⟩
  ·exact (Array.getElem?_eq_some_iff.1 hb).1
  ·exact ih c hc x hx
theorem dD {t:Tg} {es:List (List A)} {c:A} {x:Nat} (hc:c∈es.flatten) (hx:x∈c.blks):x∈(VA.row t es:A).blks:=by
 simp only[VA.blks,cG];exact List.mem_append.2 (.inr (List.mem_flatMap.2 ⟨c,hc,hx⟩))
theorem jC {α:Type} {f:α→List Nat}:∀ {l:List α},(l.flatMap f).Nodup→∀ c∈l,(f c).Nodup
 | [],_,c,hc=>by simp at hc
 | a::l,h,c,hc=>by
  rw[List.flatMap_cons,List.nodup_append] at h;rcases List.mem_cons.1 hc with rfl | hc
  ·exact h.1
  ·exact jC h.2.1 c hc
theorem lO {α:Type} {f:α→List Nat}:∀ {l:List α},(l.flatMap f).Nodup→∀ c∈l,∀ c'∈l,∀ x,x∈f c→x∈f c'→c=c'
 | [],_,c,hc,_,_,_,_,_=>by simp at hc
 | a::l,h,c,hc,c',hc',x,hx,hx'=>by
  rw[List.flatMap_cons,List.nodup_append] at h;rcases List.mem_cons.1 hc with e1 | m1<;>rcases List.mem_cons.1 hc' with e2 | m2
  ·rw[e1,e2]
  ·subst e1;exact absurd rfl (h.2.2 x hx x (List.mem_flatMap.2 ⟨c',m2,hx'⟩))
  ·subst e2;exact absurd rfl (h.2.2 x hx' x (List.mem_flatMap.2 ⟨c,m1,hx⟩))
  ·exact lO h.2.1 c m1 c' m2 x hx hx'
theorem Shp.commit {sid:Nat→Nat} {w:World} {C:Nat→Nat→Prop} {v:A} (h:Shp sid w C v) (hn:v.blks.Nodup):
  Shp sid w (fun b j=>C b j∨InC v b j) v:=by
 have key:∀ u:A,Shp sid w C u→u.blks.Nodup→∀ D:Nat→Nat→Prop,(∀ b∈u.blks,∀ j,D b j→C b j∨InC u b j)→Shp sid w D u:=by
  intro u hu;induction hu with
  | int k n=>intros;exact .int k n
  | bool b=>intros;exact .bool b
  | str s=>intros;exact .str s
  | nil k=>intros;exact .nil k
  | row b cap k es cur e hb hcap hmax hsize hk hk0 hne htake hfree hr ih=>
   intro hnd D hD;have hnd':b∉es.flatten.flatMap VA.blks∧(es.flatten.flatMap VA.blks).Nodup:=by
    simpa [VA.blks,cG] using hnd
   refine .row b cap k es cur e hb hcap hmax hsize hk hk0 hne htake (fun j hj hd=>?_) (fun c hc=>?_)
   ·rcases hD b (by simp[VA.blks]) j hd with hc | hi
    ·exact hfree j hj hc
    ·cases hi with
     | here _ _ _ _ _ hlt=>rw[aR hk] at hlt;omega
     | there _ _ c _ _ hc hi=>exact hnd'.1 (List.mem_flatMap.2 ⟨c,hc,hi.blk⟩)
   ·refine ih c hc (jC hnd'.2 c hc) D (fun x hx j hd=>?_)
    rcases hD x (dD hc hx) j hd with h1 | h1
    ·exact .inl h1
    ·cases h1 with
     | here _ _ _ _ _ hlt=>exact absurd (List.mem_flatMap.2 ⟨c,hc,hx⟩) hnd'.1
     | there _ _ c' _ _ hc' hi=>exact .inr (lO hnd'.2 c' hc' c hc x hi.blk hx▸hi)
 exact key v h hn _ (fun _ _ _ hd=>hd)
end Go.Vm
end
section
namespace Go.Vm
structure Env where
 P:Program
 sid:Nat→Nat
 nt:Nat
 base:Nat
 old:Nat→Nat→Prop
 chg:Nat→Prop
 par:Nat→Nat→Option A
 mt:Nat→Option (Tg×Nat)
 pb:Tg
abbrev SA:=Sl Tg
abbrev StA:=List SA
def Cell.er (x:Cell Tg):Cell Unit:=⟨x.v.er,x.f⟩
def Kd.er:Kd Tg→Kd Unit
 | .dead=> .dead
 | .und=> .und
 | .val=> .val
 | .agg=> .agg
 | .box _=> .box ()
 | .tup sh=> .tup sh
 | .ptr r o=> .ptr r o
 | .ept _ s ix=> .ept () s ix
 | .clo g rs=> .clo g rs
def Sl.er (s:SA):SU:=⟨s.k.er,s.cs.map Cell.er⟩
def erS (S:StA):St:=S.map Sl.er
def aD (S:StA) (s c:Nat):Option (Cell Tg):=(S[s]?).bind fun sl=>sl.cs[c]?
def aL (S:StA) (r:Nat):Option Addr:=
 match S[r]? with
 | some ⟨.box t,_⟩=>t.a
 | _=>none
def kj:List (Bool×Nat)→List Value→List Value
 | [],_=>[]
 | (agg,n)::r,vs=>(if agg then .agg (vs.take n).toArray else (vs.head?.getD undef))::kj r (vs.drop n)
def SlV (sid:Nat→Nat) (S:StA) (s:SA) (v:Value):Prop:=
 match s.k with
 | .dead=>True
 | .und=>v=undef
 | .val=>∃ c,s.cs=[c]∧v=c.v.val sid
 | .agg=>v= .agg (s.cs.map (·.v.val sid)).toArray
 | .box _=>False
 | .tup sh=>v= .tuple (kj sh (s.cs.map (·.v.val sid))).toArray
 | .ptr r off=>∃ b,aL S r=some ⟨b,0,none⟩∧v= .pointer (some ⟨b,off,none⟩)
 | .ept t _ _=>∃ b o,t.a=some ⟨b,o,none⟩∧v= .pointer (some ⟨b,o,none⟩)
 | .clo g rs=>(∀ r∈rs,∃ b,aL S r=some ⟨b,0,none⟩)∧v= .func (.func (sid g)) #[] (rs.map fun r=> .pointer (aL S r)).toArray
def Cell.own (x:Cell Tg):List Nat:=if aN x.f then x.v.blks else []
def Sl.boxOwn (s:SA):List Nat:=match s.k with | .box t=>(match t.a with | some a=>[a.block] | none=>[]) | _=>[]
def Sl.own (s:SA):List Nat:=s.boxOwn++s.cs.flatMap Cell.own
def aA (S:StA) (X:List (Cell Tg)):List Nat:=S.flatMap Sl.own++X.flatMap Cell.own
def Fst (E:Env) (w:World) (v:A):Prop:=
 Shp E.sid w (fun _ _=>False) v∧v.blks.Nodup∧∀ b∈v.blks,E.base≤b
def mv (S:StA) (s c:Nat):Prop:=∃ y,aD S s c=some y∧aY y.v=true
def CpOk (S:StA) (s c:Nat) (ix:Option Nat) (v:A):Prop:=
 mv S s c∧∀ y,aD S s c=some y→((∃ g,y.f= .ow g)∨∃ i,y.f= .mp i)→
  match ix with
  | none=>y.v=v
  | some ix=>∃ t es,y.v= .row t es∧es.flatten[ix]?=some v
def AD:A→Nat
 | .row _ es=>es.length
 | _=>0
def Ia (E:Env) (w:World) (C:Nat→Nat→Prop) (S:StA) (X:List (Cell Tg)) (s c ix:Nat) (v:A):Prop:=
 (∃ t es,v= .row t es∧cn es=true)∧mv S s c∧
 ∀ y,aD S s c=some y→(∃ g,y.f= .ow g)→Fst E w v∧((∀ b∈v.blks,b∉aA S X∧∀ j,¬C b j)∨
  ∃ t es u,y.v= .row t es∧es.flatten[ix]?=some u∧v.blks=u.blks∧AD u≤AD v)
def COk (E:Env) (w:World) (C:Nat→Nat→Prop) (S:StA) (X:List (Cell Tg)) (x:Cell Tg):Prop:=
 match x.f with
 | .sc=>scal x.v=true
 | .sp a c=>aY x.v=true∧Rd E.sid w E.old x.v∧E.par a c=some x.v
 | .sh=>Rd E.sid w E.old x.v
 | .nl=>∃ k,x.v= .row ⟨none,0,k⟩ []
 | .ow g=>aY x.v=true∧Shp' E.sid w C g x.v∧∀ b∈x.v.blks,E.base≤b
 | .nw g=>aY x.v=true∧Shp' E.sid w C g x.v∧∀ b∈x.v.blks,E.base≤b
 | .mp i=>Shp E.sid w C x.v∧(∃ t es,x.v= .row t es∧E.mt i=some (t,es.length))∧∀ b∈x.v.blks,E.base≤b∨E.chg b
 | .cp ck s c ix=>aY x.v=true∧Rd E.sid w C x.v∧CpOk S s c ix x.v∧(ck= .own→Fst E w x.v)
 | .ap s c ix=>Ia E w C S X s c ix x.v
 | .fr=>aY x.v=true∧Rd E.sid w C x.v∧Fst E w x.v
 | .no=>aY x.v=true∧Rd E.sid w C x.v
 | .dd=>True
def o6 (E:Env) (w:World) (C:Nat→Nat→Prop) (t:Tg) (cs:List (Cell Tg)):Prop:=
 ∃ b T,t.a=some ⟨b,0,none⟩∧w.heap[b]?=some (.cells (cs.map (·.v.val E.sid)).toArray T (0,0))∧(∀ j,¬C b j)∧(E.base≤b∨E.chg b)
def EptOk (E:Env) (w:World) (C:Nat→Nat→Prop) (S:StA) (t:Tg) (src:Option (Nat×Nat)) (ix:Nat) (cs:List (Cell Tg)):Prop:=
 ∃ b o,t.a=some ⟨b,o,none⟩∧
  (∀ j x,cs[j]?=some x→C b (o+j)∧w.cell? ⟨b,o+j,none⟩=some (x.v.val E.sid))∧
  match src with
  | none=>True
  | some (s,c)=>mv S s c∧∀ y,aD S s c=some y→((∃ g,y.f= .ow g)∨∃ i,y.f= .mp i)→
    ∃ t' es,y.v= .row t' es∧t'.a=some ⟨b,o - ix,none⟩∧ix≤o∧∀ j x,cs[j]?=some x→es.flatten[ix+j]?=some x.v
structure Inv (E:Env) (S:StA) (X:List (Cell Tg)) (C:Nat→Nat→Prop) (a:Act) (w:World):Prop where
 len:S.length=2 * E.nt+2
 tsz:a.tmps.size=E.nt
 nodef:a.defers=[]
 slv:∀ (i:Nat) (s:SA),i < E.nt→S[i]?=some s→SlV E.sid S s (a.tmps.getD i undef)
 high:∀ (i:Nat) (s:SA),E.nt≤i→S[i]?=some s→s.k= .dead∨s.k= .und∨∃ t,s.k= .box t∧(i=bf E.nt+1→t=E.pb)
 emp:∀ (i:Nat) (s:SA),S[i]?=some s→(s.k= .dead∨s.k= .und∨(∃ r o,s.k= .ptr r o)∨∃ g rs,s.k= .clo g rs)→s.cs=[]
 lock:∀ (i:Nat) (s:SA),E.nt≤i→S[i]?=some s→s.k= .und→i=bf E.nt
 noap:∀ l:SA,S[bf E.nt]?=some l→l.k= .dead→(∀ (i:Nat) (s:SA),S[i]?=some s→∀ x∈s.cs,∀ p q r,x.f≠ .ap p q r)∧∀ x∈X,∀ p q r,x.f≠ .ap p q r
 box:∀ (i:Nat) (s:SA) t,S[i]?=some s→s.k= .box t→o6 E w C t s.cs
 ept:∀ (i:Nat) (s:SA) t src ix,S[i]?=some s→s.k= .ept t src ix→EptOk E w C S t src ix s.cs
 cells:∀ (i:Nat) (s:SA),S[i]?=some s→∀ x∈s.cs,COk E w C S X x
 hand:∀ x∈X,COk E w C S X x
 cnt:∀ b,(aA S X).count b≤1
 olt:∀ b j,E.old b j→C b j
 clt:∀ b j,C b j→b < w.heap.size
 cbase:∀ b j,C b j→E.base≤b∨E.old b j∨E.chg b
 ownlt:∀ b∈aA S X,b < w.heap.size∧∀ j,¬E.old b j
theorem aP (s:SA):s.er.cs=s.cs.map Cell.er:=rfl
theorem bg (s:SA):s.er.k=s.k.er:=rfl
theorem nK (S:StA) (i:Nat):(erS S)[i]?=(S[i]?).map Sl.er:=by simp[erS]
theorem J7 (S:StA):(erS S).length=S.length:=by simp[erS]
theorem fi (S:StA) (i:Nat) (s:SA):erS (S.set i s)=(erS S).set i s.er:=by simp[erS,List.map_set]
theorem bJ {S:StA} {i:Nat} {s:SU} (h:(erS S)[i]?=some s):∃ t,S[i]?=some t∧t.er=s:=by
 rw[nK] at h;cases hs:S[i]? with
 | none=>simp[hs] at h
 | some t=>exact ⟨t,rfl,by simpa [hs] using h⟩
end Go.Vm
end
section
namespace Go.Vm
theorem FM.run_bind {α β:Type} (p:FM α) (f:α→FM β) (st:St):
  (p.bind f).run st=match p.run st with | some (a,st')=>(f a).run st' | none=>none:=by
 induction p generalizing st with
 | ret a=>rfl
 | get i k ih=>
  simp only[FM.bind,FM.run];cases st[i]? with
  | none=>rfl
  | some s=>exact ih s st
 | set i s k ih=>
  simp only[FM.bind,FM.run];split
  ·exact ih _
  ·rfl
 | fail=>rfl
theorem FM.bind_some {α β:Type} {p:FM α} {f:α→FM β} {st:St} {r:β×St} (h:(p.bind f).run st=some r):
  ∃ a st',p.run st=some (a,st')∧(f a).run st'=some r:=by
 rw[FM.run_bind] at h;cases hp:p.run st with
 | none=>rw[hp] at h;cases h
 | some x=>rw[hp] at h;exact ⟨x.1,x.2,rfl,h⟩
theorem cO {i:Nat} {st st':St} {s:SU} (h:(eP i).run st=some (s,st')):st[i]?=some s∧st'=st:=by
 simp only[eP,FM.run] at h;cases hs:st[i]? with
 | none=>simp[hs] at h
 | some t=>simp[hs] at h;exact ⟨by rw[h.1],h.2.symm⟩
theorem fH {i:Nat} {s:SU} {st st':St} {u:Unit} (h:(kE i s).run st=some (u,st')):i < st.length∧st'=st.set i s:=by
 simp only[kE,FM.run] at h;split at h
 ·rename_i hi;simp at h;exact ⟨hi,h.symm⟩
 ·cases h
theorem au {α:Type} {a b:α} {st st':St} (h:(FM.ret a).run st=some (b,st')):b=a∧st'=st:=by
 simp[FM.run] at h;exact ⟨h.1.symm,h.2.symm⟩
theorem ip {α:Type} {o:Option α} {b:α} {st st':St} (h:(opt o).run st=some (b,st')):o=some b∧st'=st:=by
 cases o with
 | none=>simp[opt,FM.run] at h
 | some a=>simp[opt,FM.run] at h;exact ⟨by rw[h.1],h.2.symm⟩
def hH (S:StA) (s c:Nat) (f:Fl):StA:=
 match S[s]? with
 | some sl=>match sl.cs[c]? with
  | some x=>S.set s ⟨sl.k,sl.cs.set c ⟨x.v,f⟩⟩
  | none=>S
 | none=>S
theorem nU {S:StA} {s c:Nat} {f:Fl} {sl:SA} {x:Cell Tg} (hs:S[s]?=some sl) (hc:sl.cs[c]?=some x):
  hH S s c f=S.set s ⟨sl.k,sl.cs.set c ⟨x.v,f⟩⟩:=by simp[hH,hs,hc]
theorem qT {S:StA} {s c:Nat} {f:Fl} {sl:SA} {x:Cell Tg} (hs:S[s]?=some sl) (hc:sl.cs[c]?=some x):
  erS (hH S s c f)=(erS S).set s (vN sl.er c f):=by
 rw[nU hs hc,fi]
 congr 1
 simp[vN,Sl.er,hc,List.map_set,Cell.er]
theorem aE {S:StA} {s c:Nat} {x:Cell Tg} (h:aD S s c=some x):∃ sl,S[s]?=some sl∧sl.cs[c]?=some x:=by
 unfold aD at h;cases hs:S[s]? with
 | none=>simp[hs] at h
 | some sl=>exact ⟨sl,rfl,by simpa [hs] using h⟩
theorem bN {S:StA} {s c:Nat} {sl:SA} {x:Cell Tg} (hs:S[s]?=some sl) (hc:sl.cs[c]?=some x):aD S s c=some x:=by simp[aD,hs,hc]
theorem ik {S:StA} {s c:Nat} {f:Fl} {x:Cell Tg} (hx:aD S s c=some x) (p q:Nat):
  aD (hH S s c f) p q=if p=s∧q=c then some ⟨x.v,f⟩ else aD S p q:=by
 obtain ⟨sl,hs,hc⟩:=aE hx
 rw[nU hs hc];have hlt:s < S.length:=(List.getElem?_eq_some_iff.1 hs).1
 have hltc:c < sl.cs.length:=(List.getElem?_eq_some_iff.1 hc).1
 unfold aD;by_cases hp:p=s
 ·subst hp;by_cases hq:q=c
  ·subst hq;simp[hlt,hltc]
  ·have:¬c=q:=fun e=>hq e.symm
   have hsp:S[p]=sl:=(List.getElem?_eq_some_iff.1 hs).2
   simp[hlt,hq,this,hsp]
 ·have:¬s=p:=fun e=>hp e.symm
  simp[hp,this]
theorem bk {α:Type} (f:α→List Nat) (b:Nat):∀ (l:List α) (i:Nat) (x y:α),l[i]?=some x→
  ((l.set i y).flatMap f).count b+(f x).count b=(l.flatMap f).count b+(f y).count b
 | [],i,x,y,h=>by simp at h
 | a::l,0,x,y,h=>by
  simp at h;subst h;simp[List.flatMap_cons,List.count_append];omega
 | a::l,i+1,x,y,h=>by
  have:=bk f b l i x y (by simpa using h)
  simp only[List.set_cons_succ,List.flatMap_cons,List.count_append];omega
theorem tY {S:StA} {X:List (Cell Tg)} {s c:Nat} {f:Fl} {x:Cell Tg} (hx:aD S s c=some x) (b:Nat):
  (aA (hH S s c f) X).count b+x.own.count b=(aA S X).count b+(Cell.own ⟨x.v,f⟩).count b:=by
 obtain ⟨sl,hs,hc⟩:=aE hx
 rw[nU hs hc];unfold aA;rw[List.count_append,List.count_append];have h1:=bk Sl.own b S s sl ⟨sl.k,sl.cs.set c ⟨x.v,f⟩⟩ hs;have h2:=bk Cell.own b sl.cs c x ⟨x.v,f⟩ hc;have h3:(Sl.own ⟨sl.k,sl.cs.set c ⟨x.v,f⟩⟩).count b+(Cell.own x).count b=sl.own.count b+(Cell.own ⟨x.v,f⟩).count b:=by
  unfold Sl.own;rw[List.count_append,List.count_append,show Sl.boxOwn ⟨sl.k,sl.cs.set c ⟨x.v,f⟩⟩=sl.boxOwn from rfl]
  simp only;omega
 omega
structure Less (S S':StA) (X X':List (Cell Tg)):Prop where
 own:∀ b,(aA S' X').count b≤(aA S X).count b
 row:∀ s c,mv S s c→mv S' s c
 at':∀ s c y,mv S s c→aD S' s c=some y→((∃ g,y.f= .ow g)∨∃ i,y.f= .mp i)→∃ z,aD S s c=some z∧z.v=y.v∧z.f=y.f
theorem Less.mem {S S':StA} {X X':List (Cell Tg)} (h:Less S S' X X') {b:Nat} (hb:b∈aA S' X'):b∈aA S X:=by
 have h1:=h.own b;have h2:=List.count_pos_iff.2 hb;exact List.count_pos_iff.1 (by omega)
theorem CpOk.less {S S':StA} {X X':List (Cell Tg)} {s c:Nat} {ix:Option Nat} {v:A} (h:CpOk S s c ix v) (hl:Less S S' X X'):CpOk S' s c ix v:=by
 refine ⟨hl.row s c h.1,fun y hy hf=>?_⟩
 obtain ⟨z,hz,hv,hzf⟩:=hl.at' s c y h.1 hy hf
 have:=h.2 z hz (by rw[hzf];exact hf)
 cases ix with
 | none=>exact hv▸this
 | some ix=>obtain ⟨t,es,h1,h2⟩:=this;exact ⟨t,es,hv▸h1,h2⟩
theorem COk.less {E:Env} {w:World} {C:Nat→Nat→Prop} {S S':StA} {X X':List (Cell Tg)} {x:Cell Tg} (h:COk E w C S X x) (hl:Less S S' X X'):COk E w C S' X' x:=by
 obtain ⟨v,f⟩:=x
 cases f with
 | cp ck s c ix=>exact ⟨h.1,h.2.1,h.2.2.1.less hl,h.2.2.2⟩
 | ap s c ix=>
  obtain ⟨h2,h0,h3⟩:=h
  refine ⟨h2,hl.row s c h0,fun y hy ⟨g,hg⟩=>?_⟩
  obtain ⟨z,hz,hv,hzf⟩:=hl.at' s c y h0 hy (.inl ⟨g,hg⟩)
  obtain ⟨h1,h4⟩:=h3 z hz ⟨g,by rw[hzf];exact hg⟩
  refine ⟨h1,h4.imp (fun h b hb=>⟨fun hm=>(h b hb).1 (hl.mem hm),(h b hb).2⟩) fun ⟨t,es,u,e1,e2⟩=>⟨t,es,u,hv▸e1,e2⟩⟩
 | _=>exact h
theorem EptOk.less {E:Env} {w:World} {C:Nat→Nat→Prop} {S S':StA} {X X':List (Cell Tg)} {t:Tg} {src:Option (Nat×Nat)} {ix:Nat} {cs:List (Cell Tg)}
  (h:EptOk E w C S t src ix cs) (hl:Less S S' X X'):EptOk E w C S' t src ix cs:=by
 obtain ⟨b,o,h1,h2,h3⟩:=h
 refine ⟨b,o,h1,h2,?_⟩
 cases src with
 | none=>trivial
 | some p=>
  obtain ⟨s,c⟩:=p
  refine ⟨hl.row s c h3.1,fun y hy hf=>?_⟩
  obtain ⟨z,hz,hv,hzf⟩:=hl.at' s c y h3.1 hy hf
  obtain ⟨t',es,e1,e2,e3⟩:=h3.2 z hz (by rw[hzf];exact hf)
  exact ⟨t',es,hv▸e1,e2,e3⟩
structure Same (S S':StA):Prop where
 len:S'.length=S.length
 slot:∀ (i:Nat) (s':SA),S'[i]?=some s'→∃ s:SA,S[i]?=some s∧s'.k=s.k∧s'.cs.map (·.v)=s.cs.map (·.v)
theorem Same.box {S S':StA} (h:Same S S') (r:Nat):aL S' r=aL S r:=by
 unfold aL;cases h':S'[r]? with
 | none=>
  have:S[r]?=none:=by rw[List.getElem?_eq_none_iff] at h' ⊢;rw[←h.len];exact h'
  rw[this]
 | some s'=>
  obtain ⟨s,hs,hk,_⟩:=h.slot r s' h'
  rw[hs];obtain ⟨k,cs⟩:=s
  obtain ⟨k',cs'⟩:=s'
  simp only at hk;subst hk;cases k'<;>rfl
theorem fA {α β:Type} {f:α→β} {l l':List α} (h:l'.map f=l.map f) {c:α} (hl:l=[c]):∃ c',l'=[c']∧f c'=f c:=by
 subst hl;cases l' with
 | nil=>simp at h
 | cons x r=>cases r with
  | nil=>exact ⟨x,rfl,by simpa using h⟩
  | cons y r=>simp at h
theorem d9 {sid:Nat→Nat} {l l':List (Cell Tg)} (h:l'.map (·.v)=l.map (·.v)):l'.map (·.v.val sid)=l.map (·.v.val sid):=by
 have h1:l'.map (·.v.val sid)=(l'.map (·.v)).map (VA.val sid):=by simp[List.map_map,Function.comp_def]
 have h2:l.map (·.v.val sid)=(l.map (·.v)).map (VA.val sid):=by simp[List.map_map,Function.comp_def]
 rw[h1,h2,h]
theorem SlV.same {sid:Nat→Nat} {S S':StA} (h:Same S S') {s s':SA} {v:Value} (hk:s'.k=s.k) (hv:s'.cs.map (·.v)=s.cs.map (·.v)) (hs:SlV sid S s v):SlV sid S' s' v:=by
 obtain ⟨k,cs⟩:=s
 obtain ⟨k',cs'⟩:=s'
 simp only at hk hv;subst hk;cases k' with
 | dead=>trivial
 | und=>exact hs
 | val=>
  obtain ⟨c,h1,h2⟩:=hs
  obtain ⟨c',e1,e2⟩:=fA hv h1
  exact ⟨c',e1,by rw[h2];exact congrArg _ e2.symm⟩
 | agg=>simp only[SlV] at hs ⊢;rw[d9 hv];exact hs
 | box t=>exact hs
 | tup sh=>simp only[SlV] at hs ⊢;rw[d9 hv];exact hs
 | ptr r off=>simp only[SlV] at hs ⊢;rw[h.box];exact hs
 | ept t src ix=>exact hs
 | clo g rs=>simp only[SlV] at hs ⊢;simp only[h.box];exact hs
theorem kf {S:StA} {s c:Nat} {f:Fl} {x:Cell Tg} (hx:aD S s c=some x):Same S (hH S s c f):=by
 obtain ⟨sl,hs,hc⟩:=aE hx
 rw[nU hs hc];refine ⟨by simp,fun i s' h=>?_⟩
 rw[List.getElem?_set] at h
 split at h
 ·rename_i hi;subst hi;split at h
  ·simp at h;subst h;refine ⟨sl,hs,rfl,?_⟩
   simp only[List.map_set];apply List.ext_getElem?;intro j;rw[List.getElem?_set]
   split
   ·rename_i hj;subst hj;obtain ⟨hl,he⟩:=List.getElem?_eq_some_iff.1 hc
    simp[hl,he]
   ·rfl
  ·cases h
 ·exact ⟨s',h,rfl,rfl⟩
theorem tL {S:StA} {s c:Nat} {f:Fl} {x:Cell Tg} (hx:aD S s c=some x) {i:Nat} {s':SA} (hi:(hH S s c f)[i]?=some s') {y:Cell Tg} (hy:y∈s'.cs):
  y=⟨x.v,f⟩∨∃ t,S[i]?=some t∧y∈t.cs:=by
 obtain ⟨j,hj⟩:=List.mem_iff_getElem?.1 hy
 have h1:=bN hi hj;rw[ik hx] at h1;split at h1
 ·exact .inl (Option.some.inj h1).symm
 ·obtain ⟨t,ht,hc⟩:=aE h1
  exact .inr ⟨t,ht,List.mem_iff_getElem?.2 ⟨j,hc⟩⟩
theorem x6 {S:StA} {X zs:List (Cell Tg)} {s c:Nat} {f:Fl} {x:Cell Tg} (hx:aD S s c=some x) (hno:aN f=false)
  (hcnt:∀ b,(zs.flatMap Cell.own).count b≤x.own.count b):Less S (hH S s c f) X (zs++X):=by
 refine ⟨fun b=>?_,fun p q ⟨y,hy,hyr⟩=>?_,fun p q y _ hy hf=>?_⟩
 ·have h1:=tY (X:=X) (f:=f) hx b;have h2:(Cell.own ⟨x.v,f⟩).count b=0:=by simp[Cell.own,hno]
  have h3:=hcnt b;simp only[aA,List.count_append,List.flatMap_append] at h1 ⊢;omega
 ·unfold mv;rw[ik hx];split
  ·rename_i hpq;obtain ⟨rfl,rfl⟩:=hpq
   rw[hx] at hy;obtain rfl:=Option.some.inj hy
   exact ⟨_,rfl,hyr⟩
  ·exact ⟨y,hy,hyr⟩
 ·rw[ik hx] at hy;split at hy
  ·obtain rfl:=Option.some.inj hy
   rcases hf with ⟨g,hg⟩ | ⟨i,hi⟩
   ·simp only at hg;rw[hg] at hno;simp[aN] at hno
   ·simp only at hi;rw[hi] at hno;simp[aN] at hno
  ·exact ⟨y,hy,rfl,rfl⟩
theorem xz {E:Env} {w:World} {C:Nat→Nat→Prop} {t:Tg} {cs cs':List (Cell Tg)} (h:o6 E w C t cs) (hv:cs'.map (·.v)=cs.map (·.v)):o6 E w C t cs':=by
 obtain ⟨b,T,h1,h2,h3⟩:=h
 exact ⟨b,T,h1,by rw[d9 hv];exact h2,h3⟩
theorem xH {E:Env} {w:World} {C:Nat→Nat→Prop} {S:StA} {t:Tg} {src:Option (Nat×Nat)} {ix:Nat} {cs cs':List (Cell Tg)} (h:EptOk E w C S t src ix cs) (hv:cs'.map (·.v)=cs.map (·.v)):
  EptOk E w C S t src ix cs':=by
 have key:∀ (j:Nat) (x:Cell Tg),cs'[j]?=some x→∃ y:Cell Tg,cs[j]?=some y∧y.v=x.v:=by
  intro j x hx;have h1:(cs'.map (·.v))[j]?=some x.v:=by simp[hx]
  rw[hv] at h1;simp only[List.getElem?_map,Option.map_eq_some_iff] at h1
  exact h1
 obtain ⟨b,o,h1,h2,h3⟩:=h
 refine ⟨b,o,h1,fun j x hx=>?_,?_⟩
 ·obtain ⟨y,hy,e⟩:=key j x hx
  rw[←e];exact h2 j y hy
 ·cases src with
  | none=>trivial
  | some p=>
   obtain ⟨s,c⟩:=p
   refine ⟨h3.1,fun y hy hf=>?_⟩
   obtain ⟨t',es,e1,e2,e3,e4⟩:=h3.2 y hy hf
   refine ⟨t',es,e1,e2,e3,fun j x hx=>?_⟩
   obtain ⟨z,hz,e⟩:=key j x hx
   rw[←e];exact e4 j z hz
theorem Inv.reflag {E:Env} {S:StA} {X:List (Cell Tg)} {C:Nat→Nat→Prop} {a:Act} {w:World} (h:Inv E S X C a w) {s c:Nat} {x:Cell Tg} (hx:aD S s c=some x)
  (f:Fl) (zs:List (Cell Tg)) (hno:aN f=false) (hf:COk E w C S X ⟨x.v,f⟩) (hz:∀ z∈zs,COk E w C S X z)
  (hcnt:∀ b,(zs.flatMap Cell.own).count b≤x.own.count b) (hap:∀ p q r,f≠ .ap p q r) (hapz:∀ z∈zs,∀ p q r,z.f≠ .ap p q r):Inv E (hH S s c f) (zs++X) C a w:=by
 have hl:Less S (hH S s c f) X (zs++X):=x6 hx hno hcnt;have hsm:=kf (f:=f) hx;refine ⟨hsm.len.trans h.len,h.tsz,h.nodef,?_,?_,?_,?_,?_,?_,?_,?_,?_,?_,h.olt,h.clt,h.cbase,fun b hb=>h.ownlt b (hl.mem hb)⟩
 ·intro i s' hi hs';obtain ⟨t,ht,hk,hv⟩:=hsm.slot i s' hs'
  exact (h.slv i t hi ht).same hsm hk hv
 ·intro i s' hi hs';obtain ⟨t,ht,hk,hv⟩:=hsm.slot i s' hs'
  rw[hk];exact h.high i t hi ht
 ·intro i s' hs' hk';obtain ⟨t,ht,hk,hv⟩:=hsm.slot i s' hs'
  have:=h.emp i t ht (by rw[←hk];exact hk')
  rw[this] at hv
  simpa using hv
 ·intro i s' hi hs' hu;obtain ⟨t,ht,hk,_⟩:=hsm.slot i s' hs'
  exact h.lock i t hi ht (hk▸hu)
 ·intro l hl' hd;obtain ⟨t,ht,hk,_⟩:=hsm.slot _ l hl'
  obtain ⟨h1,h2⟩:=h.noap t ht (hk▸hd)
  refine ⟨fun i s' hs' y hy=>?_,fun y hy=>?_⟩
  ·rcases tL hx hs' hy with rfl | ⟨t,ht,hm⟩
   ·exact hap
   ·exact h1 i t ht y hm
  ·rcases List.mem_append.1 hy with hy | hy
   ·exact hapz y hy
   ·exact h2 y hy
 ·intro i s' t hs' hk';obtain ⟨u,hu,hk,hv⟩:=hsm.slot i s' hs'
  exact xz (h.box i u t hu (hk▸hk')) hv
 ·intro i s' t src ix hs' hk';obtain ⟨u,hu,hk,hv⟩:=hsm.slot i s' hs'
  exact (xH (h.ept i u t src ix hu (hk▸hk')) hv).less hl
 ·intro i s' hs' y hy;rcases tL hx hs' hy with rfl | ⟨t,ht,hm⟩
  ·exact hf.less hl
  ·exact (h.cells i t ht y hm).less hl
 ·intro y hy;rcases List.mem_append.1 hy with hy | hy
  ·exact (hz y hy).less hl
  ·exact (h.hand y hy).less hl
 ·intro b;exact Nat.le_trans (hl.own b) (h.cnt b)
def aF (S:StA) (X:List (Cell Tg)):List (Cell Tg):=S.flatMap (·.cs)++X
theorem cI (S:StA) (X:List (Cell Tg)) (b:Nat):
  (aA S X).count b=(S.flatMap Sl.boxOwn).count b+((aF S X).flatMap Cell.own).count b:=by
 unfold aA aF;rw[List.flatMap_append,List.count_append,List.count_append];have:(S.flatMap Sl.own).count b=(S.flatMap Sl.boxOwn).count b+((S.flatMap (·.cs)).flatMap Cell.own).count b:=by
  induction S with
  | nil=>rfl
  | cons s S ih=>
   simp only[List.flatMap_cons,List.count_append,List.flatMap_append,ih];have:s.own.count b=s.boxOwn.count b+(s.cs.flatMap Cell.own).count b:=by
    unfold Sl.own;rw[List.count_append]
   omega
 omega
theorem mY {l:List Nat} (h:∀ b,l.count b≤1):l.Nodup:=List.nodup_iff_count.2 (fun b=>h b)
theorem Inv.apart {E:Env} {S:StA} {X:List (Cell Tg)} {C:Nat→Nat→Prop} {a:Act} {w:World} (h:Inv E S X C a w):((aF S X).flatMap Cell.own).Nodup:=
 mY fun b=>by have h1:=h.cnt b;rw[cI] at h1;omega
theorem Inv.one {E:Env} {S:StA} {X:List (Cell Tg)} {C:Nat→Nat→Prop} {a:Act} {w:World} (h:Inv E S X C a w) {x y:Cell Tg} (hx:x∈aF S X) (hy:y∈aF S X) {b:Nat}
  (hbx:b∈x.own) (hby:b∈y.own):x=y:=lO h.apart x hx y hy b hbx hby
theorem Inv.boxApart {E:Env} {S:StA} {X:List (Cell Tg)} {C:Nat→Nat→Prop} {a:Act} {w:World} (h:Inv E S X C a w) {i:Nat} {s:SA} (hs:S[i]?=some s) {b:Nat} (hb:b∈s.boxOwn)
  {x:Cell Tg} (hx:x∈aF S X):b∉x.own:=by
 intro hbx;have h1:=h.cnt b;rw[cI] at h1;have h2:0 < (S.flatMap Sl.boxOwn).count b:=List.count_pos_iff.2 (List.mem_flatMap.2 ⟨s,List.mem_of_getElem? hs,hb⟩);have h3:0 < ((aF S X).flatMap Cell.own).count b:=List.count_pos_iff.2 (List.mem_flatMap.2 ⟨x,hx,hbx⟩);omega
theorem dh {x:Cell Tg} (h:aN x.f=true) {b:Nat} (hb:b∈x.v.blks):b∈x.own:=by simp[Cell.own,h,hb]
theorem aX {S:StA} {X:List (Cell Tg)} {i:Nat} {s:SA} (hs:S[i]?=some s) {x:Cell Tg} (hx:x∈s.cs):x∈aF S X:=
 List.mem_append.2 (.inl (List.mem_flatMap.2 ⟨s,List.mem_of_getElem? hs,hx⟩))
theorem dT {S:StA} {X:List (Cell Tg)} {x:Cell Tg} (hx:x∈X):x∈aF S X:=List.mem_append.2 (.inr hx)
theorem Inv.nodupOwn {E:Env} {S:StA} {X:List (Cell Tg)} {C:Nat→Nat→Prop} {a:Act} {w:World} (h:Inv E S X C a w) {x:Cell Tg} (hx:x∈aF S X) (ho:aN x.f=true):x.v.blks.Nodup:=by
 have:=jC h.apart x hx
 simpa [Cell.own,ho] using this
theorem ShpG.mono {w:World} {C C':Nat→Nat→Prop} {v:A} (h:ShpG w C v) (hC:∀ b∈v.blks,∀ j,C' b j→C b j):ShpG w C' v:=by
 obtain ⟨b,cap,cur,e,rfl,h2,h3,h4,h5⟩:=h
 exact ⟨b,cap,cur,e,rfl,h2,h3,h4,fun j hj=>h5 j (hC b (by simp[VA.blks]) j hj)⟩
theorem uk {E:Env} {S:StA} {X:List (Cell Tg)} {C:Nat→Nat→Prop} {a:Act} {w:World} (h:Inv E S X C a w) {x y:Cell Tg} (hx:x∈aF S X) (hy:y∈aF S X)
  (hox:aN x.f=true) (hoy:aN y.f=true) (hs:Shp E.sid w C y.v):Shp E.sid w (fun b j=>C b j∨InC x.v b j) y.v:=by
 by_cases hb:∃ b,b∈x.v.blks∧b∈y.v.blks
 ·obtain ⟨b,h1,h2⟩:=hb
  obtain rfl:=h.one hx hy (dh hox h1) (dh hoy h2)
  exact hs.commit (h.nodupOwn hx hox)
 ·refine hs.mono (fun b hb' j hj=>?_) (fun _ _=>rfl)
  rcases hj with hj | hj
  ·exact hj
  ·exact absurd ⟨b,hj.blk,hb'⟩ hb
theorem B0 {w:World} {C:Nat→Nat→Prop} {v:A} (h:ShpG w C v) {b j:Nat} (hi:InC v b j):False:=by
 obtain ⟨_,_,_,_,rfl,_⟩:=h
 cases hi with
 | here _ _ _ _ _ h=>simp at h
 | there _ _ c _ _ hc _=>simp at hc
theorem Inv.ok {E:Env} {S:StA} {X:List (Cell Tg)} {C:Nat→Nat→Prop} {a:Act} {w:World} (h:Inv E S X C a w) (x:Cell Tg) (hx:x∈aF S X):COk E w C S X x:=by
 rcases List.mem_append.1 hx with hx | hx
 ·obtain ⟨s,hs,hm⟩:=List.mem_flatMap.1 hx
  obtain ⟨i,hi⟩:=List.mem_iff_getElem?.1 hs
  exact h.cells i s hi x hm
 ·exact h.hand x hx
theorem COk.own_base {E:Env} {w:World} {C:Nat→Nat→Prop} {S:StA} {X:List (Cell Tg)} {x:Cell Tg} (h:COk E w C S X x) (ho:aN x.f=true):∀ b∈x.v.blks,E.base≤b∨E.chg b:=by
 obtain ⟨v,f⟩:=x
 cases f with
 | ow g=>exact fun b hb=> .inl (h.2.2 b hb)
 | nw g=>exact fun b hb=> .inl (h.2.2 b hb)
 | mp i=>exact h.2.2
 | _=>simp[aN] at ho
theorem Inv.commit {E:Env} {S:StA} {X:List (Cell Tg)} {C:Nat→Nat→Prop} {a:Act} {w:World} (h:Inv E S X C a w) {x:Cell Tg} (hx:x∈aF S X) (ho:aN x.f=true)
  :Inv E S X (fun b j=>C b j∨InC x.v b j) a w:=by
 have hmono:∀ b j,C b j→C b j∨InC x.v b j:=fun _ _=> .inl
 have hblk:∀ b j,InC x.v b j→b∈x.own:=fun b j hi=>dh ho hi.blk
 have hrd:∀ {v:A},Rd E.sid w C v→Rd E.sid w (fun b j=>C b j∨InC x.v b j) v:=fun hr=>hr.mono hmono (fun _ _ _=>rfl)
 have hshp':∀ {y:Cell Tg},y∈aF S X→aN y.f=true→∀ g,Shp' E.sid w C g y.v→Shp' E.sid w (fun b j=>C b j∨InC x.v b j) g y.v:=by
  intro y hy hoy g hs;cases g with
  | false=>exact uk h hx hy ho hoy (by simpa [Shp'] using hs)
  | true=>
   have hs':ShpG w C y.v:=by simpa [Shp'] using hs
   show ShpG w _ y.v;refine hs'.mono fun b hb' j hj=>?_
   rcases hj with hj | hj
   ·exact hj
   ·have:=h.one hx hy (hblk b j hj) (dh hoy hb')
    subst this;exact (B0 hs' hj).elim
 have hcell:∀ y,y∈aF S X→COk E w C S X y→COk E w (fun b j=>C b j∨InC x.v b j) S X y:=by
  intro y hy hk;obtain ⟨v,f⟩:=y
  cases f with
  | ow g=>exact ⟨hk.1,hshp' hy rfl g hk.2.1,hk.2.2⟩
  | nw g=>exact ⟨hk.1,hshp' hy rfl g hk.2.1,hk.2.2⟩
  | mp i=>exact ⟨uk h hx hy ho rfl hk.1,hk.2.1,hk.2.2⟩
  | cp ck s c ix=>exact ⟨hk.1,hrd hk.2.1,hk.2.2⟩
  | fr=>exact ⟨hk.1,hrd hk.2.1,hk.2.2⟩
  | no=>exact ⟨hk.1,hrd hk.2⟩
  | ap s c ix=>
   refine ⟨hk.1,hk.2.1,fun y hy hg=>⟨(hk.2.2 y hy hg).1,(hk.2.2 y hy hg).2.imp (fun hn b hb=>⟨(hn b hb).1,fun j hj=>?_⟩) id⟩⟩
   rcases hj with hj | hj
   ·exact (hn b hb).2 j hj
   ·refine (hn b hb).1 ?_
    rw[←List.count_pos_iff,cI];have:=List.count_pos_iff.2 (List.mem_flatMap.2 ⟨x,hx,hblk b j hj⟩)
    omega
  | _=>exact hk
 refine ⟨h.len,h.tsz,h.nodef,h.slv,h.high,h.emp,h.lock,h.noap,?_,?_,?_,?_,h.cnt,fun b j ho=> .inl (h.olt b j ho),?_,?_,h.ownlt⟩
 ·intro i s t hs hk;obtain ⟨b,T,h1,h2,h3⟩:=h.box i s t hs hk
  refine ⟨b,T,h1,h2,fun j hj=>?_,h3.2⟩
  rcases hj with hj | hj
  ·exact h3.1 j hj
  ·exact h.boxApart hs (b:=b) (by simp[Sl.boxOwn,hk,h1]) hx (hblk b j hj)
 ·intro i s t src ix hs hk;obtain ⟨b,o,h1,h2,h3⟩:=h.ept i s t src ix hs hk
  exact ⟨b,o,h1,fun j y hy=>⟨.inl (h2 j y hy).1,(h2 j y hy).2⟩,h3⟩
 ·intro i s hs y hy;exact hcell y (aX hs hy) (h.cells i s hs y hy)
 ·intro y hy;exact hcell y (dT hy) (h.hand y hy)
 ·intro b j hj;rcases hj with hj | hj
  ·exact h.clt b j hj
  ·have:b∈aA S X:=by
    rw[←List.count_pos_iff,cI];have:=List.count_pos_iff.2 (List.mem_flatMap.2 ⟨x,hx,hblk b j hj⟩)
    omega
   exact (h.ownlt b this).1
 ·intro b j hj;rcases hj with hj | hj
  ·exact h.cbase b j hj
  ·have hk:=COk.own_base (h.ok x hx) ho b hj.blk;exact hk.imp id .inr
end Go.Vm
end
section
namespace Go.Vm
section
variable {E:Env} {S:StA} {X:List (Cell Tg)} {C:Nat→Nat→Prop} {a:Act} {w:World}
theorem Less.hand (zs:List (Cell Tg)) (hz:∀ z∈zs,aN z.f=false):Less S S X (zs++X):=by
 refine ⟨fun b=>?_,fun _ _ h=>h,fun s c y _ hy _=>⟨y,hy,rfl,rfl⟩⟩
 have:zs.flatMap Cell.own=[]:=by
  rw[List.flatMap_eq_nil_iff];intro z hm;simp[Cell.own,hz z hm]
 simp[aA,List.flatMap_append,this]
theorem Less.drop {z:Cell Tg}:Less S S (z::X) X:=by
 refine ⟨fun b=>?_,fun _ _ h=>h,fun s c y _ hy _=>⟨y,hy,rfl,rfl⟩⟩
 simp only[aA,List.flatMap_cons,List.count_append];omega
theorem Inv.rehand (h:Inv E S X C a w) {X':List (Cell Tg)} (hl:Less S S X X') (hz:∀ z∈X',COk E w C S X z) (hap:∀ z∈X',(∀ p q r,z.f≠ .ap p q r)∨z∈X):Inv E S X' C a w:=by
 refine ⟨h.len,h.tsz,h.nodef,h.slv,h.high,h.emp,h.lock,?_,h.box,?_,?_,?_,?_,h.olt,h.clt,h.cbase,fun b hb=>h.ownlt b (hl.mem hb)⟩
 ·intro l hl' hd;obtain ⟨h1,h2⟩:=h.noap l hl' hd
  refine ⟨h1,fun y hy=>?_⟩
  rcases hap y hy with h3 | h3
  ·exact h3
  ·exact h2 y h3
 ·exact fun i s t src ix hs hk=>(h.ept i s t src ix hs hk).less hl
 ·exact fun i s hs x hx=>(h.cells i s hs x hx).less hl
 ·exact fun x hx=>(hz x hx).less hl
 ·exact fun b=>Nat.le_trans (hl.own b) (h.cnt b)
theorem Inv.add (h:Inv E S X C a w) {z:Cell Tg} (ho:aN z.f=false) (hap:∀ p q r,z.f≠ .ap p q r) (hz:COk E w C S X z):Inv E S (z::X) C a w:=
 h.rehand (Less.hand [z] (by simpa using ho)) (fun _ hy=>by
  rcases List.mem_cons.1 hy with rfl | hy
  ·exact hz
  ·exact h.hand _ hy) (fun _ hy=>by
  rcases List.mem_cons.1 hy with rfl | hy
  ·exact .inl hap
  ·exact .inr hy)
theorem Inv.drop {z:Cell Tg} (h:Inv E S (z::X) C a w):Inv E S X C a w:=
 h.rehand Less.drop (fun _ hy=>h.hand _ (List.mem_cons_of_mem _ hy)) (fun _ hy=> .inr (List.mem_cons_of_mem _ hy))
theorem Inv.dropAll:∀ {zs:List (Cell Tg)},Inv E S (zs++X) C a w→Inv E S X C a w
 | [],h=>h
 | _::_,h=>Inv.dropAll (Inv.drop h)
theorem xP {v:A} {R:Nat→Nat→Prop} (h:ShpG w C v):Rd E.sid w R v:=by
 obtain ⟨b,cap,cur,e,rfl,_⟩:=h
 exact .row _ _ (by simp) (by simp) (by simp) (by simp)
theorem Fw (h:Inv E S X C a w) {x:Cell Tg} (hx:x∈aF S X) {g:Bool} (ho:aN x.f=true) (hr:aY x.v=true) (hs:Shp' E.sid w C g x.v) (hb:∀ b∈x.v.blks,E.base≤b)
  (X':List (Cell Tg)) (S':StA):COk E w (fun b j=>C b j∨InC x.v b j) S' X' ⟨x.v,mU g⟩:=by
 cases g with
 | false=>
  have hs':Shp E.sid w C x.v:=by simpa [Shp'] using hs
  have hnd:=h.nodupOwn hx ho;refine ⟨hr,hs'.rd.mono (fun _ _=> .inr) (fun _ _ _=>rfl),?_,hnd,hb⟩
  exact hs'.mono (fun _ _ _ hj=>hj.elim) (fun _ _=>rfl)
 | true=>exact ⟨hr,xP (C:=C) (by simpa [Shp'] using hs)⟩
def eO:Fl→Bool
 | .sc | .sp _ _ | .sh | .nl | .ow _ | .mp _ | .fr | .no=>true
 | _=>false
theorem fJ {f:Fl} (h:eO f=true):∀ p q r,f≠ .ap p q r:=by rintro p q r rfl;simp[eO] at h
theorem Inv.give (h:Inv E S X C a w) {s c:Nat} {x:Cell Tg} (hx:aD S s c=some x) {g:Bool} (hf:x.f= .ow g∨x.f= .nw g):
  Inv E (hH S s c (mU g)) (⟨x.v, .ow g⟩::X) (fun b j=>C b j∨InC x.v b j) a w:=by
 obtain ⟨sl,hs,hc⟩:=aE hx
 have hm:x∈aF S X:=aX hs (List.mem_of_getElem? hc);have ho:aN x.f=true:=by rcases hf with hf | hf<;>rw[hf]<;>rfl
 have hk:=h.ok x hm;have hk':aY x.v=true∧Shp' E.sid w C g x.v∧∀ b∈x.v.blks,E.base≤b:=by
  obtain ⟨v,f⟩:=x
  rcases hf with hf | hf<;>(simp only at hf;subst hf;exact hk)
 have h':=h.commit hm ho;have hk2:=h'.ok x hm;have hz:COk E w (fun b j=>C b j∨InC x.v b j) S X ⟨x.v, .ow g⟩:=by
  obtain ⟨v,f⟩:=x
  rcases hf with hf | hf<;>(simp only at hf;subst hf;exact hk2)
 refine h'.reflag hx (mU g) [⟨x.v, .ow g⟩] (by cases g<;>rfl) (Fw h hm ho hk'.1 hk'.2.1 hk'.2.2 _ _) (by simpa using hz) (fun b=>?_) (by cases g<;>simp[mU]) (by simp)
 simp[Cell.own,ho,show aN (.ow g)=true from rfl]
theorem Inv.giveMp (h:Inv E S X C a w) {s c:Nat} {x:Cell Tg} (hx:aD S s c=some x) {i:Nat} (hf:x.f= .mp i):
  Inv E (hH S s c .no) (⟨x.v, .mp i⟩::X) (fun b j=>C b j∨InC x.v b j) a w:=by
 obtain ⟨sl,hs,hc⟩:=aE hx
 have hm:x∈aF S X:=aX hs (List.mem_of_getElem? hc);have ho:aN x.f=true:=by rw[hf];rfl
 have h':=h.commit hm ho;have hk2:=h'.ok x hm;obtain ⟨v,f⟩:=x
 simp only at hf;subst hf;obtain ⟨h1,⟨t,es,h2,h3⟩,h4⟩:=hk2
 have hrd:Rd E.sid w (fun b j=>C b j∨InC v b j) v:=(h1.rd).mono (fun _ _=> .inr) (fun _ _ _=>rfl)
 refine h'.reflag hx .no [⟨v, .mp i⟩] rfl ⟨by rw[h2];rfl,hrd⟩ ?_ (fun b=>?_) (by simp) (by simp)
 ·intro z hz;rw[List.mem_singleton] at hz;subst hz;exact ⟨h1,⟨t,es,h2,h3⟩,h4⟩
 ·simp[Cell.own,aN]
theorem sV {s c:Nat} {f:Fl} {st st':St} {u:Unit} (h:(sU s c f).run st=some (u,st')):∃ sl,st[s]?=some sl∧st'=st.set s (vN sl c f):=by
 unfold sU at h;obtain ⟨sl,st1,h1,h2⟩:=FM.bind_some h
 obtain ⟨h3,rfl⟩:=cO h1
 exact ⟨sl,h3,(fH h2).2⟩
theorem uK (h:Inv E S X C a w) {s c:Nat} {x:Cell Tg} (hx:aD S s c=some x) {y:Cell Unit} {st1:St} (hr:(kX s c x.er).run (erS S)=some (y,st1)):
  ∃ S1 C1 z,erS S1=st1∧z.er=y∧z.v=x.v∧eO z.f=true∧Inv E S1 (z::X) C1 a w∧Same S S1∧∀ b j,C b j→C1 b j:=by
 obtain ⟨sl,hs,hc⟩:=aE hx
 have hm:x∈aF S X:=aX hs (List.mem_of_getElem? hc);have hk:=h.ok x hm;have hself:Same S S:=⟨rfl,fun i s' hs'=>⟨s',hs',rfl,rfl⟩⟩
 have ej:∀ f:Fl,eO f=true→aN f=false→COk E w C S X ⟨x.v,f⟩→y=⟨x.v.er,f⟩→st1=erS S→
   ∃ S1 C1 z,erS S1=st1∧z.er=y∧z.v=x.v∧eO z.f=true∧Inv E S1 (z::X) C1 a w∧Same S S1∧∀ b j,C b j→C1 b j:=by
  rintro f ht ho hok rfl rfl
  exact ⟨S,C,⟨x.v,f⟩,rfl,rfl,rfl,ht,h.add ho (fJ ht) hok,hself,fun _ _ hh=>hh⟩
 have give:∀ g:Bool,(x.f= .ow g∨x.f= .nw g)→((sU s c (mU g)).bind fun _=>FM.ret (⟨x.v.er,Fl.ow g⟩:Cell Unit)).run (erS S)=some (y,st1)→
   ∃ S1 C1 z,erS S1=st1∧z.er=y∧z.v=x.v∧eO z.f=true∧Inv E S1 (z::X) C1 a w∧Same S S1∧∀ b j,C b j→C1 b j:=by
  intro g hf hr;obtain ⟨u,st2,h1,h2⟩:=FM.bind_some hr
  obtain ⟨rfl,rfl⟩:=au h2
  obtain ⟨sl',h3,rfl⟩:=sV h1
  rw[nK,hs] at h3;simp only[Option.map_some,Option.some.injEq] at h3;subst h3;exact ⟨_,_,⟨x.v, .ow g⟩,qT hs hc,rfl,rfl,rfl,h.give hx hf,kf hx,fun _ _=> .inl⟩
 obtain ⟨v,f⟩:=x
 cases f with
 | sc=>obtain ⟨rfl,rfl⟩:=au hr;exact ej .sc rfl rfl hk rfl rfl
 | sp p q=>obtain ⟨rfl,rfl⟩:=au hr;exact ej (.sp p q) rfl rfl hk rfl rfl
 | sh=>obtain ⟨rfl,rfl⟩:=au hr;exact ej .sh rfl rfl hk rfl rfl
 | nl=>obtain ⟨rfl,rfl⟩:=au hr;exact ej .nl rfl rfl hk rfl rfl
 | fr=>obtain ⟨rfl,rfl⟩:=au hr;exact ej .fr rfl rfl hk rfl rfl
 | no=>obtain ⟨rfl,rfl⟩:=au hr;exact ej .no rfl rfl hk rfl rfl
 | dd=>simp[kX,Cell.er,FM.run] at hr
 | ap p q r=>simp[kX,Cell.er,FM.run] at hr
 | ow g=>exact give g (.inl rfl) hr
 | nw g=>exact give g (.inr rfl) hr
 | mp i=>
  simp only[kX,Cell.er] at hr;obtain ⟨u,st2,h1,h2⟩:=FM.bind_some hr
  obtain ⟨rfl,rfl⟩:=au h2
  obtain ⟨sl',h3,rfl⟩:=sV h1
  rw[nK,hs] at h3;simp only[Option.map_some,Option.some.injEq] at h3;subst h3;exact ⟨_,_,⟨v, .mp i⟩,qT hs hc,rfl,rfl,rfl,h.giveMp hx rfl,kf hx,fun _ _=> .inl⟩
 | cp ck p q ix=>
  have hno:COk E w C S X ⟨v, .no⟩:=⟨hk.1,hk.2.1⟩;have hck:COk E w C S X ⟨v,uC ck⟩:=by
   cases ck with
   | own=>exact ⟨hk.1,hk.2.1,hk.2.2.2 rfl⟩
   | grn=>exact hno
   | chg=>exact hno
  have ht:eO (uC ck)=true:=by cases ck<;>rfl
  have ho:aN (uC ck)=false:=by cases ck<;>rfl
  cases ix with
  | some ix=>
   have hr':(FM.ret (⟨v.er,uC ck⟩:Cell Unit)).run (erS S)=some (y,st1):=by
    cases ck<;>exact hr
   obtain ⟨rfl,rfl⟩:=au hr'
   exact ej _ ht ho hck rfl rfl
  | none=>
   by_cases hc':ck= .chg
   ·subst hc';simp only[kX,Cell.er] at hr;obtain ⟨rfl,rfl⟩:=au hr
    exact ej .no rfl rfl hno rfl rfl
   ·have hr':((eP p).bind fun sl=>match qt sl q with
      | some (.ow g)=>(kE p (vN sl q (mU g))).bind fun _=> .ret (⟨v.er, .ow g⟩:Cell Unit)
      | _=> .ret ⟨v.er,uC ck⟩).run (erS S)=some (y,st1):=by
     cases ck with
     | chg=>exact absurd rfl hc'
     | own=>exact hr
     | grn=>exact hr
    obtain ⟨sl',st2,h1,h2⟩:=FM.bind_some hr'
    obtain ⟨h3,rfl⟩:=cO h1
    obtain ⟨slA,hA,rfl⟩:=bJ h3
    split at h2
    ·rename_i g hfl;obtain ⟨u,st3,h4,h5⟩:=FM.bind_some h2
     obtain ⟨rfl,rfl⟩:=au h5
     have h6:=(fH h4).2;subst h6;simp only[qt,aP,List.getElem?_map,Option.map_map,Option.map_eq_some_iff] at hfl
     obtain ⟨z,hz,hzf⟩:=hfl
     have hzf':z.f= .ow g:=hzf;have hzat:=bN hA hz;have hzv:z.v=v:=hk.2.2.1.2 z hzat (.inl ⟨g,hzf'⟩);refine ⟨_,_,⟨z.v, .ow g⟩,qT hA hz,by rw[hzv];rfl,hzv,rfl,h.give hzat (.inl hzf'),kf hzat,fun _ _=> .inl⟩
    ·obtain ⟨rfl,rfl⟩:=au h2
     exact ej _ ht ho hck rfl rfl
end
end Go.Vm
end
section
namespace Go.Vm
structure Fits (E:Env) (cx:Cx):Prop where
 P:cx.P=E.P
 nt:cx.nt=E.nt
 fn:∀ f g,cx.canon f=some g→E.sid g=f
 mixed:E.P.follows .mixedOrders=true
def cA:V→A
 | .int k n=> .int k n
 | .bool b=> .bool b
 | .str s=> .str s
 | .row _ _=> .row ⟨none,0,0⟩ []
 | .ptr _ _=> .bool false
 | .fn _ _=> .bool false
theorem kL {sid:Nat→Nat} {x:Value} {v:V} (h:cQ x=some v):
  (cA v).er=v∧(cA v).val sid=x∧(scal (cA v)=true∨cA v= .row ⟨none,0,0⟩ [])∧aY v=aY (cA v)∧(scal (cA v)=true↔aY v=false):=by
 cases x with
 | int k n=>simp only[cQ,Option.some.injEq] at h;subst h;simp[cA,VA.er,VA.val,scal,aY]
 | bool b=>simp only[cQ,Option.some.injEq] at h;subst h;simp[cA,VA.er,VA.val,scal,aY]
 | string s=>simp only[cQ,Option.some.injEq] at h;subst h;simp[cA,VA.er,VA.val,scal,aY]
 | slice a len cap=>
  unfold cQ at h;split at h<;>simp_all
  rename_i heq;obtain ⟨rfl,rfl,rfl⟩:=heq
  subst h;simp[cA,VA.er,VA.val,scal,aY,erR]
 | _=>simp[cQ] at h
def cH (v:V):Cell Tg:=⟨cA v,if aY v then .nl else .sc⟩
theorem n7 {E:Env} {w:World} {C:Nat→Nat→Prop} {S:StA} {X:List (Cell Tg)} {x:Value} {v:V} (h:cQ x=some v):
  (cH v).er=cP v∧COk E w C S X (cH v)∧aN (cH v).f=false∧eO (cH v).f=true∧(cH v).v.val E.sid=x:=by
 obtain ⟨h1,h2,h3,h4,h5⟩:=kL (sid:=E.sid) h
 unfold cH;cases hr:aY v with
 | true=>
  have hs:scal (cA v)≠true:=by intro hs;rw[h5] at hs;rw[hs] at hr;cases hr
  refine ⟨by simp[Cell.er,h1,cP,hr],⟨0,h3.resolve_left hs⟩,rfl,rfl,h2⟩
 | false=>
  refine ⟨by simp[Cell.er,h1,cP,hr],h5.2 hr,rfl,rfl,h2⟩
theorem kU {α β:Type} {f:α→Option β}:∀ {l:List α} {r:List β},bU f l=some r→r.length=l.length∧∀ (i:Nat) (x:α),l[i]?=some x→∃ y,r[i]?=some y∧f x=some y
 | [],r,h=>by simp[bU] at h;subst h;simp
 | a::l,r,h=>by
  unfold bU at h;cases h1:f a with
  | none=>simp[h1] at h
  | some y=>cases h2:bU f l with
   | none=>simp[h1,h2] at h
   | some ys=>
    simp[h1,h2] at h;subst h;obtain ⟨e1,e2⟩:=kU h2
    refine ⟨by simp[e1],fun i x hx=>?_⟩
    cases i with
    | zero=>simp at hx;subst hx;exact ⟨y,rfl,h1⟩
    | succ i=>exact e2 i x (by simpa using hx)
section
variable {E:Env} {cx:Cx} {S:StA} {X:List (Cell Tg)} {C:Nat→Nat→Prop} {a:Act} {w:World}
theorem eZ:∀ {xs:List Value} {cs:List V},bU cQ xs=some cs→
  (cs.map cH).map Cell.er=cs.map cP∧(∀ z∈cs.map cH,COk E w C S X z∧aN z.f=false∧eO z.f=true)∧(cs.map cH).map (·.v.val E.sid)=xs
 | [],cs,h=>by simp[bU] at h;subst h;simp
 | x::xs,cs,h=>by
  unfold bU at h;cases h1:cQ x with
  | none=>simp[h1] at h
  | some y=>cases h2:bU cQ xs with
   | none=>simp[h1,h2] at h
   | some ys=>
    simp[h1,h2] at h;subst h;obtain ⟨e1,e2,e3⟩:=eZ h2
    obtain ⟨k1,k2,k3,k4,k5⟩:=n7 (E:=E) (w:=w) (C:=C) (S:=S) (X:=X) h1
    refine ⟨by simp[k1,e1],fun z hz=>?_,by simp[k5,e3]⟩
    simp only[List.map_cons,List.mem_cons] at hz;rcases hz with rfl | hz
    ·exact ⟨k2,k3,k4⟩
    ·exact e2 z hz
inductive OpR (E:Env) (S:StA) (w:World) (C:Nat→Nat→Prop) (X:List (Cell Tg)) (v:Value):Opd→SA→Prop
 | slot (i:Nat) (s:SA) (hi:i < E.nt) (hs:S[i]?=some s) (hv:SlV E.sid S s v):OpR E S w C X v (.t i) s
 | const (agg:Bool) (cs:List V) (s:SA) (hk:s.k=if agg then .agg else .val) (he:s.er=⟨if agg then .agg else .val,cs.map cP⟩)
   (hok:∀ z∈s.cs,COk E w C S X z∧aN z.f=false∧eO z.f=true)
   (hv:v=if agg then .agg (s.cs.map (·.v.val E.sid)).toArray else (s.cs.map (·.v.val E.sid)).headD undef) (h1:agg=false→∃ z,s.cs=[z]):OpR E S w C X v (.c agg cs) s
 | fn (g:Nat) (hv:v= .func (.func (E.sid g)) #[] #[]):OpR E S w C X v (.f g) ⟨.val,[⟨.fn g [], .sh⟩]⟩
theorem da (hf:Fits E cx) (h:Inv E S X C a w) {ox:Operand} {x:Opd} (hc:bj cx ox=some x) {sl:SU} {st1:St} (hr:(opd x).run (erS S)=some (sl,st1)):
  st1=erS S∧∃ s:SA,s.er=sl∧OpR E S w C X (a.eval ox) x s:=by
 cases ox with
 | tmp t=>
  simp only[bj] at hc;split at hc
  ·rename_i ht;simp only[Option.some.injEq] at hc;subst hc;obtain ⟨h1,rfl⟩:=cO hr
   obtain ⟨s,hs,rfl⟩:=bJ h1
   have ht':t < E.nt:=hf.nt▸ht;exact ⟨rfl,s,rfl, .slot t s ht' hs (h.slv t s ht' hs)⟩
  ·cases hc
 | const v=>
  by_cases hagg:∃ cs,v= .agg cs
  ·obtain ⟨cs,rfl⟩:=hagg
   simp only[bj,Option.map_eq_some_iff] at hc;obtain ⟨vs,h1,rfl⟩:=hc
   obtain ⟨rfl,rfl⟩:=au hr
   obtain ⟨e1,e2,e3⟩:=eZ (E:=E) (w:=w) (C:=C) (S:=S) (X:=X) h1
   refine ⟨rfl,⟨.agg,vs.map cH⟩,by simp[Sl.er,Kd.er,e1], .const true vs _ rfl (by simp[Sl.er,Kd.er,e1]) e2 ?_ (by simp)⟩
   simp only[Act.eval,if_true,e3]
  ·have hc':(cQ v).map (fun v=>Opd.c false [v])=some x:=by
    cases v with
    | agg cs=>exact absurd ⟨cs,rfl⟩ hagg
    | _=>exact hc
   simp only[Option.map_eq_some_iff] at hc';obtain ⟨u,h1,rfl⟩:=hc'
   obtain ⟨rfl,rfl⟩:=au hr
   obtain ⟨k1,k2,k3,k4,k5⟩:=n7 (E:=E) (w:=w) (C:=C) (S:=S) (X:=X) h1
   refine ⟨rfl,⟨.val,[cH u]⟩,by simp[Sl.er,Kd.er,k1], .const false [u] _ rfl (by simp[Sl.er,Kd.er,k1]) ?_ ?_ (fun _=>⟨_,rfl⟩)⟩
   ·intro z hz;rw[List.mem_singleton] at hz;subst hz;exact ⟨k2,k3,k4⟩
   ·simp[Act.eval,k5]
 | global g=>simp[bj] at hc
 | func f=>
  simp only[bj,Option.map_eq_some_iff] at hc;obtain ⟨g,h1,rfl⟩:=hc
  obtain ⟨rfl,rfl⟩:=au hr
  refine ⟨rfl,⟨.val,[⟨.fn g [], .sh⟩]⟩,by simp[Sl.er,Kd.er,Cell.er,VA.er,erL], .fn g ?_⟩
  simp[Act.eval,hf.fn f g h1]
theorem Same.trans {S₁ S₂ S₃:StA} (h:Same S₁ S₂) (k:Same S₂ S₃):Same S₁ S₃:=
 ⟨k.len.trans h.len,fun i s hs=>by
  obtain ⟨t,ht,e1,e2⟩:=k.slot i s hs
  obtain ⟨u,hu,e3,e4⟩:=h.slot i t ht
  exact ⟨u,hu,e1.trans e3,e2.trans e4⟩⟩
theorem Same.to {S S':StA} (h:Same S S') {i:Nat} {s:SA} (hs:S[i]?=some s):∃ s',S'[i]?=some s'∧s'.k=s.k∧s'.cs.map (·.v)=s.cs.map (·.v):=by
 have hlt:i < S'.length:=by rw[h.len];exact (List.getElem?_eq_some_iff.1 hs).1
 obtain ⟨t,ht,h1,h2⟩:=h.slot i S'[i] (List.getElem?_eq_getElem hlt)
 rw[hs] at ht;obtain rfl:=Option.some.inj ht
 exact ⟨_,List.getElem?_eq_getElem hlt,h1,h2⟩
theorem Less.perm {X X':List (Cell Tg)} (h:X.Perm X'):Less S S X X':=
 ⟨fun b=>by
  simp only[aA,List.count_append];have:=(h.flatMap_right Cell.own).count_eq b
  omega,fun _ _ h=>h,fun s c y _ hy _=>⟨y,hy,rfl,rfl⟩⟩
theorem Inv.perm (h:Inv E S X C a w) {X':List (Cell Tg)} (hp:X.Perm X'):Inv E S X' C a w:=
 h.rehand (Less.perm hp) (fun _ hz=>h.hand _ (hp.mem_iff.2 hz)) (fun _ hz=> .inr (hp.mem_iff.2 hz))
theorem nA {s:Nat}:∀ (n c:Nat) {S:StA} {X:List (Cell Tg)} {C:Nat→Nat→Prop} {ys:List (Cell Unit)} {st1:St},Inv E S X C a w→
  (nV s n c).run (erS S)=some (ys,st1)→
  ∃ S1 C1 zs,erS S1=st1∧zs.map Cell.er=ys∧(∀ z∈zs,eO z.f=true)∧Inv E S1 (zs++X) C1 a w∧Same S S1∧(∀ b j,C b j→C1 b j)∧
   (∀ sl,S[s]?=some sl→zs.map (·.v)=((sl.cs.drop c).take n).map (·.v))∧zs.length=n
 | 0,c,S,X,C,ys,st1,h,hr=>by
  obtain ⟨rfl,rfl⟩:=au hr
  exact ⟨S,C,[],rfl,rfl,by simp,h,⟨rfl,fun i s' hs'=>⟨s',hs',rfl,rfl⟩⟩,fun _ _ hh=>hh,by simp,rfl⟩
 | n+1,c,S,X,C,ys,st1,h,hr=>by
  unfold nV at hr;obtain ⟨slU,st2,h1,h2⟩:=FM.bind_some hr
  obtain ⟨h3,rfl⟩:=cO h1
  obtain ⟨sl,hs,rfl⟩:=bJ h3
  split at h2
  ·rename_i xU hxU;rw[aP,List.getElem?_map,Option.map_eq_some_iff] at hxU
   obtain ⟨x,hx,rfl⟩:=hxU
   obtain ⟨y,st3,h4,h5⟩:=FM.bind_some h2
   obtain ⟨yr,st4,h6,h7⟩:=FM.bind_some h5
   obtain ⟨rfl,rfl⟩:=au h7
   obtain ⟨S1,C1,z,rfl,rfl,hzv,ht,hi,hsm,hC⟩:=uK h (bN hs hx) h4
   obtain ⟨S2,C2,zs,rfl,rfl,ht2,hi2,hsm2,hC2,hv2,hl2⟩:=nA n (c+1) hi h6
   refine ⟨S2,C2,z::zs,rfl,rfl,?_,hi2.perm ?_,hsm.trans hsm2,fun b j hh=>hC2 b j (hC b j hh),?_,by simp[hl2]⟩
   ·intro y hy;rcases List.mem_cons.1 hy with rfl | hy
    ·exact ht
    ·exact ht2 y hy
   ·exact List.perm_middle
   ·intro sl' hs';rw[hs] at hs';obtain rfl:=Option.some.inj hs'
    obtain ⟨sl1,hsl1,_,hvv⟩:=hsm.to hs
    have:=hv2 sl1 hsl1
    simp only[List.map_cons,this,hzv];have hlt:=(List.getElem?_eq_some_iff.1 hx).1
    rw[List.drop_eq_getElem_cons hlt,List.take_succ_cons,List.map_cons,(List.getElem?_eq_some_iff.1 hx).2]
    congr 1
    rw[List.map_take,List.map_drop,hvv,←List.map_drop,←List.map_take]
  ·simp[FM.run] at h2
theorem gy (hf:Fits E cx) (h:Inv E S X C a w) {ox:Operand} {x:Opd} (hc:bj cx ox=some x) {y:Bool×List (Cell Unit)} {st1:St} (hr:(take x).run (erS S)=some (y,st1)):
  ∃ S1 C1 zs,erS S1=st1∧zs.map Cell.er=y.2∧(∀ z∈zs,eO z.f=true)∧Inv E S1 (zs++X) C1 a w∧Same S S1∧(∀ b j,C b j→C1 b j)∧
   (if y.1 then a.eval ox= .agg (zs.map (·.v.val E.sid)).toArray else ∃ z,zs=[z]∧a.eval ox=z.v.val E.sid):=by
 unfold take at hr;obtain ⟨sl,st2,h1,h2⟩:=FM.bind_some hr
 obtain ⟨rfl,s,rfl,ho⟩:=da hf h hc h1
 obtain ⟨cs,st3,h3,h4⟩:=FM.bind_some h2
 have fin:∀ {S1 C1 zs},erS S1=st3→zs.map Cell.er=cs→(∀ z∈zs,eO z.f=true)→Inv E S1 (zs++X) C1 a w→Same S S1→(∀ b j,C b j→C1 b j)→zs.map (·.v)=s.cs.map (·.v)→
   (s.k= .val→∃ z,s.cs=[z]∧a.eval ox=z.v.val E.sid)→(s.k= .agg→a.eval ox= .agg (s.cs.map (·.v.val E.sid)).toArray)→
   ∃ S1 C1 zs,erS S1=st1∧zs.map Cell.er=y.2∧(∀ z∈zs,eO z.f=true)∧Inv E S1 (zs++X) C1 a w∧Same S S1∧(∀ b j,C b j→C1 b j)∧
   (if y.1 then a.eval ox= .agg (zs.map (·.v.val E.sid)).toArray else ∃ z,zs=[z]∧a.eval ox=z.v.val E.sid):=by
  intro S1 C1 zs e1 e2 e3 e4 e5 e6 e7 e8 e9;subst e1;rw[bg] at h4;cases hk:s.k with
  | val=>
   rw[hk] at h4;obtain ⟨rfl,rfl⟩:=au h4
   obtain ⟨z,hz,hv⟩:=e8 hk
   obtain ⟨z',hz',hzv⟩:=fA e7 hz
   exact ⟨S1,C1,zs,rfl,e2,e3,e4,e5,e6,z',hz',by rw[hv];exact congrArg _ hzv.symm⟩
  | agg=>
   rw[hk] at h4;obtain ⟨rfl,rfl⟩:=au h4
   exact ⟨S1,C1,zs,rfl,e2,e3,e4,e5,e6,by simp only[if_true];rw[e9 hk,d9 e7]⟩
  | _=>rw[hk] at h4;simp[Kd.er,FM.run] at h4
 cases ho with
 | slot i s hi hs hv=>
  obtain ⟨S1,C1,zs,e1,e2,e3,e4,e5,e6,e7,_⟩:=nA _ _ h h3
  refine fin e1 e2 e3 e4 e5 e6 ?_ ?_ ?_
  ·rw[e7 s hs,aP];simp
  ·intro hk;unfold SlV at hv;rw[hk] at hv;exact hv
  ·intro hk;unfold SlV at hv;rw[hk] at hv;exact hv
 | const agg vs s hk he hok hv h1'=>
  obtain ⟨rfl,rfl⟩:=au h3
  have hadd:Inv E S (s.cs++X) C a w:=by
   refine h.rehand (Less.hand s.cs (fun z hz=>(hok z hz).2.1)) (fun z hz=>?_) (fun z hz=>?_)
   ·rcases List.mem_append.1 hz with hz | hz
    ·exact (hok z hz).1
    ·exact h.hand z hz
   ·rcases List.mem_append.1 hz with hz | hz
    ·exact .inl (fJ (hok z hz).2.2)
    ·exact .inr hz
  refine fin rfl rfl (fun z hz=>(hok z hz).2.2) hadd ⟨rfl,fun i s' hs'=>⟨s',hs',rfl,rfl⟩⟩ (fun _ _ hh=>hh) rfl ?_ ?_
  ·intro hk';cases agg with
   | true=>rw[hk] at hk';simp at hk'
   | false=>
    obtain ⟨z,hz⟩:=h1' rfl
    exact ⟨z,hz,by rw[hv,hz];simp⟩
  ·intro hk';cases agg with
   | false=>rw[hk] at hk';simp at hk'
   | true=>simpa using hv
 | fn g hv=>
  obtain ⟨rfl,rfl⟩:=au h3
  have hcok:COk E w C S X ⟨.fn g [], .sh⟩:= .fn g [] (by simp) (by simp)
  refine fin (zs:=[⟨.fn g [], .sh⟩]) rfl rfl (by simp[eO]) (h.add rfl (by simp) hcok) ⟨rfl,fun i s' hs'=>⟨s',hs',rfl,rfl⟩⟩ (fun _ _ hh=>hh) rfl ?_ (by simp)
  intro _;exact ⟨_,rfl,by rw[hv];simp[VA.val]⟩
end
end Go.Vm
end
section
namespace Go.Vm
structure Grow (w w':World):Prop where
 size:w.heap.size≤w'.heap.size
 block:∀ b,b < w.heap.size→w'.heap[b]?=w.heap[b]?
theorem Grow.refl (w:World):Grow w w:=⟨Nat.le_refl _,fun _ _=>rfl⟩
theorem Grow.trans {w₁ w₂ w₃:World} (h:Grow w₁ w₂) (k:Grow w₂ w₃):Grow w₁ w₃:=
 ⟨Nat.le_trans h.size k.size,fun b hb=>(k.block b (Nat.lt_of_lt_of_le hb h.size)).trans (h.block b hb)⟩
theorem gS {w w':World} {b j:Nat} (h:w'.heap[b]?=w.heap[b]?):w'.cell? ⟨b,j,none⟩=w.cell? ⟨b,j,none⟩:=by simp[World.cell?,h]
theorem Shp'.lt {sid:Nat→Nat} {w:World} {C:Nat→Nat→Prop} {g:Bool} {v:A} (h:Shp' sid w C g v):∀ b∈v.blks,b < w.heap.size:=by
 cases g with
 | false=>exact Shp.lt (by simpa [Shp'] using h)
 | true=>
  have h':ShpG w C v:=by simpa [Shp'] using h
  obtain ⟨b,cap,cur,e,rfl,h2,_⟩:=h'
  intro x hx;simp[VA.blks,gh] at hx;subst hx;exact (Array.getElem?_eq_some_iff.1 h2).1
theorem Shp'.world {sid:Nat→Nat} {w w':World} {C C':Nat→Nat→Prop} {g:Bool} {v:A} (h:Shp' sid w C g v) (hw:∀ b∈v.blks,w'.heap[b]?=w.heap[b]?)
  (hC:∀ b∈v.blks,∀ j,C' b j→C b j):Shp' sid w' C' g v:=by
 cases g with
 | false=>
  have h':Shp sid w C v:=by simpa [Shp'] using h
  simpa [Shp'] using h'.mono hC hw
 | true=>
  have h':ShpG w C v:=by simpa [Shp'] using h
  obtain ⟨b,cap,cur,e,rfl,h2,h3,h4,h5⟩:=h'
  have hb:b∈(VA.row ⟨some ⟨b,0,none⟩,cap,1⟩ []:A).blks:=by simp[VA.blks]
  show Shp' sid w' C' true _;simp only[Shp',if_true];exact ⟨b,cap,cur,e,rfl,(hw b hb).trans h2,h3,h4,fun j hj=>h5 j (hC b hb j hj)⟩
section
variable {E:Env} {S:StA} {X:List (Cell Tg)} {C:Nat→Nat→Prop} {a:Act} {w w':World}
theorem Fst.grow {v:A} (h:Fst E w v) (hg:Grow w w'):Fst E w' v:=
 ⟨h.1.mono (fun _ _ _ hj=>hj) (fun b hb=>hg.block b (h.1.lt b hb)),h.2⟩
theorem COk.grow {x:Cell Tg} (h:COk E w C S X x) (hg:Grow w w') (hclt:∀ b j,C b j→b < w.heap.size) (holt:∀ b j,E.old b j→C b j):COk E w' C S X x:=by
 have hrd:∀ {v:A},Rd E.sid w C v→Rd E.sid w' C v:=fun hr=>hr.mono (fun _ _ hh=>hh) (fun b j hj=>gS (hg.block b (hclt b j hj)))
 have hro:∀ {v:A},Rd E.sid w E.old v→Rd E.sid w' E.old v:=fun hr=>hr.mono (fun _ _ hh=>hh) (fun b j hj=>gS (hg.block b (hclt b j (holt b j hj))))
 obtain ⟨v,f⟩:=x
 cases f with
 | sp p q=>exact ⟨h.1,hro h.2.1,h.2.2⟩
 | sh=>exact hro h
 | ow g=>exact ⟨h.1,h.2.1.world (fun b hb=>hg.block b (h.2.1.lt b hb)) (fun _ _ _ hj=>hj),h.2.2⟩
 | nw g=>exact ⟨h.1,h.2.1.world (fun b hb=>hg.block b (h.2.1.lt b hb)) (fun _ _ _ hj=>hj),h.2.2⟩
 | mp i=>exact ⟨h.1.mono (fun _ _ _ hj=>hj) (fun b hb=>hg.block b (h.1.lt b hb)),h.2⟩
 | cp ck s c ix=>exact ⟨h.1,hrd h.2.1,h.2.2.1,fun e=>(h.2.2.2 e).grow hg⟩
 | ap s c ix=>exact ⟨h.1,h.2.1,fun y hy hyg=>⟨(h.2.2 y hy hyg).1.grow hg,(h.2.2 y hy hyg).2⟩⟩
 | fr=>exact ⟨h.1,hrd h.2.1,h.2.2.grow hg⟩
 | no=>exact ⟨h.1,hrd h.2⟩
 | _=>exact h
theorem Inv.grow (h:Inv E S X C a w) (hg:Grow w w'):Inv E S X C a w':=by
 refine ⟨h.len,h.tsz,h.nodef,h.slv,h.high,h.emp,h.lock,h.noap,?_,?_,?_,?_,h.cnt,h.olt,?_,h.cbase,?_⟩
 ·intro i s t hs hk;obtain ⟨b,T,h1,h2,h3⟩:=h.box i s t hs hk
  exact ⟨b,T,h1,(hg.block b (Array.getElem?_eq_some_iff.1 h2).1).trans h2,h3⟩
 ·intro i s t src ix hs hk;obtain ⟨b,o,h1,h2,h3⟩:=h.ept i s t src ix hs hk
  exact ⟨b,o,h1,fun j x hx=>⟨(h2 j x hx).1,(gS (hg.block b (h.clt b _ (h2 j x hx).1))).trans (h2 j x hx).2⟩,h3⟩
 ·exact fun i s hs x hx=>(h.cells i s hs x hx).grow hg h.clt h.olt
 ·exact fun x hx=>(h.hand x hx).grow hg h.clt h.olt
 ·exact fun b j hj=>Nat.lt_of_lt_of_le (h.clt b j hj) hg.size
 ·exact fun b hb=>⟨Nat.lt_of_lt_of_le (h.ownlt b hb).1 hg.size,(h.ownlt b hb).2⟩
def BZ (s:SA):Prop:=(∀ t,s.k≠ .box t)∧∀ x∈s.cs,aY x.v=false∧aN x.f=false
theorem lD (h:Inv E S X C a w) {i:Nat} {s:SA} (hs:S[i]?=some s) (hf:ry s.er=true):BZ s:=by
 unfold ry at hf;rw[bg] at hf;cases hk:s.k with
 | dead=>exact ⟨by simp[hk],by rw[h.emp i s hs (.inl hk)];simp⟩
 | und=>exact ⟨by simp[hk],by rw[h.emp i s hs (.inr (.inl hk))];simp⟩
 | val=>
  rw[hk] at hf;simp only[Kd.er,aP,List.all_map,List.all_eq_true] at hf;refine ⟨by simp[hk],fun x hx=>?_⟩
  have h1:x.f= .sc:=of_decide_eq_true (hf x hx);have h2:=h.cells i s hs x hx;obtain ⟨v,f⟩:=x
  simp only at h1;subst h1;have h3:scal v=true:=h2;exact ⟨by cases v<;>simp_all[scal,aY],rfl⟩
 | _=>rw[hk] at hf;simp[Kd.er] at hf
theorem DI {s:SA} (h:BZ s):s.own=[]:=by
 unfold Sl.own Sl.boxOwn;have:s.cs.flatMap Cell.own=[]:=by
  rw[List.flatMap_eq_nil_iff];intro x hx;simp[Cell.own,(h.2 x hx).2]
 rw[this];cases hk:s.k with
 | box t=>exact absurd hk (h.1 t)
 | _=>rfl
theorem gR {S:StA} {d:Nat} {s:SA} (hd:d < S.length) (p q:Nat):aD (S.set d s) p q=if p=d then s.cs[q]? else aD S p q:=by
 unfold aD;by_cases hp:p=d
 ·subst hp;simp[hd]
 ·have:¬d=p:=fun e=>hp e.symm
  simp[hp,this]
theorem my {S:StA} {d:Nat} {s o:SA} (ho:S[d]?=some o) (hob:∀ t,o.k≠ .box t) (hsb:∀ t,s.k≠ .box t) (r:Nat):aL (S.set d s) r=aL S r:=by
 have hd:=(List.getElem?_eq_some_iff.1 ho).1
 unfold aL;by_cases e:d=r
 ·subst e;rw[List.getElem?_set_self hd,ho]
  obtain ⟨k,cs⟩:=s
  obtain ⟨k',cs'⟩:=o
  simp only at hob hsb;cases k<;>cases k'<;>first | rfl | exact absurd rfl (hsb _) | exact absurd rfl (hob _)
 ·rw[List.getElem?_set_ne e]
theorem tv {zs:List (Cell Tg)} {d:Nat} {s o:SA} (ho:S[d]?=some o) (hfree:BZ o) (hs:s.cs=zs) (hsb:∀ t,s.k≠ .box t):
  Less S (S.set d s) (zs++X) X:=by
 have hd:=(List.getElem?_eq_some_iff.1 ho).1
 refine ⟨fun b=>?_,fun p q hr=>?_,fun p q y hr hy hf=>?_⟩
 ·have h1:=bk Sl.own b S d o s ho;rw[DI hfree] at h1;have h2:s.own=zs.flatMap Cell.own:=by
   unfold Sl.own Sl.boxOwn;rw[hs];cases hk:s.k with
   | box t=>exact absurd hk (hsb t)
   | _=>rfl
  rw[h2] at h1;simp only[aA,List.count_append,List.flatMap_append,List.count_nil] at h1 ⊢;omega
 ·obtain ⟨y,hy,hyr⟩:=hr
  unfold mv;rw[gR hd];by_cases hp:p=d
  ·subst hp;obtain ⟨sl,h1,h2⟩:=aE hy
   rw[ho] at h1;obtain rfl:=Option.some.inj h1
   rw[(hfree.2 y (List.mem_of_getElem? h2)).1] at hyr;cases hyr
  ·simp only[hp,if_false];exact ⟨y,hy,hyr⟩
 ·rw[gR hd] at hy;by_cases hp:p=d
  ·subst hp;obtain ⟨y',hy',hyr⟩:=hr
   obtain ⟨sl,h1,h2⟩:=aE hy'
   rw[ho] at h1;obtain rfl:=Option.some.inj h1
   rw[(hfree.2 y' (List.mem_of_getElem? h2)).1] at hyr;cases hyr
  ·simp only[hp,if_false] at hy;exact ⟨y,hy,rfl,rfl⟩
theorem SlV.set {sid:Nat→Nat} {S S':StA} (hb:∀ r,aL S' r=aL S r) {s:SA} {v:Value} (h:SlV sid S s v):SlV sid S' s v:=by
 unfold SlV at h ⊢;split at h<;>simp_all
theorem Inv.put {zs:List (Cell Tg)} (h:Inv E S (zs++X) C a w) {d:Nat} {s o:SA} (hd:d < E.nt) (ho:S[d]?=some o) (hfree:BZ o) (hs:s.cs=zs) (hsb:∀ t,s.k≠ .box t)
  {v:Value} (hv:SlV E.sid S s v) (hemp:(s.k= .dead∨s.k= .und∨(∃ r o,s.k= .ptr r o)∨∃ g rs,s.k= .clo g rs)→s.cs=[])
  (hept:∀ t src ix,s.k= .ept t src ix→EptOk E w C S t src ix s.cs):Inv E (S.set d s) X C (a.put (some d) v) w:=by
 have hdS:=(List.getElem?_eq_some_iff.1 ho).1
 have hl:Less S (S.set d s) (zs++X) X:=tv ho hfree hs hsb;have hbox:=my ho hfree.1 hsb;have hget:∀ {i:Nat} {s':SA},(S.set d s)[i]?=some s'→(i=d∧s'=s)∨(i≠d∧S[i]?=some s'):=by
  intro i s' hi;rw[List.getElem?_set] at hi
  split at hi
  ·rename_i e;subst e;simp only[Option.some.injEq] at hi;exact .inl ⟨rfl,hi.symm⟩
  ·rename_i e;exact .inr ⟨fun h=>e h.symm,hi⟩
 refine ⟨by simp[h.len],by simp[Act.put,h.tsz],h.nodef,?_,?_,?_,?_,?_,?_,?_,?_,?_,?_,h.olt,h.clt,h.cbase,fun b hb=>h.ownlt b (hl.mem hb)⟩
 ·intro i s' hi hs';rcases hget hs' with ⟨rfl,rfl⟩ | ⟨hne,hs'⟩
  ·have:(a.put (some i) v).tmps.getD i undef=v:=by
    simp[Act.put,h.tsz,hd]
   rw[this];exact hv.set hbox
  ·have:(a.put (some d) v).tmps.getD i undef=a.tmps.getD i undef:=by
    have hne':¬d=i:=fun e=>hne e.symm
    simp[Act.put,hne']
   rw[this];exact (h.slv i s' hi hs').set hbox
 ·intro i s' hi hs';rcases hget hs' with ⟨rfl,rfl⟩ | ⟨hne,hs'⟩
  ·omega
  ·exact h.high i s' hi hs'
 ·intro i s' hs' hk;rcases hget hs' with ⟨rfl,rfl⟩ | ⟨hne,hs'⟩
  ·exact hemp hk
  ·exact h.emp i s' hs' hk
 ·intro i s' hi hs' hk;rcases hget hs' with ⟨rfl,rfl⟩ | ⟨hne,hs'⟩
  ·omega
  ·exact h.lock i s' hi hs' hk
 ·intro l hl' hk;rcases hget hl' with ⟨e,_⟩ | ⟨hne,hl'⟩
  ·unfold bf at e;omega
  ·obtain ⟨h1,h2⟩:=h.noap l hl' hk
   refine ⟨fun i s' hs' x hx=>?_,fun x hx=>h2 x (List.mem_append.2 (.inr hx))⟩
   rcases hget hs' with ⟨rfl,rfl⟩ | ⟨hne,hs'⟩
   ·exact h2 x (List.mem_append.2 (.inl (hs▸hx)))
   ·exact h1 i s' hs' x hx
 ·intro i s' t hs' hk;rcases hget hs' with ⟨rfl,rfl⟩ | ⟨hne,hs'⟩
  ·exact absurd hk (hsb t)
  ·exact h.box i s' t hs' hk
 ·intro i s' t src ix hs' hk;rcases hget hs' with ⟨rfl,rfl⟩ | ⟨hne,hs'⟩
  ·exact (hept t src ix hk).less hl
  ·exact (h.ept i s' t src ix hs' hk).less hl
 ·intro i s' hs' x hx;rcases hget hs' with ⟨rfl,rfl⟩ | ⟨hne,hs'⟩
  ·exact (h.hand x (List.mem_append.2 (.inl (hs▸hx)))).less hl
  ·exact (h.cells i s' hs' x hx).less hl
 ·intro x hx;exact (h.hand x (List.mem_append.2 (.inr hx))).less hl
 ·exact fun b=>Nat.le_trans (hl.own b) (h.cnt b)
end
end Go.Vm
end
section
namespace Go.Vm
section
variable {E:Env} {cx:Cx} {S:StA} {X:List (Cell Tg)} {C:Nat→Nat→Prop} {a:Act} {w:World}
theorem fY (hf:Fits E cx) (h:Inv E S X C a w) {ox:Operand} {x:Opd} (hc:bj cx ox=some x) {c:Cell Unit} {st1:St} (hr:(one x).run (erS S)=some (c,st1)):
  st1=erS S∧∃ z:Cell Tg,z.er=c∧z.f≠ .dd∧COk E w C S X z∧a.eval ox=z.v.val E.sid∧
   ((∃ i,x= .t i∧aD S i 0=some z)∨(aN z.f=false∧eO z.f=true)):=by
 unfold one at hr;obtain ⟨sl,st2,h1,h2⟩:=FM.bind_some hr
 obtain ⟨rfl,s,rfl,ho⟩:=da hf h hc h1
 rw[bg,aP] at h2;split at h2
 ·rename_i c' hk hcs;split at h2
  ·simp[FM.run] at h2
  ·rename_i hdd;obtain ⟨rfl,rfl⟩:=au h2
   obtain ⟨z,hz,rfl⟩:∃ z:Cell Tg,s.cs=[z]∧z.er=c:=by
    cases hs:s.cs with
    | nil=>rw[hs] at hcs;simp at hcs
    | cons y r=>cases r with
     | nil=>rw[hs] at hcs;simp at hcs;exact ⟨y,rfl,hcs⟩
     | cons y' r=>rw[hs] at hcs;simp at hcs
   have hkv:s.k= .val:=by
    cases hk':s.k<;>rw[hk'] at hk<;>simp[Kd.er] at hk ⊢
   refine ⟨rfl,z,rfl,hdd,?_,?_,?_⟩
   ·cases ho with
    | slot i s hi hs hv=>exact h.cells i s hs z (by simp[hz])
    | const agg vs s hk he hok hv h1'=>exact (hok z (by simp[hz])).1
    | fn g hv=>simp at hz;subst hz;exact .fn g [] (by simp) (by simp)
   ·cases ho with
    | slot i s hi hs hv=>
     unfold SlV at hv;rw[hkv] at hv;obtain ⟨y,hy,hv⟩:=hv
     rw[hz] at hy;simp at hy;subst hy;exact hv
    | const agg vs s hk he hok hv h1'=>
     cases agg with
     | true=>rw[hk] at hkv;simp at hkv
     | false=>rw[hv,hz];simp
    | fn g hv=>simp at hz;subst hz;rw[hv];simp[VA.val]
   ·cases ho with
    | slot i s hi hs hv=>exact .inl ⟨i,rfl,bN hs (by simp[hz])⟩
    | const agg vs s hk he hok hv h1'=>exact .inr (hok z (by simp[hz])).2
    | fn g hv=>simp at hz;subst hz;exact .inr ⟨rfl,rfl⟩
 ·simp[FM.run] at h2
theorem Hi {v:A} {k:IntKind} {n:Int} (h:v.er= .int k n):v= .int k n:=by cases v<;>simp_all[VA.er]
theorem sj {v:A} {b:Bool} (h:v.er= .bool b):v= .bool b:=by cases v<;>simp_all[VA.er]
theorem Dx {v:A} {s:ByteArray} (h:v.er= .str s):v= .str s:=by cases v<;>simp_all[VA.er]
theorem kw {v:A} {t:Unit} {es:List (List V)} (h:v.er= .row t es):∃ t' es',v= .row t' es'∧erR es'=es:=by
 cases v with
 | row t' es'=>simp only[VA.er,VA.row.injEq] at h;exact ⟨t',es',rfl,h.2⟩
 | _=>simp[VA.er] at h
theorem fW (hf:Fits E cx) (h:Inv E S X C a w) {ox:Operand} {x:Opd} (hc:bj cx ox=some x) {y:IntKind×Int} {st1:St} (hr:(dX x).run (erS S)=some (y,st1)):
  st1=erS S∧a.eval ox= .int y.1 y.2:=by
 unfold dX at hr;obtain ⟨c,st2,h1,h2⟩:=FM.bind_some hr
 obtain ⟨rfl,z,rfl,_,_,hv,_⟩:=fY hf h hc h1
 split at h2
 ·rename_i k n hz;obtain ⟨rfl,rfl⟩:=au h2
  have:=Hi hz
  exact ⟨rfl,by rw[hv,this];rfl⟩
 ·simp[FM.run] at h2
theorem kJ (hf:Fits E cx) (h:Inv E S X C a w) {ox:Operand} {x:Opd} (hc:bj cx ox=some x) {y:Bool} {st1:St} (hr:(f8 x).run (erS S)=some (y,st1)):
  st1=erS S∧a.eval ox= .bool y:=by
 unfold f8 at hr;obtain ⟨c,st2,h1,h2⟩:=FM.bind_some hr
 obtain ⟨rfl,z,rfl,_,_,hv,_⟩:=fY hf h hc h1
 split at h2
 ·rename_i b hz;obtain ⟨rfl,rfl⟩:=au h2
  have:=sj hz
  exact ⟨rfl,by rw[hv,this];rfl⟩
 ·simp[FM.run] at h2
theorem AF {P:Program} {op:BinOp} {t:TypeId} {k:IntKind} {x y:Int} {r:V} {p q:Operand} (h:p6 op k x y=some r):
  (do eqGuard op t p q (.int k x) (.int k y);binOp op t (.int k x) (.int k y):Sem Value).run P w= .ok ((cA r).val E.sid) w∧scal r=true:=by
 cases op<;>simp only[p6] at h<;>first
  | (simp only[Option.some.injEq] at h;subst h;simp[eqGuard,binOp,Op.intArith,Op.intCmp,Op.intBits,cA,VA.val,scal];done)
  | (split at h<;>simp at h;subst h;simp_all[eqGuard,binOp,Op.intDiv,cA,VA.val,scal];done)
  | cases h
theorem vM {P:Program} {op:BinOp} {t:TypeId} {k k':IntKind} {x y:Int} {r:V} {p q:Operand} (hop:op= .shl∨op= .shr) (h:qW op k x y=some r):
  (do eqGuard op t p q (.int k x) (.int k' y);binOp op t (.int k x) (.int k' y):Sem Value).run P w= .ok ((cA r).val E.sid) w∧scal r=true:=by
 unfold qW at h;split at h
 ·cases h
 ·rename_i hy;rcases hop with rfl | rfl<;>(simp only[Option.some.injEq] at h;subst h;simp[eqGuard,binOp,Op.shift,hy,cA,VA.val,scal])
theorem EQ {P:Program} {op:BinOp} {t:TypeId} {u v:A} {r:V} {p q:Operand} (h:C9 op u.er v.er=some r):
  (do eqGuard op t p q (u.val E.sid) (v.val E.sid);binOp op t (u.val E.sid) (v.val E.sid):Sem Value).run P w= .ok ((cA r).val E.sid) w∧scal r=true:=by
 cases u<;>cases v<;>simp only[VA.er,C9] at h<;>try (cases h;done)
 ·rename_i k x k' y;simp only[VA.val];cases op<;>simp only at h<;>first
   | exact vM (.inl rfl) h
   | exact vM (.inr rfl) h
   | (split at h
      ·rename_i e;subst e;exact AF h
      ·cases h)
theorem Gb {P:Program} {t:TypeId} {x y:Bool} {p q:Operand} (hu:P.underlying t=some .bool):
  (do eqGuard .eql t p q (.bool x) (.bool y);binOp .eql t (.bool x) (.bool y):Sem Value).run P w= .ok (.bool (x== y)) w∧
  (do eqGuard .neq t p q (.bool x) (.bool y);binOp .neq t (.bool x) (.bool y):Sem Value).run P w= .ok (.bool (!(x== y))) w:=by
 have h1:∀ d:Nat,(Op.equalIn (d+1) t (.bool x) (.bool y)).run P w= .ok (x== y) w:=fun d=>by
  simp[Op.equalIn,run_underlying hu]
 have h:(Op.equal t (.bool x) (.bool y)).run P w= .ok (x== y) w:=h1 9999;constructor<;>simp[eqGuard,binOp,h]
theorem Gf {P:Program} {op:UnOp} {u:A} {r:V} (h:unV op u.er=some r):(Op.unary op (u.val E.sid)).run P w= .ok ((cA r).val E.sid) w∧scal r=true:=by
 cases op<;>cases u<;>simp only[VA.er,unV] at h<;>first
  | (simp only[Option.some.injEq] at h;subst h;simp[Op.unary,Op.intArith,VA.val,cA,scal];done)
  | cases h
structure Frame (E:Env) (w w':World):Prop where
 os:w'.os=w.os
 tape:w'.tape=w.tape
 output:w'.output=w.output
 size:w.heap.size≤w'.heap.size
 block:∀ b,b < E.base→¬E.chg b→w'.heap[b]?=w.heap[b]?
theorem Frame.refl (E:Env) (w:World):Frame E w w:=⟨rfl,rfl,rfl,Nat.le_refl _,fun _ _ _=>rfl⟩
theorem Frame.trans {E:Env} {w₁ w₂ w₃:World} (h:Frame E w₁ w₂) (k:Frame E w₂ w₃):Frame E w₁ w₃:=
 ⟨k.os.trans h.os,k.tape.trans h.tape,k.output.trans h.output,Nat.le_trans h.size k.size,fun b hb hc=>(k.block b hb hc).trans (h.block b hb hc)⟩
structure Made (E:Env) (S:StA) (X:List (Cell Tg)) (C:Nat→Nat→Prop) (a:Act) (w:World) (s:SA) (v:Value):Prop where
 inv:Inv E S (s.cs++X) C a w
 val:(∀ t,s.k≠ .box t)→SlV E.sid S s v
 box:∀ t,s.k= .box t→o6 E w C t s.cs∧(∃ b,t.a=some ⟨b,0,none⟩∧v= .pointer (some ⟨b,0,none⟩)∧b∉aA S (s.cs++X)∧E.base≤b∧b < w.heap.size∧(∀ j,¬E.old b j)∧
  ∀ x∈aF S (s.cs++X),∀ p q r,x.f= .ap p q r→∀ y,aD S p q=some y→(∃ g,y.f= .ow g)→b∉x.v.blks)
 ept:∀ t src ix,s.k= .ept t src ix→EptOk E w C S t src ix s.cs
 emp:(s.k= .dead∨s.k= .und∨(∃ r o,s.k= .ptr r o)∨∃ g rs,s.k= .clo g rs)→s.cs=[]
def dK (E:Env) (X:List (Cell Tg)) (a:Act) (w:World) (o:Oper) (s:SU) (st1:St):Prop:=
 ∃ v w' S1 C1 sA,(execOp a.eval o).run E.P w= .ok (.value v) w'∧erS S1=st1∧sA.er=s∧Made E S1 X C1 a w' sA v∧Frame E w w'
theorem Made.scalar (h:Inv E S X C a w) {r:V} (hr:scal r=true):Made E S X C a w ⟨.val,[⟨cA r, .sc⟩]⟩ ((cA r).val E.sid):=by
 have hs:scal (cA r)=true:=by cases r<;>simp_all[scal,cA]
 exact ⟨h.add rfl (by simp) hs,fun _=>⟨_,rfl,rfl⟩,by simp,by simp,by simp⟩
theorem Cg {r:V} (hr:scal r=true):(⟨.val,[⟨cA r, .sc⟩]⟩:SA).er=hJ r:=by
 have:(cA r).er=r:=by cases r<;>simp_all[scal,cA,VA.er]
 simp[Sl.er,Kd.er,Cell.er,hJ,this]
theorem cB (h:Inv E S X C a w) {o:Oper} {r:V} {v:Value} (hr:scal r=true) (hv:(cA r).val E.sid=v) (hx:(execOp a.eval o).run E.P w= .ok (.value v) w):dK E X a w o (hJ r) (erS S):=
 ⟨v,w,S,C,_,hx,rfl,Cg hr,hv▸Made.scalar h hr,Frame.refl E w⟩
theorem CL (hf:Fits E cx) (h:Inv E S X C a w) {o:Oper} {op:BinOp} {t t':TypeId} {ox oy:Operand} {x y:Opd} (ho:o.op= .binOp op t ox oy t') (hx:bj cx ox=some x) (hy:bj cx oy=some y)
  {s:SU} {st1:St} (hr:(bn cx.nt (.bin op x y)).run (erS S)=some (s,st1)):dK E X a w o s st1:=by
 unfold bn at hr;obtain ⟨c1,st2,h1,h2⟩:=FM.bind_some hr
 obtain ⟨rfl,z1,rfl,_,_,hv1,_⟩:=fY hf h hx h1
 obtain ⟨c2,st3,h3,h4⟩:=FM.bind_some h2
 obtain ⟨rfl,z2,rfl,_,_,hv2,_⟩:=fY hf h hy h3
 obtain ⟨r,st4,h5,h6⟩:=FM.bind_some h4
 obtain ⟨h7,rfl⟩:=ip h5
 obtain ⟨rfl,rfl⟩:=au h6
 obtain ⟨e1,e2⟩:=EQ (E:=E) (w:=w) (P:=E.P) (t:=t) (p:=ox) (q:=oy) h7
 refine cB h e2 rfl ?_
 unfold execOp;rw[ho];simp only[hv1,hv2];rw[Sem.run_bind,e1];rfl
end
end Go.Vm
end
section
namespace Go.Vm
section
variable {E:Env} {cx:Cx} {S:StA} {X:List (Cell Tg)} {C:Nat→Nat→Prop} {a:Act} {w:World}
theorem vP (hf:Fits E cx) (h:Inv E S X C a w) {o:Oper} {op:BinOp} {neg:Bool} {t t':TypeId} {ox oy:Operand} {x y:Opd} (ho:o.op= .binOp op t ox oy t') (hop:op=if neg then .neq else .eql)
  (hu:E.P.underlying t=some .bool) (hx:bj cx ox=some x) (hy:bj cx oy=some y)
  {s:SU} {st1:St} (hr:(bn cx.nt (.beq neg x y)).run (erS S)=some (s,st1)):dK E X a w o s st1:=by
 unfold bn at hr;obtain ⟨c1,st2,h1,h2⟩:=FM.bind_some hr
 obtain ⟨rfl,hv1⟩:=kJ hf h hx h1
 obtain ⟨c2,st3,h3,h4⟩:=FM.bind_some h2
 obtain ⟨rfl,hv2⟩:=kJ hf h hy h3
 obtain ⟨rfl,rfl⟩:=au h4
 obtain ⟨e1,e2⟩:=Gb (w:=w) (P:=E.P) (t:=t) (x:=c1) (y:=c2) (p:=ox) (q:=oy) hu
 refine cB h rfl rfl ?_
 unfold execOp;rw[ho];subst hop;cases neg
 ·simp only[hv1,hv2];rw[Sem.run_bind];simp only[Bool.false_eq_true,if_false];rw[e1];rfl
 ·simp only[hv1,hv2];rw[Sem.run_bind];simp only[if_true];rw[e2];rfl
theorem EW (hf:Fits E cx) (h:Inv E S X C a w) {o:Oper} {op:UnOp} {t:TypeId} {ox:Operand} {x:Opd} (ho:o.op= .unOp op t ox) (hx:bj cx ox=some x)
  {s:SU} {st1:St} (hr:(bn cx.nt (.un op x)).run (erS S)=some (s,st1)):dK E X a w o s st1:=by
 unfold bn at hr;obtain ⟨c1,st2,h1,h2⟩:=FM.bind_some hr
 obtain ⟨rfl,z1,rfl,_,_,hv1,_⟩:=fY hf h hx h1
 obtain ⟨r,st4,h5,h6⟩:=FM.bind_some h2
 obtain ⟨h7,rfl⟩:=ip h5
 obtain ⟨rfl,rfl⟩:=au h6
 obtain ⟨e1,e2⟩:=Gf (E:=E) (w:=w) (P:=E.P) h7
 refine cB h e2 rfl ?_
 unfold execOp;rw[ho];simp only[hv1];rw[Sem.run_bind,e1];rfl
theorem AJ (hf:Fits E cx) (h:Inv E S X C a w) {o:Oper} {k k':IntKind} {t u:TypeId} {ox:Operand} {x:Opd} (ho:o.op= .convert t u ox) (ht:E.P.underlying t=some (.int k')) (hu:E.P.underlying u=some (.int k)) (hx:bj cx ox=some x)
  {s:SU} {st1:St} (hr:(bn cx.nt (.conv k x)).run (erS S)=some (s,st1)):dK E X a w o s st1:=by
 unfold bn at hr;obtain ⟨y,st2,h1,h2⟩:=FM.bind_some hr
 obtain ⟨rfl,hv1⟩:=fW hf h hx h1
 obtain ⟨rfl,rfl⟩:=au h2
 refine cB h rfl rfl ?_
 unfold execOp;rw[ho];simp[hv1,convert,run_underlying ht,run_underlying hu,Conv.intToInt,cA,VA.val]
theorem AO (hf:Fits E cx) (h:Inv E S X C a w) {o:Oper} {oc ox oy:Operand} {c x y:Opd} (ho:o.op= .pick oc ox oy) (hc:bj cx oc=some c) (hx:bj cx ox=some x) (hy:bj cx oy=some y)
  {s:SU} {st1:St} (hr:(bn cx.nt (.pick c x y)).run (erS S)=some (s,st1)):dK E X a w o s st1:=by
 unfold bn at hr;obtain ⟨b,st2,h1,h2⟩:=FM.bind_some hr
 obtain ⟨rfl,hv⟩:=kJ hf h hc h1
 cases b
 ·simp only[Bool.false_eq_true,if_false] at h2;obtain ⟨b,st2,h3,h4⟩:=FM.bind_some h2
  obtain ⟨rfl,hv1⟩:=kJ hf h hy h3
  obtain ⟨rfl,rfl⟩:=au h4
  refine cB h rfl rfl ?_
  unfold execOp;rw[ho];simp[hv,hv1,asBool,cA,VA.val]
 ·simp only[if_true] at h2;obtain ⟨b,st2,h3,h4⟩:=FM.bind_some h2
  obtain ⟨rfl,hv1⟩:=kJ hf h hx h3
  obtain ⟨rfl,rfl⟩:=au h4
  refine cB h rfl rfl ?_
  unfold execOp;rw[ho];simp[hv,hv1,asBool,cA,VA.val]
theorem y6 (hf:Fits E cx) (h:Inv E S X C a w) {o:Oper} {t:TypeId} {ox oi:Operand} {x i:Opd} (ho:o.op= .index t ox oi) (hu:E.P.underlying t=some .string) (hx:bj cx ox=some x) (hi:bj cx oi=some i)
  {s:SU} {st1:St} (hr:(bn cx.nt (.index x i)).run (erS S)=some (s,st1)):dK E X a w o s st1:=by
 unfold bn at hr;obtain ⟨n,st2,h1,h2⟩:=FM.bind_some hr
 obtain ⟨rfl,hv⟩:=fW hf h hi h1
 obtain ⟨c,st3,h3,h4⟩:=FM.bind_some h2
 obtain ⟨rfl,z,rfl,_,_,hv1,_⟩:=fY hf h hx h3
 split at h4
 ·rename_i b hz;have hz:=Dx hz;split at h4
  ·rename_i u hu';obtain ⟨rfl,rfl⟩:=au h4
   refine cB h rfl rfl ?_
   unfold execOp;rw[ho];rw[hz] at hv1;simp[hv,hv1,Instr.index,asIntOf,run_underlying hu,VA.val,cA];simp only[hu'];rfl
  ·simp[FM.run] at h4
 ·simp[FM.run] at h4
theorem iU {ρ:Operand→Value} {o:Oper} {k:Call} {b:Builtin} (ho:o.op= .call k) (hb:k.callee= .builtin b):
  ∃ cs,execOp ρ o=builtin b k.argTypes o.type cs (k.args.map ρ):=by
 unfold execOp;rw[ho];simp only[resolve,hb,pure_bind,invoke];exact ⟨_,rfl⟩
theorem tI {α β:Type} {f:α→Option β} {l:List α} {x y:β} (h:bU f l=some [x,y]):∃ p q,l=[p,q]∧f p=some x∧f q=some y:=by
 match l,h with
 | [],h=>simp[bU] at h
 | [p],h=>simp only[bU] at h;split at h<;>simp_all
 | [p,q],h=>
  simp only[bU] at h;cases hp:f p<;>cases hq:f q<;>simp[hp,hq] at h
  exact ⟨p,q,rfl,by rw[hp,h.1],by rw[hq,h.2]⟩
 | p::q::r::l,h=>
  simp only[bU] at h;cases hp:f p<;>cases hq:f q<;>cases hr:f r<;>cases hl:bU f l<;>simp[hp,hq,hr,hl] at h
theorem DU {α β:Type} {f:α→Option β} {l:List α} {x:β} (h:bU f l=some [x]):∃ p,l=[p]∧f p=some x:=by
 match l,h with
 | [],h=>simp[bU] at h
 | [p],h=>
  simp only[bU] at h;cases hp:f p<;>simp[hp] at h
  exact ⟨p,rfl,by rw[hp,h]⟩
 | p::q::l,h=>
  simp only[bU] at h;cases hp:f p<;>cases hq:f q<;>cases hl:bU f l<;>simp[hp,hq,hl] at h
theorem vQ (hf:Fits E cx) (h:Inv E S X C a w) {o:Oper} {k:Call} {t:TypeId} {ox:Operand} {x:Opd} {b:Bool} (ho:o.op= .call k) (hb:k.callee= .builtin .len) (hk:k.args.toList=[ox]) (ht:k.argTypes.toList=[t])
  (hu:if b then E.P.underlying t=some .string else ∃ e,E.P.underlying t=some (.slice e)) (hx:bj cx ox=some x)
  {s:SU} {st1:St} (hr:(bn cx.nt (.len b x)).run (erS S)=some (s,st1)):dK E X a w o s st1:=by
 unfold bn at hr;obtain ⟨c,st2,h1,h2⟩:=FM.bind_some hr
 obtain ⟨rfl,z,rfl,_,_,hv1,_⟩:=fY hf h hx h1
 have hka:k.args=#[ox]:=by rw[←Array.toList_inj,hk]
 have hta:k.argTypes=#[t]:=by rw[←Array.toList_inj,ht]
 obtain ⟨cs,hex⟩:=iU (ρ:=a.eval) ho hb
 split at h2
 ·rename_i u es hz;obtain ⟨t',es',hz',he⟩:=kw (t:=u) hz
  obtain ⟨rfl,rfl⟩:=au h2
  refine cB h rfl rfl ?_
  rw[hex,hka,hta];rw[hz'] at hv1;simp only[Bool.false_eq_true,if_false] at hu;obtain ⟨e,hu⟩:=hu
  have hl:es.length=es'.length:=by rw[←he,ce];simp
  simp[builtin,Builtin.len_,hv1,VA.val,run_underlying hu,cA,hl,goInt]
 ·rename_i b hz;obtain ⟨rfl,rfl⟩:=au h2
  have hz':=Dx hz;refine cB h rfl rfl ?_
  rw[hex,hka,hta];rw[hz'] at hv1;simp only[if_true] at hu;simp[builtin,Builtin.len_,hv1,VA.val,run_underlying hu,cA,goInt]
 ·simp[FM.run] at h2
theorem CO (hf:Fits E cx) (h:Inv E S X C a w) {o:Oper} {k:Call} {ox oy:Operand} {x y:Opd} (ho:o.op= .call k) (hb:k.callee= .builtin .min) (hk:k.args.toList=[ox,oy]) (hx:bj cx ox=some x) (hy:bj cx oy=some y)
  {s:SU} {st1:St} (hr:(bn cx.nt (.min x y)).run (erS S)=some (s,st1)):dK E X a w o s st1:=by
 unfold bn at hr;obtain ⟨c1,st2,h1,h2⟩:=FM.bind_some hr
 obtain ⟨rfl,hv1⟩:=fW hf h hx h1
 obtain ⟨c2,st3,h3,h4⟩:=FM.bind_some h2
 obtain ⟨rfl,hv2⟩:=fW hf h hy h3
 obtain ⟨rfl,rfl⟩:=au h4
 have hka:k.args=#[ox,oy]:=by rw[←Array.toList_inj,hk]
 obtain ⟨cs,hex⟩:=iU (ρ:=a.eval) ho hb
 refine cB h rfl rfl ?_
 rw[hex,hka];simp[builtin,Builtin.min_,Builtin.min2,hv1,hv2,VA.val,cA]
theorem CN (hf:Fits E cx) (h:Inv E S X C a w) {o:Oper} {k:Call} {ox oy:Operand} {x y:Opd} (ho:o.op= .call k) (hb:k.callee= .builtin .max) (hk:k.args.toList=[ox,oy]) (hx:bj cx ox=some x) (hy:bj cx oy=some y)
  {s:SU} {st1:St} (hr:(bn cx.nt (.max x y)).run (erS S)=some (s,st1)):dK E X a w o s st1:=by
 unfold bn at hr;obtain ⟨c1,st2,h1,h2⟩:=FM.bind_some hr
 obtain ⟨rfl,hv1⟩:=fW hf h hx h1
 obtain ⟨c2,st3,h3,h4⟩:=FM.bind_some h2
 obtain ⟨rfl,hv2⟩:=fW hf h hy h3
 obtain ⟨rfl,rfl⟩:=au h4
 have hka:k.args=#[ox,oy]:=by rw[←Array.toList_inj,hk]
 obtain ⟨cs,hex⟩:=iU (ρ:=a.eval) ho hb
 refine cB h rfl rfl ?_
 rw[hex,hka];simp[builtin,Builtin.max_,Builtin.max2,hv1,hv2,VA.val,cA]
end
end Go.Vm
end
section
namespace Go.Vm
section
variable {E:Env} {cx:Cx} {S:StA} {X:List (Cell Tg)} {C:Nat→Nat→Prop} {a:Act} {w:World}
theorem Inv.addAll (h:Inv E S X C a w) (zs:List (Cell Tg)) (hz:∀ z∈zs,COk E w C S X z∧aN z.f=false∧((∀ p q r,z.f≠ .ap p q r)∨z∈aF S X)):Inv E S (zs++X) C a w:=by
 have hl:Less S S X (zs++X):=Less.hand zs fun z hm=>(hz z hm).2.1
 refine ⟨h.len,h.tsz,h.nodef,h.slv,h.high,h.emp,h.lock,?_,h.box,?_,?_,?_,?_,h.olt,h.clt,h.cbase,fun b hb=>h.ownlt b (hl.mem hb)⟩
 ·intro l hl' hd;obtain ⟨h1,h2⟩:=h.noap l hl' hd
  refine ⟨h1,fun y hy=>?_⟩
  rcases List.mem_append.1 hy with hy | hy
  ·rcases (hz y hy).2.2 with hn | hm
   ·exact hn
   ·rcases List.mem_append.1 hm with hm | hm
    ·obtain ⟨s,hs,hm⟩:=List.mem_flatMap.1 hm
     obtain ⟨i,hi⟩:=List.mem_iff_getElem?.1 hs
     exact h1 i s hi y hm
    ·exact h2 y hm
  ·exact h2 y hy
 ·exact fun i s t src ix hs hk=>(h.ept i s t src ix hs hk).less hl
 ·exact fun i s hs x hx=>(h.cells i s hs x hx).less hl
 ·intro y hy;rcases List.mem_append.1 hy with hy | hy
  ·exact (hz y hy).1.less hl
  ·exact (h.hand y hy).less hl
 ·exact fun b=>Nat.le_trans (hl.own b) (h.cnt b)
theorem nh {g:Bool} {v:A} (hs:Shp' E.sid w C g v):Rd E.sid w (fun b j=>C b j∨InC v b j) v:=by
 cases g with
 | false=>
  have hs':Shp E.sid w C v:=by simpa [Shp'] using hs
  exact hs'.rd.mono (fun _ _=> .inr) (fun _ _ _=>rfl)
 | true=>exact xP (by simpa [Shp'] using hs)
theorem Dg (h:Inv E S X C a w) {s c:Nat} {x:Cell Tg} (hx:aD S s c=some x):
  ∃ C1 z,z.er=cpy s c x.er∧z.v=x.v∧aN z.f=false∧Inv E S (z::X) C1 a w∧∀ b j,C b j→C1 b j:=by
 obtain ⟨sl,hs,hc⟩:=aE hx
 have hm:x∈aF S X:=aX hs (List.mem_of_getElem? hc);have hk:=h.ok x hm;have ej:aN x.f=false→cpy s c x.er=x.er→∃ C1 z,z.er=cpy s c x.er∧z.v=x.v∧aN z.f=false∧Inv E S (z::X) C1 a w∧∀ b j,C b j→C1 b j:=by
  intro ho he;exact ⟨C,x,he.symm,rfl,ho,h.addAll [x] (by simp only[List.mem_singleton];rintro z rfl;exact ⟨hk,ho, .inr hm⟩),fun _ _=>id⟩
 have self:∀ y,aD S s c=some y→y=x:=fun y hy=>Option.some.inj (hy.symm.trans hx)
 have owned:∀ g,(x.f= .ow g∨x.f= .nw g)→cpy s c x.er=⟨x.v.er, .cp (if g then .grn else .own) s c none⟩→∃ C1 z,z.er=cpy s c x.er∧z.v=x.v∧aN z.f=false∧Inv E S (z::X) C1 a w∧∀ b j,C b j→C1 b j:=by
  intro g hg he;have ho:aN x.f=true:=by rcases hg with hg | hg<;>rw[hg]<;>rfl
  have hk':aY x.v=true∧Shp' E.sid w C g x.v∧∀ b∈x.v.blks,E.base≤b:=by
   obtain ⟨v,f⟩:=x
   rcases hg with hg | hg<;>(simp only at hg;subst hg;exact hk)
  have hi:=h.commit hm ho;have hnd:=h.nodupOwn hm ho;refine ⟨_,⟨x.v, .cp (if g then .grn else .own) s c none⟩,by rw[he];rfl,rfl,rfl,hi.addAll [_] ?_,fun _ _=> .inl⟩
  simp only[List.mem_singleton];rintro z rfl
  refine ⟨⟨hk'.1,nh hk'.2.1,⟨⟨x,hx,hk'.1⟩,fun y hy _=>by rw[self y hy]⟩,fun e=>?_⟩,rfl, .inl (by simp)⟩
  cases g with
  | true=>simp at e
  | false=>
   have hs':Shp E.sid w C x.v:=by simpa [Shp'] using hk'.2.1
   exact ⟨hs'.mono (fun _ _ _ hf=>hf.elim) (fun _ _=>rfl),hnd,hk'.2.2⟩
 obtain ⟨v,f⟩:=x
 cases f with
 | ow g=>exact owned g (.inl rfl) (by cases g<;>rfl)
 | nw g=>exact owned g (.inr rfl) (by cases g<;>rfl)
 | mp i=>
  have hi:=h.commit hm rfl;have hk':Shp E.sid w C v∧(∃ t es,v= .row t es∧E.mt i=some (t,es.length))∧∀ b∈v.blks,E.base≤b∨E.chg b:=hk;obtain ⟨t,es,hv,_⟩:=hk'.2.1
  have hr:aY v=true:=by rw[hv];rfl
  refine ⟨_,⟨v, .cp .chg s c none⟩,rfl,rfl,rfl,hi.addAll [_] ?_,fun _ _=> .inl⟩
  simp only[List.mem_singleton];rintro z rfl
  exact ⟨⟨hr,hk'.1.rd.mono (fun _ _=> .inr) (fun _ _ _=>rfl),⟨⟨_,hx,hr⟩,fun y hy _=>by rw[self y hy]⟩,by simp⟩,rfl, .inl (by simp)⟩
 | _=>exact ej rfl rfl
theorem qi:∀ (cs:List (Cell Tg)) (c:Nat) {X:List (Cell Tg)} {C:Nat→Nat→Prop},Inv E S X C a w→∀ {s:Nat},(∀ j x,cs[j]?=some x→aD S s (c+j)=some x)→
  ∃ C1 zs,zs.map Cell.er=sH s c (cs.map Cell.er)∧zs.map (·.v)=cs.map (·.v)∧(∀ z∈zs,aN z.f=false)∧Inv E S (zs++X) C1 a w∧∀ b j,C b j→C1 b j
 | [],c,X,C,h,s,_=>⟨C,[],rfl,rfl,by simp,h,fun _ _=>id⟩
 | x::cs,c,X,C,h,s,hc=>by
  obtain ⟨C1,z,h1,h2,h3,h4,h5⟩:=Dg h (hc 0 x rfl)
  obtain ⟨C2,zs,k1,k2,k3,k4,k5⟩:=qi cs (c+1) h4 (s:=s) (fun j y hy=>by
   have:=hc (j+1) y (by simpa using hy)
   rwa [show c+1+j=c+(j+1) by omega])
  refine ⟨C2,z::zs,?_,?_,?_,k4.perm List.perm_middle,fun b j hh=>k5 b j (h5 b j hh)⟩
  ·simp only[List.map_cons,sH];rw[k1,h1];rfl
  ·simp only[List.map_cons,k2,h2]
  ·intro y hy;rcases List.mem_cons.1 hy with rfl | hy
   ·exact h3
   ·exact k3 y hy
theorem qK (h:Inv E S X C a w) {i:Nat} {s:SA} (hs:S[i]?=some s) (off n:Nat):
  ∃ C1 zs,zs.map Cell.er=sH i off ((s.er.cs.drop off).take n)∧zs.map (·.v)=((s.cs.drop off).take n).map (·.v)∧(∀ z∈zs,aN z.f=false)∧Inv E S (zs++X) C1 a w∧∀ b j,C b j→C1 b j:=by
 have:=qi ((s.cs.drop off).take n) off h (s:=i) (fun j x hx=>by
  rw[List.getElem?_take] at hx
  split at hx
  ·rw[List.getElem?_drop] at hx
   exact bN hs hx
  ·cases hx)
 rwa [List.map_take,List.map_drop] at this
theorem AX (h:Inv E S X C a w) {i:Nat} {s:SA} (hs:S[i]?=some s):
  ∃ C1 zs,zs.map Cell.er=sH i 0 s.er.cs∧zs.map (·.v)=s.cs.map (·.v)∧(∀ z∈zs,aN z.f=false)∧Inv E S (zs++X) C1 a w∧∀ b j,C b j→C1 b j:=by
 exact qi s.cs 0 h (s:=i) (fun j x hx=>by rw[Nat.zero_add];exact bN hs hx)
theorem dg {zs:List (Cell Tg)} (h:Inv E S (zs++X) C a w) {agg:Bool} {v:Value}
  (hv:if agg then v= .agg (zs.map (·.v.val E.sid)).toArray else ∃ z,zs=[z]∧v=z.v.val E.sid):Made E S X C a w ⟨if agg then .agg else .val,zs⟩ v:=by
 cases agg
 ·exact ⟨h,fun _=>by simpa [SlV] using hv,by simp,by simp,by simp⟩
 ·exact ⟨h,fun _=>by simpa [SlV] using hv,by simp,by simp,by simp⟩
theorem AN (hf:Fits E cx) (h:Inv E S X C a w) {o:Oper} {ox:Operand} {x:Opd} (ho:o.op= .move ox) (hx:bj cx ox=some x)
  {s:SU} {st1:St} (hr:(bn cx.nt (.move x)).run (erS S)=some (s,st1)):dK E X a w o s st1:=by
 unfold bn at hr;obtain ⟨sl,st2,h1,h2⟩:=FM.bind_some hr
 obtain ⟨rfl,s0,rfl,hop⟩:=da hf h hx h1
 have hex:(execOp a.eval o).run E.P w= .ok (.value (a.eval ox)) w:=by unfold execOp;rw[ho];rfl
 cases hop with
 | slot i s0 hi hs hv=>
  obtain ⟨C1,zs,e1,e2,e3,e4,e5⟩:=AX h hs
  have e2':zs.map (·.v.val E.sid)=s0.cs.map (·.v.val E.sid):=d9 e2;rw[bg] at h2;cases hk:s0.k<;>rw[hk] at h2<;>simp only[Kd.er] at h2<;>unfold SlV at hv<;>rw[hk] at hv
  case val=>
   obtain ⟨rfl,rfl⟩:=au h2
   obtain ⟨c,hc,hv⟩:=hv
   obtain ⟨z,hz,hzv⟩:=fA e2 hc
   refine ⟨_,w,S,C1,⟨.val,zs⟩,hex,rfl,by simp[Sl.er,Kd.er,e1],?_,Frame.refl E w⟩
   exact dg (agg:=false) e4 ⟨z,hz,by rw[hv];exact congrArg _ hzv.symm⟩
  case agg=>
   obtain ⟨rfl,rfl⟩:=au h2
   refine ⟨_,w,S,C1,⟨.agg,zs⟩,hex,rfl,by simp[Sl.er,Kd.er,e1],?_,Frame.refl E w⟩
   exact dg (agg:=true) e4 (by simp only[if_true,e2'];exact hv)
  case tup sh=>
   obtain ⟨rfl,rfl⟩:=au h2
   refine ⟨_,w,S,C1,⟨.tup sh,zs⟩,hex,rfl,by simp[Sl.er,Kd.er,e1],?_,Frame.refl E w⟩
   exact ⟨e4,fun _=>by simp only[SlV,e2'];exact hv,by simp,by simp,by simp⟩
  case ptr r off=>
   obtain ⟨rfl,rfl⟩:=au h2
   have hemp:=h.emp i s0 hs (.inr (.inr (.inl ⟨r,off,hk⟩)));refine ⟨_,w,S,C,s0,hex,rfl,rfl,?_,Frame.refl E w⟩
   exact ⟨by rw[hemp];exact h,fun _=>by unfold SlV;rw[hk];exact hv,by rw[hk];simp,by rw[hk];simp,fun _=>hemp⟩
  case clo g rs=>
   obtain ⟨rfl,rfl⟩:=au h2
   have hemp:=h.emp i s0 hs (.inr (.inr (.inr ⟨g,rs,hk⟩)));refine ⟨_,w,S,C,s0,hex,rfl,rfl,?_,Frame.refl E w⟩
   exact ⟨by rw[hemp];exact h,fun _=>by unfold SlV;rw[hk];exact hv,by rw[hk];simp,by rw[hk];simp,fun _=>hemp⟩
  all_goals simp[FM.run] at h2
 | const agg vs s0 hk he hok hv h1'=>
  have hadd:Inv E S (s0.cs++X) C a w:=h.addAll s0.cs fun z hz=>⟨(hok z hz).1,(hok z hz).2.1, .inl (fJ (hok z hz).2.2)⟩
  rw[he] at h2;cases agg with
  | true=>
   obtain ⟨rfl,rfl⟩:=au h2
   refine ⟨_,w,S,C,s0,hex,rfl,he,?_,Frame.refl E w⟩
   obtain ⟨k,cs⟩:=s0
   simp only[if_true] at hk hv;subst hk;exact dg (agg:=true) hadd (by simpa using hv)
  | false=>
   obtain ⟨rfl,rfl⟩:=au h2
   refine ⟨_,w,S,C,s0,hex,rfl,he,?_,Frame.refl E w⟩
   obtain ⟨z,hz⟩:=h1' rfl
   obtain ⟨k,cs⟩:=s0
   simp only[Bool.false_eq_true,if_false] at hk hv hz;subst hk;subst hz;exact dg (agg:=false) hadd ⟨z,rfl,by simpa using hv⟩
 | fn g hv=>
  obtain ⟨rfl,rfl⟩:=au h2
  have hcok:COk E w C S X ⟨.fn g [], .sh⟩:= .fn g [] (by simp) (by simp)
  refine ⟨_,w,S,C,⟨.val,[⟨.fn g [], .sh⟩]⟩,hex,rfl,rfl,?_,Frame.refl E w⟩
  exact dg (agg:=false) (h.add rfl (by simp) hcok) ⟨_,rfl,by rw[hv];simp[VA.val]⟩
end
end Go.Vm
end
