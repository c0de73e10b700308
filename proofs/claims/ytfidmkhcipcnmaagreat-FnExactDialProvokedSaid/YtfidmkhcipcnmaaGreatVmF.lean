/- The value machine, part 6: code read as work on values, and its soundness over memory. -/
import Derived.Test.YtfidmkhcipcnmaaGreatVmE
import Derived.Lib.LazyBuf
import Derived.WalkSpells
set_option maxHeartbeats 4000000
set_option maxRecDepth 10000
set_option linter.unusedVariables false
set_option linter.unusedSimpArgs false
section
namespace Go.Vm
abbrev Mp:=List (Nat×SU)
def FM.wpL {α:Type} (L:Nat):FM α→Mp→List Nat→List Nat→(α→Mp→List Nat→List Nat→Prop)→Prop
 | .ret a,m,r,w,Q=>Q a m r w
 | .get i k,m,r,w,Q=>match Nat.blt i L with
  | true=>(k (cU m i)).wpL L m (i::r) w Q
  | false=>False
 | .set i s k,m,r,w,Q=>match Nat.blt i L with
  | true=>k.wpL L (ins m i s) (i::r) (i::w) Q
  | false=>False
 | .fail,_,_,_,_=>False
theorem jg {α:Type} {L:Nat}:∀ (p:FM α) {m:Mp} {r w:List Nat} {Q:α→Mp→List Nat→List Nat→Prop},p.wpL L m r w Q→
  ∃ a m',p.run (S L m)=some (a,S L m')∧Q a m' ((p.log (S L m)).1.reverse++r) ((p.log (S L m)).2.reverse++w)
 | .ret a,m,r,w,Q,h=>⟨a,m,rfl,h⟩
 | .get i k,m,r,w,Q,h=>by
  unfold FM.wpL at h;split at h
  ·rename_i hb;have hi:i < L:=by simpa [Nat.blt_eq] using hb
   have hg:(S L m)[i]?=some (cU m i):=by rw[l8,if_pos hi]
   obtain ⟨a,m',h1,h2⟩:=jg (k (cU m i)) h
   refine ⟨a,m',by simp only[FM.run,hg];exact h1,?_⟩
   simp only[FM.log,hg,List.reverse_cons,List.append_assoc,List.singleton_append];exact h2
  ·exact h.elim
 | .set i s k,m,r,w,Q,h=>by
  unfold FM.wpL at h;split at h
  ·rename_i hb;have hi:i < L:=by simpa [Nat.blt_eq] using hb
   obtain ⟨a,m',h1,h2⟩:=jg k h
   refine ⟨a,m',by simp only[FM.run,rg,hi,if_true,AZ];exact h1,?_⟩
   simp only[FM.log,rg,hi,if_true,AZ,List.reverse_cons,List.append_assoc,List.singleton_append];exact h2
  ·exact h.elim
 | .fail,m,r,w,Q,h=>h.elim
section
variable (P:Prims) (O:dH) (md:bO) (nt L:Nat)
def HZ (g:Nat) (as:List SU) (b:Bool):FM SU:=match O g as with
 | some ⟨rs,[],none⟩=>match b||rs.all wF with
  | true=> .ret (oj rs)
  | false=> .fail
 | _=> .fail
def Ki (g:Nat) (as:List SU) (r:Nat) (t:Unit) (cs0:List (Cell Unit)):FM SU:=match O g as with
 | some ⟨rs,[],some cs⟩=>(opt (pO cs cs0)).bind fun cs'=>(kE r ⟨.box t,cs'⟩).bind fun _=> .ret (oj rs)
 | _=> .fail
def gp (g:Nat) (args:List Opd) (caps:List V):FM SU:=
 (sB 0 args).bind fun as=>HZ O g (as++kK caps) (as.all jB&&caps.isEmpty)
def pa (g:Nat) (xs:List Opd) (r:Nat) (b:SU):FM SU:=
 match b.k with
 | .box t=>match pM b.cs with
  | true=>(opt (zw b)).bind fun b'=>(sB 1 xs).bind fun as=>match as.all jB with
    | false=> .fail
    | true=>Ki O g (b'::as) r t b.cs
  | false=> .fail
 | _=> .fail
def Ic (g:Nat) (args:List Opd) (ms:List Pm):FM SU:=match ms with
 | .mbox::ms=>match args with
  | x::xs=>match fj ms with
   | true=> .fail
   | false=>(oT x).bind fun r=>(eP r).bind fun b=>pa O g xs r b
  | []=> .fail
 | ms=>match fj ms with
  | true=> .fail
  | false=>gp O g args []
def jl:Ir→FM SU
 | .call g args=>Ic O g args (md g)
 | .callv f args=>(opd f).bind fun sl=>
  match sl.k,sl.cs with
  | .val,[⟨.fn g caps, .sh⟩]=>match fj (md g) with
   | true=> .fail
   | false=>gp O g args caps
  | .clo g roots,_=>match fj (md g) with
   | true=> .fail
   | false=>(mC roots).bind fun caps=>gp O g args caps
  | _,_=> .fail
 | op=>A8 P nt op
def wn (o:Io):FM Unit:=
 match o.op,o.dst with
 | .assign x,some d=>ly nt d x
 | .store n a x,none=>nL n a x
 | op,some d=>(jl P O md nt op).bind fun s=>Ay nt d s
 | op,none=>(jl P O md nt op).bind fun _=> .ret ()
def E3 (g:Option (Nat×Bool)) (m:Mp) (k:Bool→List Nat→Prop):Prop:=match g with
 | none=>k true []
 | some (j,b)=>match Nat.blt j L with
  | false=>False
  | true=>match (cU m j).k,(cU m j).cs with
   | .val,[c]=>match c.v with
    | .bool x=>match x with
     | true=>k b [j]
     | false=>k (!b) [j]
    | _=>False
   | .und,_=>k false [j]
   | _,_=>False
def oU (m:Mp) (s c:Nat):Option (List (List V)×Fl):=match Nat.blt s L with
 | true=>match (cU m s).cs[c]? with
  | some ⟨.row _ es, .ow false⟩=>some (es, .ow false)
  | some ⟨.row _ es, .mp i⟩=>some (es, .mp i)
  | _=>none
 | false=>none
def pS (m:Mp) (s c:Nat) (v:V):Mp:=match (cU m s).cs[c]? with
 | some x=>ins m s ⟨(cU m s).k,(cU m s).cs.set c ⟨v,x.f⟩⟩
 | none=>m
def sn (p:Fl→Bool) (m:Mp) (h:Nat×Nat×Option Nat):Bool:=match oU L m h.1 h.2.1 with
 | some (_,f)=>p f
 | none=>false
def wy (m:Mp) (hs:List (Nat×Nat×Option Nat)):Bool:=hs.all (sn L Hq m)||hs.all (sn L Cn m)
def nj:List (Nat×Nat×Option Nat)→List V→Mp→(Mp→Prop)→Prop
 | [],[],m,Q=>Q m
 | (s,c,ix)::hs,v::vs,m,Q=>
  match oU L m s c with
  | none=>False
  | some (es,_)=>match ix with
   | none=>nj hs vs (pS m s c v) Q
   | some ix=>match P.set es ix [v] with
    | some es'=>nj hs vs (pS m s c (.row () es')) Q
    | none=>False
 | _,_,_,_=>False
def IC (d:Option Nat) (hs:List (Nat×Nat×Option Nat)) (m:Mp) (Q:Mp→Prop) (g:Nat) (as:List SU):Prop:=match O g as with
 | some ⟨rs,outs,none⟩=>nj P L hs outs (los m) fun m=>match d with
  | none=>Q m
  | some d=>match Nat.blt d L&&ry (cU m d)&&Nat.blt d nt&&rs.all uf with
   | true=>Q (ins m d (oj rs))
   | false=>False
 | _=>False
def E5 (o:Io) (m:Mp) (Q:Mp→Prop):Prop:=match o.op,o.dst with
 | .clear,some d=>match Nat.blt d L&&ry (cU m d)&&Nat.blt d nt with
  | true=>Q (del m d)
  | false=>False
 | .rstore n a x,none=>(opd a).wpL L m [] [] fun sl m _ _=>match sl.k with
  | .ept _ (some (s,c)) ix=>(AS s c ix x).wpL L m [] [] fun cs m _ _=>match Nat.blt 0 n&&Nat.beq cs.length n&&owned cs with
   | true=>match oU L (los m) s c with
    | some (es,_)=>match P.set es ix (vals cs) with
     | some es'=>Q (pS (los m) s c (.row () es'))
     | none=>False
    | none=>False
   | false=>False
  | _=>False
 | .call g args,d=>match md g,args with
  | .mrow::ms,x::xs=>match fj ms with
   | true=>False
   | false=>(opd x).wpL L m [] [] fun sl m _ _=>match AW sl.k with
    | false=>False
    | true=>match mb (AI x) 0 sl.cs with
     | none=>False
     | some hs=>match dV hs&&wy L m hs with
      | false=>False
      | true=>(EJ xs).wpL L m [] [] fun as m _ _=>match as.all uf with
       | false=>False
       | true=>IC P O nt L d hs m Q g (⟨sl.k,jS 0 sl.cs⟩::as)
  | _,_=>False
 | _,_=>False
def lgR (l:Lg):Lg:=l.map fun l=>(l.1.reverse,l.2.reverse)
def chk (an:List Nat) (before:List Lg) (l:Lg):Bool:=before.zipIdx.all fun (m,i)=>an.contains i||iQ m l
def qF (d:Bool) (an:List Nat) (before:List Lg) (l:Lg) (k:List Lg→Prop):Prop:=match d with
 | false=>k []
 | true=>match chk an before l with
  | true=>k (before++[l])
  | false=>False
def rZ (d:Bool):List Io→Mp→List Lg→(Mp→Prop)→Prop
 | [],m,_,Q=>Q m
 | o::os,m,before,Q=>E3 L o.guard m fun x r=>match oE md o.op with
  | false=>match x with
   | true=>(wn P O md nt o).wpL L m r [] fun _ m r w=>qF d o.anc before (some (r,w)) fun b=>rZ d os m b Q
   | false=>(um nt o).wpL L m r [] fun _ m r w=>qF d o.anc before (some (r,w)) fun b=>rZ d os m b Q
  | true=>match x with
   | true=>E5 P O md nt L o m fun m=>qF d o.anc before none fun b=>rZ d os m b Q
   | false=>(um nt o).wpL L m [] [] fun _ m _ _=>qF d o.anc before none fun b=>rZ d os m b Q
def Wp (c:Cd) (st:St) (Q:Ex→St→Prop):Prop:=∃ n ex st',code O md nt n c st=some (ex,st')∧Q ex st'
inductive nY (c:Cd) (m:Mp) (Q:Ex→Mp→Prop):Prop
 | mk (h:Wp O md nt (.loop c) (S L m) fun ex st=>∃ m',st=S L m'∧Q ex m')
def wpc:Cd→Mp→(Ex→Mp→Prop)→Prop
 | .skip,m,Q=>Q .normal m
 | .region d k0 k1 ops,m,Q=>rZ P O md nt L d ops (kil (bf nt::k0) m) [] fun m=>Q .normal (kil (bf nt::k1) m)
 | .seq a b,m,Q=>wpc a m fun ex m=>match ex with
  | .normal=>wpc b m Q
  | .exit i=>Q (.exit i) m
  | .ret=>Q .ret m
 | .cond x a b,m,Q=>match x with
  | .t i=>match Nat.blt i L with
   | true=>match (cU m i).k,(cU m i).cs with
    | .val,[⟨.bool b',_⟩]=>match b' with
     | true=>wpc a (del m i) Q
     | false=>wpc b (del m i) Q
    | _,_=>False
   | false=>False
  | .c false [.bool b']=>match b' with
   | true=>wpc a m Q
   | false=>wpc b m Q
  | _=>False
 | .block id c,m,Q=>wpc c m fun ex m=>match ex with
  | .exit i=>match Nat.beq i id with
   | true=>Q .normal m
   | false=>Q (.exit i) m
  | .normal=>Q .normal m
  | .ret=>Q .ret m
 | .loop c,m,Q=>nY O md nt L c m Q
 | .exit id,m,Q=>Q (.exit id) m
 | .ret,m,Q=>Q .ret m
 | .bad,_,_=>False
end
section
variable {O:dH} {md:bO} {nt L:Nat}
theorem F6 (g:Nat) (as:List SU) (b:Bool):HZ O g as b=(match O g as with | some ⟨rs,[],none⟩=>if b||rs.all wF then .ret (oj rs) else .fail | _=> .fail):=by
 unfold HZ;split
 ·split<;>rename_i h<;>simp[h]
 ·rfl
theorem li (g:Nat) (args:List Opd) (caps:List V):gp O g args caps=dn O g args caps:=by
 unfold gp dn;refine bF fun as=>?_
 rw[F6];cases O g (as++kK caps) with
 | none=>rfl
 | some x=>
  obtain ⟨rs,outs,ob⟩:=x
  cases outs<;>cases ob<;>rfl
theorem xC (g:Nat) (xs:List Opd) (r:Nat) (b:SU):pa O g xs r b=gB O g xs r b:=by
 unfold pa gB;cases b.k with
 | box t=>
  simp only;cases pM b.cs with
  | true=>
   simp only[if_true];refine bF fun b'=>bF fun as=>?_
   cases h:as.all jB<;>rfl
  | false=>rfl
 | _=>rfl
theorem wk (op:Ir):jl std O md nt op=cY O md nt op:=by
 cases op with
 | call g args=>
  unfold jl cY;simp only;generalize md g=l
  have v:∀ l:List Pm,(match fj l with | true=>(.fail:FM SU) | false=>gp O g args [])=if fj l then .fail else dn O g args []:=by
   intro l;cases fj l with
   | true=>rfl
   | false=>exact li g args []
  match l with
  | []=>exact v []
  | .val::ms=>exact v (.val::ms)
  | .mrow::ms=>exact v (.mrow::ms)
  | .mbox::ms=>
   cases args with
   | nil=>rfl
   | cons x xs=>
    show (match fj ms with | true=>(.fail:FM SU) | false=>(oT x).bind fun r=>(eP r).bind fun b=>pa O g xs r b)=if fj ms then .fail else (oT x).bind fun r=>(eP r).bind fun b=>gB O g xs r b
    cases fj ms with
    | true=>rfl
    | false=>exact bF fun r=>bF fun b=>xC g xs r b
 | callv f args=>
  unfold jl cY;refine bF fun sl=>?_
  obtain ⟨k,cs⟩:=sl
  have v:∀ g caps,(match fj (md g) with | true=>(.fail:FM SU) | false=>gp O g args caps)=if fj (md g) then .fail else dn O g args caps:=by
   intro g caps;cases fj (md g) with
   | true=>rfl
   | false=>exact li g args caps
  cases k with
  | val=>match cs with
   | []=>rfl
   | [⟨w,f⟩]=>cases w with
    | fn g caps=>cases f with
     | sh=>exact v g caps
     | _=>rfl
    | _=>rfl
   | ⟨w,f⟩::_::_=>cases w with
    | fn g caps=>cases f<;>rfl
    | _=>rfl
  | clo g roots=>
   show (match fj (md g) with | true=>(.fail:FM SU) | false=>(mC roots).bind fun caps=>gp O g args caps)=if fj (md g) then .fail else (mC roots).bind fun caps=>dn O g args caps
   cases fj (md g) with
   | true=>rfl
   | false=>exact bF fun caps=>li g args caps
  | _=>rfl
 | _=>first | rfl | (unfold jl cY;exact Ac nt _)
theorem Ab (o:Io):wn std O md nt o=oF O md nt o:=by
 obtain ⟨d,op,g,an⟩:=o
 unfold wn oF;cases op<;>cases d<;>simp only[wk]
theorem E4 {o:Io} {m:Mp} {k:Bool→List Nat→Prop} (h:E3 L o.guard m k):∃ x r,(uy o).run (S L m)=some (x,S L m)∧(uy o).log (S L m)=(r.reverse,[])∧k x r:=by
 unfold E3 at h;unfold uy;cases hg:o.guard with
 | none=>
  rw[hg] at h;exact ⟨true,[],rfl,rfl,h⟩
 | some p=>
  obtain ⟨j,b⟩:=p
  rw[hg] at h;simp only at h ⊢;split at h
  ·exact h.elim
  ·rename_i hb;have hj:j < L:=by simpa [Nat.blt_eq] using hb
   have hget:(S L m)[j]?=some (cU m j):=by rw[l8,if_pos hj]
   have e1:(eP j).run (S L m)=some (cU m j,S L m):=by simp only[eP,FM.run,hget]
   have e2:(eP j).log (S L m)=([j],[]):=by simp only[eP,FM.log,hget]
   rw[FM.run_bind,e1,FM.log_bind _ _ e1,e2];generalize cU m j=sl at h ⊢
   obtain ⟨kd,cs⟩:=sl
   cases kd with
   | und=>exact ⟨false,[j],rfl,rfl,h⟩
   | val=>match cs,h with
    | [],h=>exact h.elim
    | [c],h=>
     obtain ⟨v,f⟩:=c
     cases v with
     | bool x=>cases x with
      | true=>cases b<;>exact ⟨_,[j],rfl,rfl,h⟩
      | false=>cases b<;>exact ⟨_,[j],rfl,rfl,h⟩
     | _=>exact h.elim
    | c::c'::r,h=>exact h.elim
   | _=>exact h.elim
theorem wX {m:Mp} {s c:Nat}:oU L m s c=nq (S L m) s c:=by
 unfold oU nq;rw[l8];by_cases h:s < L
 ·have hb:Nat.blt s L=true:=by simpa [Nat.blt_eq] using h
  rw[hb,if_pos h];simp only;cases (cU m s).cs[c]? with
  | none=>rfl
  | some x=>
   obtain ⟨v,f⟩:=x
   cases v with
   | row t es=>cases f with
    | ow g=>cases g<;>rfl
    | _=>rfl
   | _=>rfl
 ·have hb:Nat.blt s L=false:=by
   cases hb:Nat.blt s L
   ·rfl
   ·exact absurd (by simpa [Nat.blt_eq] using hb) h
  rw[hb,if_neg h]
theorem uh {m:Mp} {s c:Nat} {v:V} (hs:s < L):S L (pS m s c v)=setRow (S L m) s c v:=by
 unfold pS setRow;rw[l8,if_pos hs];cases h:(cU m s).cs[c]? with
 | some x=>simp only[h];rw[AZ]
 | none=>simp only[h]
theorem vK {m:Mp} {s c:Nat} {r:List (List V)×Fl} (h:oU L m s c=some r):s < L:=by
 unfold oU at h;split at h
 ·rename_i hb;simpa [Nat.blt_eq] using hb
 ·cases h
theorem DK {m:Mp} (hs:List (Nat×Nat×Option Nat)):wy L m hs=sY (S L m) hs:=by
 unfold wy sY;have:∀ p,sn L p m=qu p (S L m):=by
  intro p;funext h
  unfold sn qu;rw[wX];cases nq (S L m) h.1 h.2.1<;>rfl
 rw[this,this]
theorem qM:∀ (hs:List (Nat×Nat×Option Nat)) (vs:List V) (m:Mp) {Q:Mp→Prop},nj std L hs vs m Q→∃ m',iu hs vs (S L m)=some (S L m')∧Q m'
 | [],[],m,Q,h=>⟨m,rfl,h⟩
 | [],_::_,m,Q,h=>h.elim
 | _::_,[],m,Q,h=>h.elim
 | (s,c,ix)::hs,v::vs,m,Q,h=>by
  unfold nj at h;unfold iu;rw[←wX];split at h
  ·exact h.elim
  ·rename_i es f hr;rw[hr];have hlt:=vK hr;split at h
   ·simp only;rw[←uh hlt];exact qM hs vs _ h
   ·rename_i ix;simp only;have e:std.set es ix [v]=bh es ix [v]:=rfl;rw[e] at h;split at h
    ·rename_i es' hset;rw[hset];simp only;rw[←uh hlt];exact qM hs vs _ h
    ·exact h.elim
theorem Ce {o:Io} {m:Mp} {Q:Mp→Prop} (h:E5 std O md nt L o m Q):∃ m',gL O md nt o (S L m)=some (S L m')∧Q m':=by
 obtain ⟨d,op,g,an⟩:=o
 unfold E5 at h;simp only at h;split at h
 ·rename_i d;split at h
  ·rename_i hb;simp only[Bool.and_eq_true,Nat.blt_eq] at hb;refine ⟨_,?_,h⟩
   unfold gL;simp only;rw[l8,if_pos hb.1.1];simp only[hb.1.2,hb.2,and_self,if_true,Gr]
  ·exact h.elim
 ·rename_i n a x;obtain ⟨sl,m1,h1,h2⟩:=jg _ h
  split at h2
  ·rename_i t s c ix hk;obtain ⟨cs,m2,h3,h4⟩:=jg _ h2
   split at h4
   ·rename_i hb;simp only[Bool.and_eq_true,Nat.blt_eq,Nat.beq_eq] at hb;split at h4
    ·rename_i es f hr;have e:std.set es ix (vals cs)=bh es ix (vals cs):=rfl;rw[e] at h4;split at h4
     ·rename_i es' hset;refine ⟨_,?_,h4⟩
      unfold gL xi;simp only[gw,h1,hk,h3];rw[if_pos ⟨by omega,hb.1.2,hb.2⟩,CY,←wX,hr]
      simp only[hset];rw[←uh (vK hr)]
     ·exact h4.elim
    ·exact h4.elim
   ·exact h4.elim
  ·exact h2.elim
 ·rename_i gf args d';split at h
  ·rename_i ms x xs hm;split at h
   ·exact h.elim
   ·rename_i hmut;obtain ⟨sl,m1,h1,h2⟩:=jg _ h
    split at h2
    ·exact h2.elim
    ·rename_i hv;split at h2
     ·exact h2.elim
     ·rename_i hs hh;split at h2
      ·exact h2.elim
      ·rename_i hap;obtain ⟨as,m2,h3,h4⟩:=jg _ h2
       split at h4
       ·exact h4.elim
       ·rename_i hsc;unfold IC at h4;split at h4
        ·rename_i rs outs hO;obtain ⟨m3,h5,h6⟩:=qM hs outs _ h4
         rw[DK] at hap;unfold gL;simp only;unfold sG;rw[hm];simp only[hmut,Bool.false_eq_true,if_false,gw,h1,hv,if_true,hh,hap,h3,hsc,hO,CY,h5];split at h6
         ·exact ⟨_,rfl,h6⟩
         ·rename_i d;split at h6
          ·rename_i hb;simp only[Bool.and_eq_true,Nat.blt_eq] at hb;refine ⟨_,?_,h6⟩
           simp only;rw[l8,if_pos hb.1.1.1];simp only[hb.1.1.2,hb.1.2,hb.2,and_self,if_true,AZ]
          ·exact h6.elim
        ·exact h4.elim
  ·exact h.elim
 ·exact h.elim
theorem Dn (a b:List Nat):zZ a.reverse b.reverse=zZ a b:=by
 unfold zZ;rw[List.all_reverse]
 congr 1
 funext x
 simp
theorem CR (a b:Lg):iQ (lgR a) (lgR b)=iQ a b:=by
 cases a<;>cases b<;>simp[iQ,lgR,Dn]
theorem Fa (an:List Nat) (before:List Lg) (l:Lg):chk an (before.map lgR) (lgR l)=chk an before l:=by
 unfold chk;have key:∀ (bs:List Lg) (n:Nat),((bs.map lgR).zipIdx n).all (fun (m,i)=>an.contains i||iQ m (lgR l))=(bs.zipIdx n).all (fun (m,i)=>an.contains i||iQ m l):=by
  intro bs;induction bs with
  | nil=>intro n;rfl
  | cons b bs ih=>
   intro n;simp only[List.map_cons,List.zipIdx_cons,List.all_cons,CR,ih]
 exact key before 0
theorem qy {d:Bool}:∀ (ops:List Io) (m:Mp) (bs:List Lg) {b:List Lg} {Q:Mp→Prop},(d=true→b=bs.map lgR)→rZ std O md nt L d ops m b Q→
  ∃ m',eg O md nt ops (S L m)=some (S L m')∧(d=true→kv ops (lJ O md nt ops (S L m)) bs=true)∧Q m'
 | [],m,bs,b,Q,hb,h=>⟨m,rfl,fun _=>by simp[kv],h⟩
 | o::os,m,bs,b,Q,hb,h=>by
  have fin:∀ {m1:Mp} (l:Lg),dm O md nt o (S L m)=some (S L m1)→lgR (ei O md nt o (S L m))=l→
    qF d o.anc b l (fun b=>rZ std O md nt L d os m1 b Q)→∃ m',eg O md nt (o::os) (S L m)=some (S L m')∧(d=true→kv (o::os) (lJ O md nt (o::os) (S L m)) bs=true)∧Q m':=by
   intro m1 l h1 hl hq;unfold qF at hq;cases d with
   | false=>
    obtain ⟨m',k1,_,k3⟩:=qy os m1 [] (by simp) hq
    exact ⟨m',by unfold eg;rw[h1];exact k1,by simp,k3⟩
   | true=>
    simp only at hq;split at hq
    ·rename_i hc;have hb:=hb rfl;obtain ⟨m',k1,k2,k3⟩:=qy os m1 (bs++[ei O md nt o (S L m)]) (fun _=>by rw[hb,List.map_append,←hl];rfl) hq
     refine ⟨m',by unfold eg;rw[h1];exact k1,fun _=>?_,k3⟩
     unfold lJ;rw[h1];simp only[kv,Bool.and_eq_true];refine ⟨?_,k2 rfl⟩
     rw[hb,←hl] at hc;exact (Fa _ _ _).symm.trans hc
    ·exact hq.elim
  unfold rZ at h;obtain ⟨x,r,hw,hlw,h⟩:=E4 h
  split at h
  ·rename_i he;split at h
   ·rw[Ab] at h;obtain ⟨u,m1,h1,h2⟩:=jg _ h
    refine fin _ ?_ ?_ h2
    ·unfold dm gw ioF;simp only[he,Bool.false_eq_true,if_false,FM.run_bind,hw,if_true,h1]
    ·unfold ei ioF;simp only[he,Bool.false_eq_true,if_false,lgR,Option.map_some,FM.log_bind _ _ hw,hlw,if_true,List.reverse_append,List.reverse_reverse,List.nil_append,List.append_nil]
   ·obtain ⟨u,m1,h1,h2⟩:=jg _ h
    refine fin _ ?_ ?_ h2
    ·unfold dm gw ioF;simp only[he,Bool.false_eq_true,if_false,FM.run_bind,hw,h1]
    ·unfold ei ioF;simp only[he,Bool.false_eq_true,if_false,lgR,Option.map_some,FM.log_bind _ _ hw,hlw,List.reverse_append,List.reverse_reverse,List.nil_append,List.append_nil]
  ·rename_i he;have hl:lgR (ei O md nt o (S L m))=none:=by
    unfold ei;simp only[he,if_true,lgR,Option.map_none]
   split at h
   ·obtain ⟨m2,h3,h4⟩:=Ce h
    refine fin _ ?_ hl h4
    unfold dm z8 gw;simp only[he,if_true,hw,h3]
   ·obtain ⟨u,m2,h3,h4⟩:=jg _ h
    refine fin _ ?_ hl h4
    unfold dm z8 gw;simp only[he,if_true,hw,Bool.false_eq_true,if_false,h3]
theorem gT {c:Cd} {m k:Nat} {st:St} {r:Ex×St} (h:code O md nt m c st=some r) (hk:m≤k):code O md nt k c st=some r:=by
 obtain ⟨N,hN⟩:=f9 (O:=O) (o:=fun _=>O) (fun g args r h=>Ev.of fun _=>h) _ _ _ h
 exact hN N (Nat.le_refl _) k hk
variable {st:St} {Qe:Ex→St→Prop}
theorem Wp.mono {c:Cd} {Q':Ex→St→Prop} (h:Wp O md nt c st Q') (hq:∀ ex st,Q' ex st→Qe ex st):Wp O md nt c st Qe:=by
 obtain ⟨m,ex,st',h1,h2⟩:=h
 exact ⟨m,ex,st',h1,hq _ _ h2⟩
theorem G4 {a b:Cd} (h:Wp O md nt a st (fun ex st'=>match ex with | .normal=>Wp O md nt b st' Qe | .exit i=>Qe (.exit i) st' | .ret=>Qe .ret st')):Wp O md nt (.seq a b) st Qe:=by
 obtain ⟨m,ex,s1,h1,hQ⟩:=h
 cases ex with
 | normal=>
  obtain ⟨k,ex,st',h2,hQ⟩:=hQ
  exact ⟨m+k,ex,st',by unfold code;rw[gT h1 (Nat.le_add_right m k)];exact gT h2 (Nat.le_add_left k m),hQ⟩
 | exit i=>exact ⟨m, .exit i,s1,by unfold code;rw[h1],hQ⟩
 | ret=>exact ⟨m, .ret,s1,by unfold code;rw[h1],hQ⟩
theorem CZ {id:Nat} {c:Cd} (h:Wp O md nt c st (fun ex st'=>match ex with | .exit i=>if i=id then Qe .normal st' else Qe (.exit i) st' | ex=>Qe ex st')):Wp O md nt (.block id c) st Qe:=by
 obtain ⟨m,ex,s1,h1,hQ⟩:=h
 cases ex with
 | normal=>exact ⟨m, .normal,s1,by unfold code;rw[h1],hQ⟩
 | ret=>exact ⟨m, .ret,s1,by unfold code;rw[h1],hQ⟩
 | exit i=>
  simp only at hQ;split at hQ
  ·rename_i hi;exact ⟨m, .normal,s1,by unfold code;rw[h1];simp[hi],hQ⟩
  ·rename_i hi;exact ⟨m, .exit i,s1,by unfold code;rw[h1];simp[hi],hQ⟩
theorem E8 {c:Cd} (h:Wp O md nt c st (fun ex st'=>match ex with | .normal=>Wp O md nt (.loop c) st' Qe | .exit i=>Qe (.exit i) st' | .ret=>Qe .ret st')):Wp O md nt (.loop c) st Qe:=by
 obtain ⟨m,ex,s1,h1,hQ⟩:=h
 cases ex with
 | normal=>
  obtain ⟨k,ex,st',h2,hQ⟩:=hQ
  refine ⟨m+k+1,ex,st',?_,hQ⟩
  have h3:=gT h2 (Nat.le_add_left k m);unfold code at h3 ⊢;unfold gM;rw[gT h1 (by omega:m≤m+k+1)]
  exact tA (fun st r hr=>gT hr (Nat.le_succ _)) _ _ _ (Nat.le_refl _) h3
 | exit i=>exact ⟨m+1, .exit i,s1,by unfold code gM;rw[gT h1 (Nat.le_succ m)],hQ⟩
 | ret=>exact ⟨m+1, .ret,s1,by unfold code gM;rw[gT h1 (Nat.le_succ m)],hQ⟩
theorem dC:∀ (c:Cd) (m:Mp) {Q:Ex→Mp→Prop},wpc std O md nt L c m Q→Wp O md nt c (S L m) fun ex st=>∃ m',st=S L m'∧Q ex m'
 | .skip,m,Q,h=>⟨0, .normal,_,rfl,m,rfl,h⟩
 | .exit i,m,Q,h=>⟨0, .exit i,_,rfl,m,rfl,h⟩
 | .ret,m,Q,h=>⟨0, .ret,_,rfl,m,rfl,h⟩
 | .bad,m,Q,h=>h.elim
 | .loop c,m,Q,h=>by
  obtain ⟨h⟩:=h
  exact h
 | .region d k0 k1 ops,m,Q,h=>by
  unfold wpc at h;obtain ⟨m',h1,h2,h3⟩:=qy ops _ [] (by simp) h
  refine ⟨0, .normal,_,?_,_,rfl,h3⟩
  unfold code region;rw[CX,h1];have:¬((d&& !kv ops (lJ O md nt ops (S L (kil (bf nt::k0) m))) [])=true):=by
   cases d with
   | false=>simp
   | true=>simp[h2 rfl]
  rw[if_neg this];simp only;rw[CX]
 | .seq a b,m,Q,h=>by
  unfold wpc at h;refine G4 ((dC a m h).mono fun ex st hq=>?_)
  obtain ⟨m',rfl,hq⟩:=hq
  cases ex with
  | normal=>exact dC b m' hq
  | exit i=>exact ⟨m',rfl,hq⟩
  | ret=>exact ⟨m',rfl,hq⟩
 | .cond x a b,m,Q,h=>by
  unfold wpc at h;split at h
  ·rename_i i;split at h
   ·rename_i hb;have hi:i < L:=by simpa [Nat.blt_eq] using hb
    have hg:(S L m)[i]?=some (cU m i):=by rw[l8,if_pos hi]
    split at h
    ·rename_i b' f hk hcs;have hc:uT (.t i) (S L m)=some (b',S L (del m i)):=by
      unfold uT;simp only[hg,hk,hcs,Gr]
     split at h
     ·obtain ⟨n,ex,st',h1,h2⟩:=dC a _ h
      exact ⟨n,ex,st',by unfold code;rw[hc];exact h1,h2⟩
     ·obtain ⟨n,ex,st',h1,h2⟩:=dC b _ h
      exact ⟨n,ex,st',by unfold code;rw[hc];exact h1,h2⟩
    ·exact h.elim
   ·exact h.elim
  ·rename_i b';split at h
   ·obtain ⟨n,ex,st',h1,h2⟩:=dC a _ h
    exact ⟨n,ex,st',by unfold code;exact h1,h2⟩
   ·obtain ⟨n,ex,st',h1,h2⟩:=dC b _ h
    exact ⟨n,ex,st',by unfold code;exact h1,h2⟩
  ·exact h.elim
 | .block id c,m,Q,h=>by
  unfold wpc at h;refine CZ ((dC c m h).mono fun ex st hq=>?_)
  obtain ⟨m',rfl,hq⟩:=hq
  cases ex with
  | normal=>exact ⟨m',rfl,hq⟩
  | ret=>exact ⟨m',rfl,hq⟩
  | exit i=>
   simp only at hq ⊢;split at hq
   ·rename_i hb;rw[if_pos (by simpa [Nat.beq_eq] using hb)]
    exact ⟨m',rfl,hq⟩
   ·rename_i hb;rw[if_neg (fun e=>by subst e;simp at hb)]
    exact ⟨m',rfl,hq⟩
theorem oL {P:Prims} (hP:P=std) {c:Cd} {m:Mp} {Q:Ex→Mp→Prop} (h:wpc P O md nt L c m fun ex m=>match ex with | .normal=>nY O md nt L c m Q | .exit i=>Q (.exit i) m | .ret=>Q .ret m):nY O md nt L c m Q:=by
 subst hP;refine ⟨E8 ((dC c m h).mono fun ex st hq=>?_)⟩
 obtain ⟨m',rfl,hq⟩:=hq
 cases ex with
 | normal=>exact hq.1
 | exit i=>exact ⟨m',rfl,hq⟩
 | ret=>exact ⟨m',rfl,hq⟩
end
def DB (fn:FnIr) (args:List SU) (L:Nat) (r:Ret) (ex:Ex) (m:Mp):Prop:=match ex with
 | .normal=>cC fn args (S L m)=some r
 | .ret=>cC fn args (S L m)=some r
 | .exit _=>False
theorem DE {T:Nat→Option FnIr} {md:bO} {g:Nat} {fn:FnIr} (hT:T g=some fn) (hsp:fn.sp=0) {args:List SU} (hlen:args.length=fn.np) (hle:fn.np≤fn.ntmps) {r:Ret} {m:Mp} (hm:jI fn (aj fn.modes args)=S (2 * fn.ntmps+2) m)
  (hw:wpc std (fix T md) md fn.ntmps (2 * fn.ntmps+2) fn.body m (DB fn (aj fn.modes args) (2 * fn.ntmps+2) r)):fix T md g args=some r:=by
 obtain ⟨n,ex,st,h,m',rfl,hq⟩:=dC _ _ hw
 rw[←hm] at h;cases ex with
 | normal=>exact pn hT hsp hlen hle h (.inl rfl) hq
 | ret=>exact pn hT hsp hlen hle h (.inr rfl) hq
 | exit i=>exact hq.elim
theorem yV (ms:List Pm) (args:List SU):(aj ms args).length=args.length:=by
 unfold aj;split<;>simp
theorem DD {T:Nat→Option FnIr} {md:bO} {g:Nat} {fn:FnIr} (hT:T g=some fn) (hsp:fn.sp=0) {args:List SU} (hlen:args.length=fn.np) (hle:fn.np≤fn.ntmps) (hb:args.all eQ=true) {r:Ret}
  (hw:∀ P:Prims,P=std→wpc P (fix T md) md fn.ntmps (2 * fn.ntmps+2) fn.body (iC 0 (aj fn.modes args)) (DB fn (aj fn.modes args) (2 * fn.ntmps+2) r)):fix T md g args=some r:=by
 refine DE hT hsp hlen hle ?_ (hw std rfl)
 refine BV (by rw[yV];exact hlen) hle (fun s l t e hk=>?_)
 unfold aj at e;have hbs:∀ x∈args,eQ x=true:=by simpa using hb
 split at e
 ·have:=hbs s (by rw[e];exact List.mem_cons_self ..)
  simp[eQ,hk] at this
 ·cases args with
  | nil=>simp at e
  | cons x xs=>
   simp only[List.map_cons,List.cons.injEq] at e;have:=hbs x (List.mem_cons_self ..)
   obtain ⟨k,cs⟩:=x
   rw[←e.1] at hk;cases k<;>simp[aV] at hk
   simp[eQ] at this
end Go.Vm
end
section
namespace Go.Vm
structure Facts (add sub mul:IntKind→Int→Int→Int) (arith:BinOp→IntKind→Int→Int→Option V) (eq ne lt le gt ge:Int→Int→Bool) (neg conv:IntKind→Int→Int) (mn mx:Int→Int→Int) (not:Bool→Bool) (beq:Bool→Bool→Bool)
  (len:List (List V)→Int) (at':Nat→List (List V)→Int→Option (Nat×List V)) (ln:List (List V)→Nat) (bd:Nat→Int→Option Nat) (cut:Nat→List (List V)→Nat→Nat→Option (List (List V))) (app:Nat→List (List V)→List (List V)→Option (List (List V)))
  (allS isNil:List (List V)→Bool) (mks:List V→Int→Int→Option (List (List V))) (set:List (List V)→Nat→List V→Option (List (List V))):Prop where
 add:∀ k x y,add k x y=k.wrap (x+y)
 sub:∀ k x y,sub k x y=k.wrap (x - y)
 mul:∀ k x y,mul k x y=k.wrap (x * y)
 arith:∀ op k x y,arith op k x y=std.arith op k x y
 eq:∀ x y,eq x y=decide (x=y)
 ne:∀ x y,ne x y=decide (x≠y)
 lt:∀ x y,lt x y=decide (x < y)
 le:∀ x y,le x y=decide (x≤y)
 gt:∀ x y,gt x y=decide (y < x)
 ge:∀ x y,ge x y=decide (y≤x)
 neg:∀ k x,neg k x=k.wrap (0 - x)
 conv:∀ k x,conv k x=k.wrap x
 mn:∀ x y,mn x y=if y < x then y else x
 mx:∀ x y,mx x y=if y > x then y else x
 not:∀ b,not b= !b
 beq:∀ a b,beq a b=(a== b)
 len:∀ es,len es=es.length
 at':∀ k es i,at' k es i=rX k es i
 ln:∀ es,ln es=es.length
 bd:∀ n i,bd n i=uq n i
 cut:∀ k es h l,cut k es h l=q8 k es h l
 app:∀ k es ys,app k es ys=lX k es ys
 allS:∀ es,allS es=cn es
 isNil:∀ es,isNil es=ur es
 mks:∀ z n m,mks z n m=vT z n m
 set:∀ es ix vs,set es ix vs=bh es ix vs
def Sym (F:Prims→dH→Prop) (O:dH):Prop:=
 ∀ add sub mul arith eq ne lt le gt ge neg conv mn mx not beq len at' ln bd cut app allS isNil mks set (o:dH),Prims.mk add sub mul arith eq ne lt le gt ge neg conv mn mx not beq len at' ln bd cut app allS isNil mks set=std→Facts add sub mul arith eq ne lt le gt ge neg conv mn mx not beq len at' ln bd cut app allS isNil mks set→o=O→
  F ⟨add,sub,mul,arith,eq,ne,lt,le,gt,ge,neg,conv,mn,mx,not,beq,len,at',ln,bd,cut,app,allS,isNil,mks,set⟩ o
theorem Ci:Facts std.add std.sub std.mul std.arith std.eq std.ne std.lt std.le std.gt std.ge std.neg std.conv std.mn std.mx std.not std.beq std.len std.at' std.ln std.bd std.cut std.app std.allS std.isNil std.mks std.set:=by
 refine ⟨?_,?_,?_,?_,?_,?_,?_,?_,?_,?_,?_,?_,?_,?_,?_,?_,?_,?_,?_,?_,?_,?_,?_,?_,?_,?_⟩<;>intros<;>first | rfl | (simp[std];done) | (simp only[std,bne];rename_i x y;by_cases h:x=y<;>simp[h])
theorem Sym.at {F:Prims→dH→Prop} {O:dH} (h:Sym F O):F std O:=by
 have:=h std.add std.sub std.mul std.arith std.eq std.ne std.lt std.le std.gt std.ge std.neg std.conv std.mn std.mx std.not std.beq std.len std.at' std.ln std.bd std.cut std.app std.allS std.isNil std.mks std.set O rfl Ci rfl
 exact this
theorem bB {T:Nat→Option FnIr} {md:bO} {g:Nat} {fn:FnIr} (hT:T g=some fn) (hsp:fn.sp=0) {args:List SU} (hlen:args.length=fn.np) (hle:fn.np≤fn.ntmps) (hb:args.all eQ=true) {r:Ret}
  (hw:Sym (fun P O=>wpc P O md fn.ntmps (2 * fn.ntmps+2) fn.body (iC 0 (aj fn.modes args)) (DB fn (aj fn.modes args) (2 * fn.ntmps+2) r)) (fix T md)):fix T md g args=some r:=
 DD hT hsp hlen hle hb fun P hP=>by subst hP;exact hw.at
theorem both {x:Bool} {A B:Prop} (h1:x=true→A) (h2:x=false→B):(match (generalizing:=false) x with | true=>A | false=>B):=by
 cases x
 ·exact h2 rfl
 ·exact h1 rfl
def At (i:Int) (n:Nat):Prop:=i=n
def row {α:Type} (f:α→List V) (l:List α):List (List V):=l.map f
theorem jc {α:Type} (f:α→List V) (l:List α):(row f l).length=l.length:=by simp[row]
theorem H0 {α:Type} {f:α→List V} {k:Nat} (hk:∀ a,(f a).length=k) (h0:k≠0) {pre:List α} {x:α} {suf:List α}:rX k (row f (pre++x::suf)) (pre.length:Int)=some (pre.length * k,f x):=by
 unfold rX idx;rw[jc,if_pos ⟨by omega,by simp;omega⟩]
 simp[row,hk,h0]
theorem H1 {α:Type} {f:α→List V} {k:Nat} (hk:∀ a,(f a).length=k) (h0:k≠0) {l:List α} {i:Int} {x:α} (h:0≤i) (hx:l[i.toNat]?=some x):rX k (row f l) i=some (i.toNat * k,f x):=by
 have hlt:i.toNat < l.length:=(List.getElem?_eq_some_iff.1 hx).1
 unfold rX idx;rw[jc,if_pos ⟨h,by omega⟩]
 have hall:(row f l).all (fun e=>decide (e.length=k))=true:=by
  rw[List.all_eq_true];intro e he;obtain ⟨a,_,rfl⟩:=List.mem_map.1 he
  simp[hk]
 have hg:(row f l)[i.toNat]?=some (f x):=by unfold row;rw[List.getElem?_map,hx];rfl
 simp only[hg];rw[if_pos ⟨h0,hk x,hall⟩]
theorem AE {α:Type} {f:α→List V} {k:Nat} (hk:∀ a,(f a).length=k) (l:List α):eM k (row f l)=true:=by
 unfold eM;rw[List.all_eq_true];intro e he;obtain ⟨a,_,rfl⟩:=List.mem_map.1 he
 simp[hk]
theorem F8 {α:Type} {f:α→List V} {k:Nat} (hk:∀ a,(f a).length=k) {l l':List α} (h:l.length+l'.length≤lim):lX k (row f l) (row f l')=some (row f (l++l')):=by
 unfold lX;rw[if_pos ⟨AE hk l,AE hk l',by rw[jc,jc];exact h⟩]
 simp[row]
theorem F9 {α:Type} {f:α→List V} {k:Nat} (hk:∀ a,(f a).length=k) {l:List α} {h l0:Nat}:q8 k (row f l) h l0=some (row f ((l.take h).drop l0)):=by
 have:=AE hk l
 unfold eM at this;unfold q8;rw[if_pos this];simp[row]
theorem Ga {α:Type} {f:α→List V} {l:List α}:ur (row f l)=l.isEmpty:=by
 cases l<;>rfl
theorem EP {α:Type} {f:α→List V} (hf:∀ a,(f a).all scal=true) {l:List α}:cn (row f l)=true:=by
 unfold cn;rw[List.all_eq_true];intro e he;obtain ⟨a,_,rfl⟩:=List.mem_map.1 he
 exact hf a
theorem qS {α:Type} {f:α→List V} {z:List V} {a:α} (hz:z=f a) (hne:f a≠[]) {n:Nat} (h:n≤lim):vT z (n:Int) (n:Int)=some (row f (List.replicate n a)):=by
 subst hz;unfold vT;rw[if_pos ⟨rfl,by omega,by exact_mod_cast h,by cases hf:f a with | nil=>exact absurd hf hne | cons x xs=>rfl⟩]
 simp[row]
def fI (n:Int):List V:=[.int .i64 n]
def fB (b:Bool):List V:=[.bool b]
abbrev I (n:Int):SU:=⟨.val,[⟨.int .i64 n, .sc⟩]⟩
abbrev B (b:Bool):SU:=⟨.val,[⟨.bool b, .sc⟩]⟩
abbrev R (es:List (List V)) (f:Fl):SU:=⟨.val,[⟨.row () es,f⟩]⟩
theorem aW {x:Int} (h: -9223372036854775808≤x) (h':x < 9223372036854775808):IntKind.wrap .i64 x=x:=by
 have e1:IntKind.bits .i64=64:=rfl;have e2:IntKind.signed .i64=true:=rfl;unfold IntKind.wrap;simp only[e1,e2,Bool.true_and];by_cases hx:0≤x
 ·have hm:x % (2 ^ 64:Int)=x:=Int.emod_eq_of_lt hx (by omega)
  rw[hm,if_neg (by simp;omega)]
 ·have hm:x % (2 ^ 64:Int)=x+2 ^ 64:=by omega
  rw[hm,if_pos (by simp;omega)]
  omega
theorem aJ {P:Prims} {O:dH} {md:bO} {nt L:Nat} (hP:P=std) {c:Cd} {m:Mp} {Q:Ex→Mp→Prop} {σ:Type} (st:σ→Mp) (inv:σ→Prop) (μ:σ→Nat) (s0:σ) (hm:m=st s0) (h0:inv s0)
  (step:∀ s,inv s→(∀ s',inv s'→μ s' < μ s→nY O md nt L c (st s') Q)→wpc P O md nt L c (st s) fun ex m=>match ex with | .normal=>nY O md nt L c m Q | .exit i=>Q (.exit i) m | .ret=>Q .ret m):nY O md nt L c m Q:=by
 have key:∀ (n:Nat) (s:σ),μ s < n→inv s→nY O md nt L c (st s) Q:=by
  intro n;induction n with
  | zero=>intro s h;omega
  | succ n ih=>
   intro s h hi;exact oL hP (step s hi fun s' hi' hlt=>ih s' (by omega) hi')
 rw[hm];exact key (μ s0+1) s0 (Nat.lt_succ_self _) h0
theorem AP {α:Type} {f:α→List V} {k:Nat} (hk:∀ a,(f a).length=k) {pre:List α} {x:α} {suf:List α} {j:Nat} (hj:j < k):fm (pre.length * k+j) (row f (pre++x::suf))=some (pre.length,j):=by
 induction pre with
 | nil=>simp[row,fm,hk,hj]
 | cons p ps ih=>
  simp only[List.cons_append,row,List.map_cons,fm,hk,List.length_cons];rw[if_neg (by rw[Nat.succ_mul];omega),show (ps.length+1) * k+j - k=ps.length * k+j by rw[Nat.succ_mul];omega]
  have:=ih
  unfold row at this;rw[this];rfl
theorem wY {α:Type} {pre suf:List α} {f:α→List V} {x y:α} {v:V} (h1:∀ a,(f a).length=1) (hy:f y=[v]):bh (row f (pre++x::suf)) (pre.length * 1) [v]=some (row f (pre++y::suf)):=by
 have h:=AP (f:=f) h1 (pre:=pre) (x:=x) (suf:=suf) (j:=0) (by omega)
 unfold bh;rw[Nat.add_zero] at h;rw[h];have hg:(row f (pre++x::suf))[pre.length]?=some (f x):=by simp[row]
 simp only[hg,bh,Option.some.injEq];have hl:=h1 x;have hs:(f x).set 0 v=f y:=by
  rw[hy];cases hfx:f x with
  | nil=>rw[hfx] at hl;simp at hl
  | cons a r=>cases r with
   | nil=>rfl
   | cons b r=>rw[hfx] at hl;simp at hl
 rw[hs];simp[row]
def ac:Fl→Bool
 | .sp _ _ | .nl | .sh=>true
 | _=>false
theorem ai {v:V} {f:Fl} (h:ac f=true):eW (⟨v,f⟩:Cell Unit)=⟨v, .sh⟩:=by
 cases f<;>simp[ac] at h<;>rfl
end Go.Vm
end
section
namespace Go.Vm
section
variable {add sub mul:IntKind→Int→Int→Int} {arith:BinOp→IntKind→Int→Int→Option V} {eq ne lt le gt ge:Int→Int→Bool} {neg conv:IntKind→Int→Int} {mn mx:Int→Int→Int} {not:Bool→Bool} {beq:Bool→Bool→Bool}
 {len:List (List V)→Int} {at':Nat→List (List V)→Int→Option (Nat×List V)} {ln:List (List V)→Nat} {bd:Nat→Int→Option Nat} {cut:Nat→List (List V)→Nat→Nat→Option (List (List V))} {app:Nat→List (List V)→List (List V)→Option (List (List V))}
 {allS isNil:List (List V)→Bool} {mks:List V→Int→Int→Option (List (List V))} {set:List (List V)→Nat→List V→Option (List (List V))}
 (F:Facts add sub mul arith eq ne lt le gt ge neg conv mn mx not beq len at' ln bd cut app allS isNil mks set)
include F
theorem Facts.len_at {α:Type} {f:α→List V} {l:List α} {e:List (List V)} (h:e=row f l):At (len e) l.length:=by
 unfold At;rw[F.len,h,jc]
theorem Facts.lt_t {i j:Int} {n m:Nat} (hi:At i n) (hj:At j m) (h:n < m):lt i j=true:=by
 unfold At at hi hj;rw[F.lt,hi,hj];simp;omega
theorem Facts.lt_f {i j:Int} {n m:Nat} (hi:At i n) (hj:At j m) (h:m≤n):lt i j=false:=by
 unfold At at hi hj;rw[F.lt,hi,hj];simp;omega
theorem Facts.ne_t {i j:Int} (h:i≠j):ne i j=true:=by rw[F.ne];simp[h]
theorem Facts.ne_f {i j:Int} (h:i=j):ne i j=false:=by rw[F.ne];simp[h]
theorem Facts.eq_t {i j:Int} (h:i=j):eq i j=true:=by rw[F.eq];simp[h]
theorem Facts.eq_f {i j:Int} (h:i≠j):eq i j=false:=by rw[F.eq];simp[h]
theorem Facts.inc {i:Int} {n:Nat} (hi:At i n) (h:n≤1099511627776):At (add .i64 i 1) (n+1):=by
 unfold At at hi ⊢;rw[F.add,hi,aW (by omega) (by omega)];rfl
theorem Facts.get {α:Type} {f:α→List V} {k:Nat} {i:Int} {e:List (List V)} {l pre suf:List α} {x:α} (hi:At i pre.length) (he:e=row f l) (hl:l=pre++x::suf) (hk:∀ a,(f a).length=k) (h0:k≠0):at' k e i=some (pre.length * k,f x):=by
 unfold At at hi;rw[F.at',he,hi,hl];exact H0 hk h0
theorem Facts.app' {α:Type} {f:α→List V} {k:Nat} {e1 e2:List (List V)} {l1 l2:List α} (h1:e1=row f l1) (h2:e2=row f l2) (hk:∀ a,(f a).length=k) (h:l1.length+l2.length≤1099511627776):app k e1 e2=some (row f (l1++l2)):=by
 rw[F.app,h1,h2];exact F8 hk h
theorem Facts.scal {α:Type} {f:α→List V} {e:List (List V)} {l:List α} (h:e=row f l) (hf:∀ a,(f a).all scal=true):allS e=true:=by
 rw[F.allS,h];exact EP hf
theorem Facts.nil {α:Type} {f:α→List V} {e:List (List V)} {l:List α} (h:e=row f l):isNil e=l.isEmpty:=by
 rw[F.isNil,h];exact Ga
theorem Facts.app_nil {α:Type} {f:α→List V} {k:Nat} {e:List (List V)} {l:List α} (h:e=row f l) (hk:∀ a,(f a).length=k) (hl:l.length≤1099511627776):app k [] e=some e:=by
 have:=F.app' (f:=f) (l1:=[]) (e1:=[]) rfl h hk (by simpa using hl)
 rw[this,h];rfl
theorem Facts.push {α:Type} {f:α→List V} {k:Nat} {e:List (List V)} {l:List α} {x:α} {c:List V} (h:e=row f l) (hk:∀ a,(f a).length=k) (hc:f x=c) (hl:l.length < 1099511627776):app k e [c]=some (row f (l++[x])):=
 F.app' (f:=f) (l2:=[x]) h (by simp[row,hc]) hk (by simp;omega)
theorem Facts.bd' {i:Int} {n m:Nat} (hi:At i n) (h:n≤m):bd m i=some n:=by
 unfold At at hi;rw[F.bd];unfold uq;rw[if_pos ⟨by omega,by omega⟩];simp[hi]
theorem Facts.ln' {α:Type} {f:α→List V} {l:List α} {e:List (List V)} (h:e=row f l):ln e=l.length:=by rw[F.ln,h,jc]
theorem Facts.cut' {α:Type} {f:α→List V} {k:Nat} {e:List (List V)} {l:List α} {h0 l0:Nat} (h:e=row f l) (hk:∀ a,(f a).length=k):cut k e h0 l0=some (row f ((l.take h0).drop l0)):=by
 rw[F.cut,h];exact F9 hk
theorem Facts.le_n {i k:Int} {n m:Nat} (hi:At i n) (hk:k=(m:Int)):le i k=decide (n≤m):=by unfold At at hi;rw[F.le,hi,hk];simp
theorem Facts.lt_n {i k:Int} {n m:Nat} (hi:At i n) (hk:k=(m:Int)):lt i k=decide (n < m):=by unfold At at hi;rw[F.lt,hi,hk];simp
theorem Facts.gt_n {i k:Int} {n m:Nat} (hi:At i n) (hk:k=(m:Int)):gt i k=decide (m < n):=by unfold At at hi;rw[F.gt,hi,hk];simp
theorem Facts.ge_n {i k:Int} {n m:Nat} (hi:At i n) (hk:k=(m:Int)):ge i k=decide (m≤n):=by unfold At at hi;rw[F.ge,hi,hk];simp
theorem Facts.eq_n {i k:Int} {n m:Nat} (hi:At i n) (hk:k=(m:Int)):eq i k=decide (n=m):=by unfold At at hi;rw[F.eq,hi,hk];simp;omega
theorem Facts.ne_n {i k:Int} {n m:Nat} (hi:At i n) (hk:k=(m:Int)):ne i k=decide (n≠m):=by unfold At at hi;rw[F.ne,hi,hk];simp;omega
theorem Facts.not_t {b:Bool} (h:not b=true):b=false:=by rw[F.not] at h;simpa using h
theorem Facts.not_f {b:Bool} (h:not b=false):b=true:=by rw[F.not] at h;simpa using h
end
def md (g:Nat):List Pm:=if g < 1000 then [] else if g < 2000 then [.mrow, .val] else if g < 3000 then [.mrow] else [.mbox]
theorem cJ {T:Nat→Option FnIr} {md:bO} {g:Nat} {fn:FnIr} (hT:T g=some fn) (hsp:fn.sp=0) {args:List SU} (hlen:args.length=fn.np) (hle:fn.np≤fn.ntmps) (hb:args.all eQ=true) {r:Ret}
  (hw:∀ Q,Q=DB fn (aj fn.modes args) (2 * fn.ntmps+2) r→Sym (fun P O=>wpc P O md fn.ntmps (2 * fn.ntmps+2) fn.body (iC 0 (aj fn.modes args)) Q) (fix T md)):fix T md g args=some r:=
 bB hT hsp hlen hle hb (hw _ rfl)
theorem ah {P:Prims} {O:dH} {md:bO} {nt L:Nat} (hP:P=std) {c:Cd} {m:Mp} {Q:Ex→Mp→Prop} {σ:Type} (st:σ→Mp) (inv:σ→Prop) (μ:σ→Nat) (s0:σ) (hm:m=st s0) (h0:inv s0)
  (step:∀ (c':Cd) (Q':Ex→Mp→Prop),c'=c→Q'=Q→∀ s,inv s→(∀ s',inv s'→μ s' < μ s→nY O md nt L c' (st s') Q')→wpc P O md nt L c (st s) fun ex m=>match ex with | .normal=>nY O md nt L c' m Q' | .exit i=>Q' (.exit i) m | .ret=>Q' .ret m):nY O md nt L c m Q:=
 aJ hP st inv μ s0 hm h0 (step c Q rfl rfl)
theorem at0:At 0 0:=rfl
theorem ao {i:Int} {n m:Nat} (h:At i n) (e:n=m):At i m:=e▸h
def inR (n lo hi:Int):Bool:=decide (lo≤n)&&decide (n≤hi)
def bytes (l:List Int):Bool:=l.all fun n=>inR n 0 255
end Go.Vm
end
section
namespace Go.Vm
open Go.RowKit
theorem Ba {k:IntKind} {v:V} (h:Fit (.int k) v):∃ n,v= .int k n∧k.min≤n∧n≤k.max:=by cases h;exact ⟨_,rfl,by assumption,by assumption⟩
theorem gE {v:V} (h:Fit (.int .i64) v):∃ n,v= .int .i64 n∧ -9223372036854775808≤n∧n≤9223372036854775807:=by
 obtain ⟨n,h1,h2,h3⟩:=Ba h
 exact ⟨n,h1,Int.le_trans (by decide) h2,Int.le_trans h3 (by decide)⟩
theorem pk {v:V} (h:Fit .bool v):∃ b,v= .bool b:=by cases h;exact ⟨_,rfl⟩
theorem aQ {vs:List V} (h:iA [] vs):vs=[]:=by simpa using h.1
theorem ay {s:Sh} {l:List Sh} {vs:List V} (h:iA (s::l) vs):∃ v vs',vs=v::vs'∧Fit s v∧iA l vs':=by
 obtain ⟨h1,h2⟩:=h
 match vs,h1 with
 | v::vs',h1=>exact ⟨v,vs',rfl,h2 0 s v rfl rfl,by simpa using h1,fun i s' v' a b=>h2 (i+1) s' v' (by simpa using a) (by simpa using b)⟩
theorem bC {α:Type} {f:α→List V} {Q:α→Prop} {l:List Sh} (hf:∀ vs,iA l vs→∃ a,vs=f a∧Q a) {v:V} (h:Fit (.row l) v):∃ as:List α,v= .row () (row f as)∧as.length≤9223372036854775807∧∀ a∈as,Q a:=by
 cases h with
 | row _ es hl hk he=>
  have key:∀ es:List (List V),(∀ e∈es,iA l e)→∃ as:List α,es=row f as∧∀ a∈as,Q a:=by
   intro es;induction es with
   | nil=>intro _;exact ⟨[],rfl,by simp⟩
   | cons e es ih=>
    intro h;obtain ⟨a,h1,h2⟩:=hf e (h e (by simp))
    obtain ⟨as,h3,h4⟩:=ih (fun x hx=>h x (by simp[hx]))
    exact ⟨a::as,by simp[row,h1,h3],by simpa using ⟨h2,h4⟩⟩
  obtain ⟨as,h1,h2⟩:=key es (fun e h=>⟨hk e h,he e h⟩)
  refine ⟨as,by rw[h1],?_,h2⟩
  rw[h1,jc] at hl
  simpa [maxLen] using hl
def bu (n:Int):Prop:= -9223372036854775808≤n∧n≤9223372036854775807
theorem fe {vs:List V} (h:iA [.int .i64] vs):∃ n,vs=fI n∧bu n:=by
 obtain ⟨v,vs',rfl,h1,h2⟩:=ay h
 obtain ⟨n,rfl,h3⟩:=gE h1
 exact ⟨n,by rw[aQ h2];rfl,h3⟩
theorem Kk {vs:List V} (h:iA [.bool] vs):∃ b,vs=fB b∧True:=by
 obtain ⟨v,vs',rfl,h1,h2⟩:=ay h
 obtain ⟨n,rfl⟩:=pk h1
 exact ⟨n,by rw[aQ h2];rfl,trivial⟩
def fR (l:List Int):List V:=[.row () (row fI l)]
theorem gF {v:V} (h:Fit (.row [.int .i64]) v):∃ l:List Int,v= .row () (row fI l)∧l.length≤9223372036854775807∧∀ n∈l,bu n:=bC (fun _=>fe) h
theorem cR {vs:List V} (h:iA [.row [.int .i64]] vs):∃ l,vs=fR l∧(l.length≤9223372036854775807∧∀ n∈l,bu n):=by
 obtain ⟨v,vs',rfl,h1,h2⟩:=ay h
 obtain ⟨n,rfl,h3⟩:=gF h1
 exact ⟨n,by rw[aQ h2];rfl,h3⟩
def vX:List (Bool×List Sh)→(List (Bool×List V)→Prop)→Prop
 | [],p=>p []
 | x::ls,p=>∀ vs,iA x.2 vs→vX ls (fun xs=>p ((x.1,vs)::xs))
theorem ru:∀ (ls:List (Bool×List Sh)) (p:List (Bool×List V)→Prop),vX ls p→∀ xs:List (Bool×List V),xs.length=ls.length→(∀ (i:Nat) x y,xs[i]?=some x→ls[i]?=some y→x.1=y.1∧iA y.2 x.2)→p xs
 | [],p,h,xs,hl,_=>by
  have:xs=[]:=by simpa using hl
  subst this;exact h
 | y::ls,p,h,xs,hl,hf=>by
  match xs,hl,hf with
  | x::xs,hl,hf=>
   obtain ⟨h1,h2⟩:=hf 0 x y rfl rfl
   have:=ru ls _ (h x.2 h2) xs (by simpa using hl) (fun i x' y' a b=>hf (i+1) x' y' (by simpa using a) (by simpa using b))
   rw[←h1] at this;exact this
theorem az {T:Nat→Option FnIr} {modes:bO} {g:Nat} {ls:List (Bool×List Sh)} (h:vX ls fun xs=>fix T modes g (xW 0 xs)=some ⟨[B true],[],none⟩):aO T modes g ls:=by
 intro xs h1 h2;obtain ⟨n,hn⟩:=fix_iff.1 (ru ls _ h xs h1 h2)
 exact ⟨n,_,hn⟩
def E7 (P:Program) (sid:Nat→Nat) (canon:Nat→Option Nat) (p:Nat×FnIr):Prop:=
 (p.2.sp=0∧∃ fn ms,P.funcs[sid p.1]?=some fn∧(fn.name== "runtime.NumGoroutine")=false∧cFn P canon 0 ms fn=some p.2)∨(p.2.sp≠0∧jK P sid p.1 p.2.sp)
theorem lK {β:Type} {g:Nat} {x:β}:∀ {L:List (Nat×β)},L.lookup g=some x→(g,x)∈L
 | [],h=>by simp at h
 | (k,y)::L,h=>by
  rw[List.lookup_cons] at h;split at h
  ·rename_i e;rw[beq_iff_eq] at e;simp only[Option.some.injEq] at h;subst e;subst h;exact List.mem_cons_self ..
  ·exact List.mem_cons_of_mem _ (lK h)
theorem Iz {P:Program} {sid:Nat→Nat} (L:List (Nat×Nat)) (hL:∀ p∈L,sid p.2=p.1) (hm:P.follows .mixedOrders=true) (tbl:List (Nat×FnIr)) (h:∀ p∈tbl,E7 P sid (fun f=>L.lookup f) p):FnTab P sid (fun f=>L.lookup f) (fun g=>tbl.lookup g) where
 ids f g hf:=hL (f,g) (lK hf)
 mixed:=hm
 fn g ir hg:=h (g,ir) (lK hg)
theorem CP {k:Nat} {A:List (List V)} (hA:∀ a∈A,a.length=k) {e:List V} (he:e.length=k) {Z:List (List V)} {j:Nat} (hj:j < k):fm (A.length * k+j) (A++e::Z)=some (A.length,j):=by
 induction A with
 | nil=>simp[fm,he,hj]
 | cons p ps ih=>
  have hp:p.length=k:=hA p (by simp)
  simp only[List.cons_append,fm,List.length_cons,hp];rw[if_neg (by rw[Nat.succ_mul];omega),show (ps.length+1) * k+j - k=ps.length * k+j by rw[Nat.succ_mul];omega]
  rw[ih (fun a ha=>hA a (by simp[ha]))];rfl
theorem wZ {k:Nat}:∀ (vs:List V) (j:Nat) (A:List (List V)) (e:List V) (Z:List (List V)),(∀ a∈A,a.length=k)→e.length=k→j+vs.length≤k→bh (A++e::Z) (A.length * k+j) vs=some (A++(e.take j++vs++e.drop (j+vs.length))::Z)
 | [],j,A,e,Z,_,_,_=>by simp[bh]
 | v::vs,j,A,e,Z,hA,he,hj=>by
  simp only[List.length_cons] at hj;unfold bh;rw[CP hA he (by omega)]
  have hg:(A++e::Z)[A.length]?=some e:=by simp
  simp only[hg];have hs:(A++e::Z).set A.length (e.set j v)=A++e.set j v::Z:=by simp
  rw[hs,Nat.add_assoc,wZ vs (j+1) A (e.set j v) Z hA (by simpa using he) (by omega)]
  congr 3
  have h1:(e.set j v).take (j+1)=e.take j++[v]:=by
   rw[List.take_succ_eq_append_getElem (by simp;omega),List.take_set_of_le (Nat.le_refl j)]
   simp
  rw[h1,List.drop_set_of_lt (by omega)]
  simp only[List.append_assoc,List.cons_append,List.nil_append,List.length_cons];rw[show j+1+vs.length=j+(vs.length+1) by omega]
theorem lR {α:Type} {pre suf:List α} {f:α→List V} {k:Nat} {x y:α} {vs:List V} (hk:∀ a,(f a).length=k) (hy:f y=vs):bh (row f (pre++x::suf)) (pre.length * k) vs=some (row f (pre++y::suf)):=by
 have:=wZ (k:=k) vs 0 (row f pre) (f x) (row f suf) (by intro a ha;obtain ⟨b,_,rfl⟩:=List.mem_map.1 ha;exact hk b) (hk x) (by rw[←hy,hk];omega)
 rw[jc,Nat.add_zero] at this;rw[show row f (pre++x::suf)=row f pre++f x::row f suf by simp[row],this]
 have hl:vs.length=k:=by rw[←hy,hk]
 simp[row,←hy,hk]
end Go.Vm
end
section
set_option linter.unusedVariables false
namespace Go.Vm
def sz1 (n:Nat) (left:Int):Int:=if left - (n:Int) < 0 then -1 else left - (n:Int)
structure Sz (n:Int→Int) (P:Prop):Prop where
 lo:∀ left,left≤1048576→ -1≤n left
 hi:∀ left,0≤n left→n left≤left
 neg:∀ left,left < 0→n left= -1
 ok:∀ left,left≤1048576→0≤n left→P
theorem Sz.up {n:Int→Int} {P:Prop} (h:Sz n P) {left:Int} (hl:left≤1048576):n left≤1048576:=by
 by_cases h0:0≤n left
 ·exact Int.le_trans (h.hi left h0) hl
 ·omega
theorem Sz.of1 (k:Nat):Sz (sz1 k) (k≤1048576) where
 lo left h:=by unfold sz1;split<;>omega
 hi left h:=by unfold sz1 at *;split<;>split at h<;>omega
 neg left h:=by unfold sz1;split<;>omega
 ok left h h':=by unfold sz1 at h';split at h'<;>omega
theorem Sz.comp {n n':Int→Int} {P P':Prop} (h:Sz n P) (h':Sz n' P'):Sz (fun l=>n' (n l)) (P∧P') where
 lo left hl:=h'.lo _ (h.up hl)
 hi left hl:=by
  have h1:=h'.hi _ hl;exact Int.le_trans h1 (h.hi left (Int.le_trans hl h1))
 neg left hl:=h'.neg _ (by rw[h.neg left hl];decide)
 ok left hl h0:=by
  have h1:=h'.hi _ h0;exact ⟨h.ok left hl (Int.le_trans h0 h1),h'.ok _ (h.up hl) h0⟩
theorem Sz.id0:Sz (sz1 0) True where
 lo left h:=(Sz.of1 0).lo left h
 hi left h:=(Sz.of1 0).hi left h
 neg left h:=(Sz.of1 0).neg left h
 ok _ _ _:=trivial
def szL {α:Type} (f:α→Int→Int) (l:List α) (left:Int):Int:=l.foldl (fun a x=>f x a) (sz1 l.length left)
theorem xj {α:Type} {f:α→Int→Int} {P:α→Prop} (h:∀ x,Sz (f x) (P x)):∀ (l:List α) (left:Int),0≤l.foldl (fun a x=>f x a) left→l.foldl (fun a x=>f x a) left≤left
 | [],left,_=>Int.le_refl _
 | x::l,left,h0=>by
  rw[List.foldl_cons] at *;have h1:=xj h l (f x left) h0;exact Int.le_trans h1 ((h x).hi left (by omega))
theorem iw {α:Type} {f:α→Int→Int} {P:α→Prop} (h:∀ x,Sz (f x) (P x)):∀ (l:List α) (left:Int),left= -1→l.foldl (fun a x=>f x a) left= -1
 | [],left,h0=>h0
 | x::l,left,h0=>by
  rw[List.foldl_cons];exact iw h l _ ((h x).neg left (by omega))
theorem EX {α:Type} {f:α→Int→Int} {P:α→Prop} (h:∀ x,Sz (f x) (P x)):∀ (l:List α) (left:Int), -1≤left→left≤1048576→ -1≤l.foldl (fun a x=>f x a) left
 | [],left,h0,_=>h0
 | x::l,left,h0,h1=>by
  rw[List.foldl_cons];exact EX h l _ ((h x).lo left h1) ((h x).up h1)
theorem EY {α:Type} {f:α→Int→Int} {P:α→Prop} (h:∀ x,Sz (f x) (P x)):∀ (l:List α) (left:Int),left≤1048576→0≤l.foldl (fun a x=>f x a) left→∀ x∈l,P x
 | [],left,_,_=>by simp
 | x::l,left,h1,h0=>by
  rw[List.foldl_cons] at h0;have h2:=xj h l _ h0;intro y hy;rcases List.mem_cons.1 hy with rfl | hy
  ·exact (h y).ok left h1 (by omega)
  ·exact EY h l _ ((h x).up h1) h0 y hy
theorem Sz.list {α:Type} {f:α→Int→Int} {P:α→Prop} (h:∀ x,Sz (f x) (P x)) (l:List α):Sz (szL f l) (l.length≤1048576∧∀ x∈l,P x) where
 lo left hl:=EX h l _ ((Sz.of1 _).lo left hl) ((Sz.of1 _).up hl)
 hi left hl:=by
  have h1:=xj h l _ hl;unfold szL at *;exact Int.le_trans h1 ((Sz.of1 _).hi left (by omega))
 neg left hl:=iw h l _ ((Sz.of1 _).neg left hl)
 ok left hl h0:=by
  have h1:=xj h l _ h0;unfold szL at *;exact ⟨(Sz.of1 _).ok left hl (by omega),EY h l _ ((Sz.of1 _).up hl) h0⟩
def szR (l:List Int):Int→Int:=sz1 l.length
theorem fT (l:List Int):Sz (szR l) (l.length≤1048576):=Sz.of1 _
def szI (_:Int):Int→Int:=sz1 0
structure Ext where
 tag:Int
 body:List Int
theorem Ext.eq_iff {a b:Ext}:a=b↔a.tag=b.tag∧a.body=b.body:=by cases a;cases b;simp
instance:DecidableEq Ext:=fun a b=>decidable_of_iff (a.tag=b.tag∧a.body=b.body) Ext.eq_iff.symm
def ab (x:Ext):List V:=[.int .i64 x.tag, .row () (row fI x.body)]
abbrev cb (tag:Int) (body:List (List V)) (g1:Fl):SU:=⟨.agg,[⟨.int .i64 tag, .sc⟩,⟨.row () body,g1⟩]⟩
def Ext.Fits (x:Ext):Prop:=bu x.tag∧(x.body.length≤9223372036854775807∧∀ n∈x.body,bu n)
theorem sR {vs:List V} (h:iA [.int .i64, .row [.int .i64]] vs):∃ x:Ext,vs=ab x∧x.Fits:=by
 obtain ⟨_,_,rfl,h0,h⟩:=ay h
 obtain ⟨_,_,rfl,h1,h⟩:=ay h
 cases aQ h
 obtain ⟨tag,rfl,w0⟩:=gE h0
 obtain ⟨body,rfl,w1⟩:=gF h1
 exact ⟨⟨tag,body⟩,rfl,⟨w0,w1⟩⟩
def iR (x:Ext) (left:Int):Int:=sz1 x.body.length left
def Ext.Small (x:Ext):Prop:=x.body.length≤1048576
theorem eA (x:Ext):Sz (iR x) x.Small:=Sz.of1 _
def Ext.Mid (x:Ext):Prop:=x.body.length≤1073741824
theorem Ext.Small.mid {x:Ext} (h:x.Small):x.Mid:=by
 unfold Ext.Small at h;unfold Ext.Mid;exact Nat.le_trans h (by decide)
structure Hello where
 versions:List Int
 exts:List Ext
theorem Hello.eq_iff {a b:Hello}:a=b↔a.versions=b.versions∧a.exts=b.exts:=by cases a;cases b;simp
instance:DecidableEq Hello:=fun a b=>decidable_of_iff (a.versions=b.versions∧a.exts=b.exts) Hello.eq_iff.symm
def Hj (x:Hello):List V:=[.row () (row fI x.versions), .row () (row ab x.exts)]
abbrev aa (versions:List (List V)) (exts:List (List V)) (g1:Fl) (g2:Fl):SU:=⟨.agg,[⟨.row () versions,g1⟩,⟨.row () exts,g2⟩]⟩
def Hello.Fits (x:Hello):Prop:=(x.versions.length≤9223372036854775807∧∀ n∈x.versions,bu n)∧(x.exts.length≤9223372036854775807∧∀ y∈x.exts,y.Fits)
theorem bw {vs:List V} (h:iA [.row [.int .i64], .row [.int .i64, .row [.int .i64]]] vs):∃ x:Hello,vs=Hj x∧x.Fits:=by
 obtain ⟨_,_,rfl,h0,h⟩:=ay h
 obtain ⟨_,_,rfl,h1,h⟩:=ay h
 cases aQ h
 obtain ⟨versions,rfl,w0⟩:=gF h0
 obtain ⟨exts,rfl,w1⟩:=bC (fun _=>sR) h1
 exact ⟨⟨versions,exts⟩,rfl,⟨w0,w1⟩⟩
def cu (x:Hello) (left:Int):Int:=szL iR x.exts (sz1 x.versions.length left)
def Hello.Small (x:Hello):Prop:=(x.versions.length≤1048576)∧(x.exts.length≤1048576∧∀ y∈x.exts,y.Small)
theorem aB (x:Hello):Sz (cu x) x.Small:=Sz.comp (n:=sz1 x.versions.length) (n':=szL iR x.exts) (Sz.of1 _) (Sz.list eA _)
def Hello.Mid (x:Hello):Prop:=(x.versions.length≤1073741824)∧(x.exts.length≤1073741824∧∀ y∈x.exts,y.Mid)
theorem Hello.Small.mid {x:Hello} (h:x.Small):x.Mid:=by
 unfold Hello.Small at h;unfold Hello.Mid;exact ⟨Nat.le_trans h.1 (by decide),⟨Nat.le_trans h.2.1 (by decide),fun y hy=>(h.2.2 y hy).mid⟩⟩
structure Answer where
 version:Int
 exts:List Ext
theorem Answer.eq_iff {a b:Answer}:a=b↔a.version=b.version∧a.exts=b.exts:=by cases a;cases b;simp
instance:DecidableEq Answer:=fun a b=>decidable_of_iff (a.version=b.version∧a.exts=b.exts) Answer.eq_iff.symm
def Fh (x:Answer):List V:=[.int .i64 x.version, .row () (row ab x.exts)]
abbrev ae (version:Int) (exts:List (List V)) (g1:Fl):SU:=⟨.agg,[⟨.int .i64 version, .sc⟩,⟨.row () exts,g1⟩]⟩
def Answer.Fits (x:Answer):Prop:=bu x.version∧(x.exts.length≤9223372036854775807∧∀ y∈x.exts,y.Fits)
theorem jO {vs:List V} (h:iA [.int .i64, .row [.int .i64, .row [.int .i64]]] vs):∃ x:Answer,vs=Fh x∧x.Fits:=by
 obtain ⟨_,_,rfl,h0,h⟩:=ay h
 obtain ⟨_,_,rfl,h1,h⟩:=ay h
 cases aQ h
 obtain ⟨version,rfl,w0⟩:=gE h0
 obtain ⟨exts,rfl,w1⟩:=bC (fun _=>sR) h1
 exact ⟨⟨version,exts⟩,rfl,⟨w0,w1⟩⟩
def jJ (x:Answer) (left:Int):Int:=szL iR x.exts left
def Answer.Small (x:Answer):Prop:=(x.exts.length≤1048576∧∀ y∈x.exts,y.Small)
theorem eH (x:Answer):Sz (jJ x) x.Small:=Sz.list eA _
def Answer.Mid (x:Answer):Prop:=(x.exts.length≤1073741824∧∀ y∈x.exts,y.Mid)
theorem Answer.Small.mid {x:Answer} (h:x.Small):x.Mid:=by
 unfold Answer.Small at h;unfold Answer.Mid;exact ⟨Nat.le_trans h.1 (by decide),fun y hy=>(h.2 y hy).mid⟩
structure Edit where
 kind:Int
 n:Int
theorem Edit.eq_iff {a b:Edit}:a=b↔a.kind=b.kind∧a.n=b.n:=by cases a;cases b;simp
instance:DecidableEq Edit:=fun a b=>decidable_of_iff (a.kind=b.kind∧a.n=b.n) Edit.eq_iff.symm
def bH (x:Edit):List V:=[.int .i64 x.kind, .int .i64 x.n]
abbrev bp (kind:Int) (n:Int):SU:=⟨.agg,[⟨.int .i64 kind, .sc⟩,⟨.int .i64 n, .sc⟩]⟩
def Edit.Fits (x:Edit):Prop:=bu x.kind∧bu x.n
theorem qq {vs:List V} (h:iA [.int .i64, .int .i64] vs):∃ x:Edit,vs=bH x∧x.Fits:=by
 obtain ⟨_,_,rfl,h0,h⟩:=ay h
 obtain ⟨_,_,rfl,h1,h⟩:=ay h
 cases aQ h
 obtain ⟨kind,rfl,w0⟩:=gE h0
 obtain ⟨n,rfl,w1⟩:=gE h1
 exact ⟨⟨kind,n⟩,rfl,⟨w0,w1⟩⟩
def nz (x:Edit) (left:Int):Int:=sz1 0 left
def Edit.Small (x:Edit):Prop:=True
theorem vV (x:Edit):Sz (nz x) x.Small:=Sz.id0
def Edit.Mid (x:Edit):Prop:=True
theorem Edit.Small.mid {x:Edit} (h:x.Small):x.Mid:=by
 unfold Edit.Small at h;unfold Edit.Mid;exact trivial
structure Deal where
 ok:Bool
 version:Int
 tags:List Int
theorem Deal.eq_iff {a b:Deal}:a=b↔a.ok=b.ok∧a.version=b.version∧a.tags=b.tags:=by cases a;cases b;simp
instance:DecidableEq Deal:=fun a b=>decidable_of_iff (a.ok=b.ok∧a.version=b.version∧a.tags=b.tags) Deal.eq_iff.symm
def Ix (x:Deal):List V:=[.bool x.ok, .int .i64 x.version, .row () (row fI x.tags)]
abbrev al (ok:Bool) (version:Int) (tags:List (List V)) (g1:Fl):SU:=⟨.agg,[⟨.bool ok, .sc⟩,⟨.int .i64 version, .sc⟩,⟨.row () tags,g1⟩]⟩
def Deal.Fits (x:Deal):Prop:=bu x.version∧(x.tags.length≤9223372036854775807∧∀ n∈x.tags,bu n)
theorem uY {vs:List V} (h:iA [.bool, .int .i64, .row [.int .i64]] vs):∃ x:Deal,vs=Ix x∧x.Fits:=by
 obtain ⟨_,_,rfl,h0,h⟩:=ay h
 obtain ⟨_,_,rfl,h1,h⟩:=ay h
 obtain ⟨_,_,rfl,h2,h⟩:=ay h
 cases aQ h
 obtain ⟨ok,rfl⟩:=pk h0
 obtain ⟨version,rfl,w1⟩:=gE h1
 obtain ⟨tags,rfl,w2⟩:=gF h2
 exact ⟨⟨ok,version,tags⟩,rfl,⟨w1,w2⟩⟩
def nv (x:Deal) (left:Int):Int:=sz1 x.tags.length left
def Deal.Small (x:Deal):Prop:=x.tags.length≤1048576
theorem ib (x:Deal):Sz (nv x) x.Small:=Sz.of1 _
def Deal.Mid (x:Deal):Prop:=x.tags.length≤1073741824
theorem Deal.Small.mid {x:Deal} (h:x.Small):x.Mid:=by
 unfold Deal.Small at h;unfold Deal.Mid;exact Nat.le_trans h (by decide)
structure Box where
 limit:Int
 drops:List Int
 strips:List Int
 lists:Bool
theorem Box.eq_iff {a b:Box}:a=b↔a.limit=b.limit∧a.drops=b.drops∧a.strips=b.strips∧a.lists=b.lists:=by cases a;cases b;simp
instance:DecidableEq Box:=fun a b=>decidable_of_iff (a.limit=b.limit∧a.drops=b.drops∧a.strips=b.strips∧a.lists=b.lists) Box.eq_iff.symm
def ar (x:Box):List V:=[.int .i64 x.limit, .row () (row fI x.drops), .row () (row fI x.strips), .bool x.lists]
abbrev aG (limit:Int) (drops:List (List V)) (strips:List (List V)) (lists:Bool) (g1:Fl) (g2:Fl):SU:=⟨.agg,[⟨.int .i64 limit, .sc⟩,⟨.row () drops,g1⟩,⟨.row () strips,g2⟩,⟨.bool lists, .sc⟩]⟩
def Box.Fits (x:Box):Prop:=bu x.limit∧(x.drops.length≤9223372036854775807∧∀ n∈x.drops,bu n)∧(x.strips.length≤9223372036854775807∧∀ n∈x.strips,bu n)
theorem cZ {vs:List V} (h:iA [.int .i64, .row [.int .i64], .row [.int .i64], .bool] vs):∃ x:Box,vs=ar x∧x.Fits:=by
 obtain ⟨_,_,rfl,h0,h⟩:=ay h
 obtain ⟨_,_,rfl,h1,h⟩:=ay h
 obtain ⟨_,_,rfl,h2,h⟩:=ay h
 obtain ⟨_,_,rfl,h3,h⟩:=ay h
 cases aQ h
 obtain ⟨limit,rfl,w0⟩:=gE h0
 obtain ⟨drops,rfl,w1⟩:=gF h1
 obtain ⟨strips,rfl,w2⟩:=gF h2
 obtain ⟨lists,rfl⟩:=pk h3
 exact ⟨⟨limit,drops,strips,lists⟩,rfl,⟨w0,w1,w2⟩⟩
def en (x:Box) (left:Int):Int:=sz1 x.strips.length (sz1 x.drops.length left)
def Box.Small (x:Box):Prop:=(x.drops.length≤1048576)∧x.strips.length≤1048576
theorem a9 (x:Box):Sz (en x) x.Small:=Sz.comp (n:=sz1 x.drops.length) (n':=sz1 x.strips.length) (Sz.of1 _) (Sz.of1 _)
def Box.Mid (x:Box):Prop:=(x.drops.length≤1073741824)∧x.strips.length≤1073741824
theorem Box.Small.mid {x:Box} (h:x.Small):x.Mid:=by
 unfold Box.Small at h;unfold Box.Mid;exact ⟨Nat.le_trans h.1 (by decide),Nat.le_trans h.2 (by decide)⟩
structure Dialed where
 deal:Deal
 tries:Int
 up:List Int
theorem Dialed.eq_iff {a b:Dialed}:a=b↔a.deal=b.deal∧a.tries=b.tries∧a.up=b.up:=by cases a;cases b;simp
instance:DecidableEq Dialed:=fun a b=>decidable_of_iff (a.deal=b.deal∧a.tries=b.tries∧a.up=b.up) Dialed.eq_iff.symm
def Fi (x:Dialed):List V:=[.bool x.deal.ok, .int .i64 x.deal.version, .row () (row fI x.deal.tags), .int .i64 x.tries, .row () (row fI x.up)]
abbrev af (ok:Bool) (version:Int) (tags:List (List V)) (tries:Int) (up:List (List V)) (g1:Fl) (g2:Fl):SU:=⟨.agg,[⟨.bool ok, .sc⟩,⟨.int .i64 version, .sc⟩,⟨.row () tags,g1⟩,⟨.int .i64 tries, .sc⟩,⟨.row () up,g2⟩]⟩
def Dialed.Fits (x:Dialed):Prop:=x.deal.Fits∧bu x.tries∧(x.up.length≤9223372036854775807∧∀ n∈x.up,bu n)
theorem rr {vs:List V} (h:iA [.bool, .int .i64, .row [.int .i64], .int .i64, .row [.int .i64]] vs):∃ x:Dialed,vs=Fi x∧x.Fits:=by
 obtain ⟨_,_,rfl,h0,h⟩:=ay h
 obtain ⟨_,_,rfl,h1,h⟩:=ay h
 obtain ⟨_,_,rfl,h2,h⟩:=ay h
 obtain ⟨_,_,rfl,h3,h⟩:=ay h
 obtain ⟨_,_,rfl,h4,h⟩:=ay h
 cases aQ h
 obtain ⟨ok,rfl⟩:=pk h0
 obtain ⟨version,rfl,w1⟩:=gE h1
 obtain ⟨tags,rfl,w2⟩:=gF h2
 obtain ⟨tries,rfl,w3⟩:=gE h3
 obtain ⟨up,rfl,w4⟩:=gF h4
 exact ⟨⟨⟨ok,version,tags⟩,tries,up⟩,rfl,⟨⟨w1,w2⟩,w3,w4⟩⟩
def ny (x:Dialed) (left:Int):Int:=sz1 x.up.length (nv x.deal left)
def Dialed.Small (x:Dialed):Prop:=(x.deal.Small)∧x.up.length≤1048576
theorem kg (x:Dialed):Sz (ny x) x.Small:=Sz.comp (n:=nv x.deal) (n':=sz1 x.up.length) (ib _) (Sz.of1 _)
def Dialed.Mid (x:Dialed):Prop:=(x.deal.Mid)∧x.up.length≤1073741824
theorem Dialed.Small.mid {x:Dialed} (h:x.Small):x.Mid:=by
 unfold Dialed.Small at h;unfold Dialed.Mid;exact ⟨h.1.mid,Nat.le_trans h.2 (by decide)⟩
structure Known where
 cls:Int
 lost:List Int
 tick:Int
theorem Known.eq_iff {a b:Known}:a=b↔a.cls=b.cls∧a.lost=b.lost∧a.tick=b.tick:=by cases a;cases b;simp
instance:DecidableEq Known:=fun a b=>decidable_of_iff (a.cls=b.cls∧a.lost=b.lost∧a.tick=b.tick) Known.eq_iff.symm
def aq (x:Known):List V:=[.int .i64 x.cls, .row () (row fI x.lost), .int .i64 x.tick]
abbrev aH (cls:Int) (lost:List (List V)) (tick:Int) (g1:Fl):SU:=⟨.agg,[⟨.int .i64 cls, .sc⟩,⟨.row () lost,g1⟩,⟨.int .i64 tick, .sc⟩]⟩
def Known.Fits (x:Known):Prop:=bu x.cls∧(x.lost.length≤9223372036854775807∧∀ n∈x.lost,bu n)∧bu x.tick
theorem js {vs:List V} (h:iA [.int .i64, .row [.int .i64], .int .i64] vs):∃ x:Known,vs=aq x∧x.Fits:=by
 obtain ⟨_,_,rfl,h0,h⟩:=ay h
 obtain ⟨_,_,rfl,h1,h⟩:=ay h
 obtain ⟨_,_,rfl,h2,h⟩:=ay h
 cases aQ h
 obtain ⟨cls,rfl,w0⟩:=gE h0
 obtain ⟨lost,rfl,w1⟩:=gF h1
 obtain ⟨tick,rfl,w2⟩:=gE h2
 exact ⟨⟨cls,lost,tick⟩,rfl,⟨w0,w1,w2⟩⟩
def eN (x:Known) (left:Int):Int:=sz1 x.lost.length left
def Known.Small (x:Known):Prop:=x.lost.length≤1048576
theorem cL (x:Known):Sz (eN x) x.Small:=Sz.of1 _
def Known.Mid (x:Known):Prop:=x.lost.length≤1073741824
theorem Known.Small.mid {x:Known} (h:x.Small):x.Mid:=by
 unfold Known.Small at h;unfold Known.Mid;exact Nat.le_trans h (by decide)
theorem H3 (l:List Edit) {left:Int} (h:left≤1048576):szL nz l left=sz1 l.length left:=by
 have key:∀ (l:List Edit) (v:Int), -1≤v→l.foldl (fun a x=>nz x a) v=v:=by
  intro l;induction l with
  | nil=>intro v _;rfl
  | cons x l ih=>
   intro v hv;rw[List.foldl_cons];have:nz x v=v:=by unfold nz sz1;split<;>omega
   rw[this,ih v hv]
 exact key l _ ((Sz.of1 _).lo left h)
end Go.Vm
end
section
namespace Go.Vm
section
variable {E:Env} {cx:Cx} {S:StA} {C:Nat→Nat→Prop} {a:Act} {w:World} {ops:Array Oper}
theorem DV (hf:Fits E cx) (h:Inv E S [] C a w) {i d:Nat} {o:Oper} {b:Bool} (hi:ops[i]?=some o) (hg:o.guard=none) (hd:o.dst=some d) (hx:(execOp a.eval o).run E.P w= .ok (.value (.bool b)) w)
  {u:Unit} {st1:St} (hp:(Ay cx.nt d (hJ (.bool b))).run (erS S)=some (u,st1)) {K:Act→World→Prop} {Q:Exit→Act→World→Prop}
  (hK:∀ S1 C1 a1 w1,erS S1=st1→Inv E S1 [] C1 a1 w1→Frame E w w1→K a1 w1):wpOp E.P ops Q i K a w:=by
 unfold wpOp;rw[hi];have hw:Region.wanted o (yielded ops a.tmps)=true:=by simp[Region.wanted,hg]
 simp only[hw];obtain ⟨v,w',S1,C1,sA,e1,e2,e3,e4,e5⟩:=cB (X:=[]) h (r:= .bool b) rfl rfl hx
 rw[hf.nt,←e3,←e2] at hp;obtain ⟨S2,q1,q2⟩:=t7 e4 hp
 refine .inl (nC e1 (hK S2 C1 _ w' q1 ?_ e5))
 rw[hd];exact q2
end
def O0:dH:=fun _ _=>none
theorem CV (P:Program) (sid:Nat→Nat) (g:Nat):dG P sid O0 g:=by
 intro E w args ret _ _ _ h;simp[O0] at h
def clA:Cd:= .region false [] [] [⟨some 2, .assign (.c false [.row () []]),none,[]⟩]
def clB:Cd:= .region false [5,6,7] [5,6,7] [⟨some 5, .bslice [.int .i64 0] 0 [],none,[]⟩,⟨some 6, .move (.t 0),none,[]⟩,⟨some 7, .append 1 (.t 5) (.t 6),none,[]⟩,⟨some 2, .assign (.t 7),none,[]⟩]
theorem Gc (es:List (List V)):Wp O0 md 8 clA (S 18 [(0,R es .sh)]) fun ex st=>ex= .normal∧st=S 18 [(0,R es .sh),(2,R [] .nl)]:=by
 obtain ⟨n,ex,st,h,m',rfl,hq⟩:=dC (O:=O0) (md:=md) (nt:=8) (L:=18) clA [(0,R es .sh)] (Q:=fun ex m=>ex= .normal∧m=[(0,R es .sh),(2,R [] .nl)]) (by unfold clA;cbv)
 exact ⟨n,ex,_,h,hq.1,by rw[hq.2]⟩
theorem Ge (es:List (List V)) (f3:SU):Wp O0 md 8 (.seq clA .ret) (S 18 [(0,R es .sh),(2,R [] .nl),(3,f3)]) fun ex st=>ex= .ret∧cC ⟨0,1,8,[(2,none)],[], .skip⟩ [R es .sh] st=some ⟨[R [] .nl],[],none⟩:=by
 obtain ⟨n,ex,st,h,m',rfl,hq⟩:=dC (O:=O0) (md:=md) (nt:=8) (L:=18) (.seq clA .ret) [(0,R es .sh),(2,R [] .nl),(3,f3)] (Q:=fun ex m=>ex= .ret∧cC ⟨0,1,8,[(2,none)],[], .skip⟩ [R es .sh] (S 18 m)=some ⟨[R [] .nl],[],none⟩) (by unfold clA;cbv)
 exact ⟨n,ex,_,h,hq⟩
theorem Gd (es:List (List V)) (f3:SU) (h1:cn es=true) (h2:eM 1 es=true) (h3:es.length≤lim):Wp O0 md 8 (.seq clB .ret) (S 18 [(0,R es .sh),(2,R [] .nl),(3,f3)]) fun ex st=>ex= .ret∧cC ⟨0,1,8,[(2,none)],[], .skip⟩ [R es .sh] st=some ⟨[R es (.ow false)],[],none⟩:=by
 have hw:Sym (fun P O=>wpc P O md 8 18 (.seq clB .ret) [(0,R es .sh),(2,R [] .nl),(3,f3)] fun ex m=>ex= .ret∧cC ⟨0,1,8,[(2,none)],[], .skip⟩ [R es .sh] (S 18 m)=some ⟨[R es (.ow false)],[],none⟩) O0:=by
  unfold clB;intro add sub mul arith eq ne lt le gt ge neg conv mn mx not beq len at' ln bd cut app allS isNil mks set o hP F ho;have q1:allS es=true:=by rw[F.allS];exact h1
  have q2:app 1 [] es=some es:=by
   rw[F.app];unfold lX;rw[if_pos ⟨rfl,h2,by simpa using h3⟩];rfl
  cbv;rw[q1];cbv;rw[q2];cbv
 obtain ⟨n,ex,st,h,m',rfl,hq⟩:=dC (O:=O0) (md:=md) (nt:=8) (L:=18) (.seq clB .ret) [(0,R es .sh),(2,R [] .nl),(3,f3)] (Q:=fun ex m=>ex= .ret∧cC ⟨0,1,8,[(2,none)],[], .skip⟩ [R es .sh] (S 18 m)=some ⟨[R es (.ow false)],[],none⟩) hw.at
 exact ⟨n,ex,_,h,hq⟩
theorem Gl (es:List (List V)):dm O0 md 8 ⟨some 3, .move (.t 0),none,[]⟩ (S 18 [(0,R es .sh),(2,R [] .nl)])=some (S 18 [(0,R es .sh),(2,R [] .nl),(3,R es .sh)]):=rfl
theorem Gj (es:List (List V)) (b:Bool):(Ay 8 4 (hJ (.bool b))).run (S 18 [(0,R es .sh),(2,R [] .nl),(3,R es .sh)])=some ((),S 18 [(0,R es .sh),(2,R [] .nl),(3,R es .sh),(4,B b)]):=rfl
theorem Gk (es:List (List V)) (b:Bool):uT (.t 4) (S 18 [(0,R es .sh),(2,R [] .nl),(3,R es .sh),(4,B b)])=some (b,S 18 [(0,R es .sh),(2,R [] .nl),(3,R es .sh)]):=rfl
theorem H2 (es:List (List V)):(one (.t 3)).run (S 18 [(0,R es .sh),(2,R [] .nl),(3,R es .sh)])=some (⟨.row () es, .sh⟩,S 18 [(0,R es .sh),(2,R [] .nl),(3,R es .sh)]):=rfl
theorem F5 {sid:Nat→Nat} {w:World} {R:Nat→Nat→Prop} {t:Tg} {es:List (List A)} (h:Rd sid w R (.row t es)) (ha:t.a=none) (hk:∀ e∈es,e.length=1):es=[]:=by
 cases h with
 | row _ _ _ _ h _=>
  cases es with
  | nil=>rfl
  | cons x xs=>
   have hx:=hk x (by simp)
   match x,hx with
   | [c],_=>
    obtain ⟨b,o,hb,_⟩:=h 0 c (by simp)
    rw[ha] at hb;cases hb
theorem Co {E:Env} {w w':World} {args:List SA} {v:Value} {rs:List SA} {outs:List A} {C:Nat→Nat→Prop} (h:Leave E w w' args ⟨[R [] .nl],[],none⟩ v rs outs C):∃ rs',Leave E w w' args ⟨[R [] (.ow false)],[],none⟩ v rs' outs C:=by
 have her:=h.er;have hc:=h.cells;have hv:=h.val;obtain ⟨s,rfl,hs⟩:=List.map_eq_singleton_iff.1 her
 obtain ⟨k,cs⟩:=s
 simp only[Sl.er,Sl.mk.injEq] at hs;obtain ⟨h1,h2⟩:=hs
 obtain ⟨c,rfl,hc2⟩:=List.map_eq_singleton_iff.1 h2
 obtain ⟨cv,cf⟩:=c
 simp only[Cell.er,Cell.mk.injEq] at hc2;obtain ⟨_,rfl⟩:=hc2
 cases k<;>simp[Kd.er] at h1
 have h3:=hc _ (List.mem_cons_self ..) _ (List.mem_cons_self ..);obtain ⟨j,hj⟩:=h3
 simp only at hj;subst hj;refine ⟨[⟨.val,[⟨.row ⟨none,0,j⟩ [], .ow false⟩]⟩],?_,?_,?_,?_,?_,?_,?_,?_,h.clt,h.cbase,h.frame,h.outer,h.outok,h.left⟩
 ·rfl
 ·rw[hv];rfl
 ·intro s hs;simp at hs;subst hs;exact .inl ⟨rfl,_,rfl⟩
 ·intro s hs x hx;simp at hs;subst hs;simp at hx;subst hx;exact .inr (.inr (.inl ⟨_,rfl⟩))
 ·intro s hs x hx;simp at hs;subst hs;simp at hx;subst hx;exact ⟨rfl,Shp.nil j,by simp[VA.blks,gh]⟩
 ·intro s hs t ht;simp at hs;subst hs;cases ht
 ·intro b;have:=h.cnt b
  simpa [Sl.own,Sl.boxOwn,Cell.own,aN,VA.blks,gh] using this
 ·intro b hb;simp[Sl.own,Sl.boxOwn,Cell.own,aN,VA.blks,gh] at hb
def clF:FnIr:=⟨0,1,8,[(2,none)],[], .skip⟩
theorem zQ {E:Env} {cx:Cx} {SS:StA} {CC:Nat→Nat→Prop} {a:Act} {w:World} (hf:Fits E cx) (hnt:cx.nt=8) (hO:∀ g,dG E.P E.sid O0 g) (hi:Inv E SS [] CC a w) (hb:E.base≤w.heap.size) {es:List (List V)} (hst:erS SS=S 18 [(0,R es .sh)])
  (h1:cn es=true) (h2:eM 1 es=true) (h3:es.length≤lim)
  {A N D:Code} {id:Nat} {o0 o1:Oper} {t t2 e:TypeId} {all:List Nat}
  (hA:cX cx all A=clA) (hN:cX cx all N=clA) (hB:cX cx all D=clB)
  (h00:cOp cx (fun _=>false) o0=some (.move (.t 0))) (h01:o0.dst=some 3) (h02:o0.guard=none)
  (h10:o1.op= .binOp .eql t (.tmp 3) (.const (.slice none 0 0)) t2) (h11:o1.dst=some 4) (h12:o1.guard=none)
  (ht:E.P.underlying t=some (.slice e)) {Q:Exit→Act→World→Prop}
  (hQ:∀ S1 C1 a1 w1,(cC clF [R es .sh] (erS S1)=some ⟨[R es (.ow false)],[],none⟩∨(es=[]∧cC clF [R es .sh] (erS S1)=some ⟨[R [] .nl],[],none⟩))→Inv E S1 [] C1 a1 w1→Frame E w w1→Q .ret a1 w1):
  (Code.seq A (.seq (.seq (.region id #[o0,o1] false) (.cond (.tmp 4) (.seq N .ret) .skip)) (.seq D .ret))).wp E.P Q a w:=by
 refine wp_seq ?_
 obtain ⟨n1,ex1,st1,hc1,rfl,rfl⟩:=Gc es
 refine nH (all:=all) (n:=n1) (orac:=O0) (modes:=md) hf hO A hi hb (by rw[hst,hnt,hA];exact hc1) (fun S1 C1 a1 w1 e1 i1 f1=>?_)
 show Code.wp E.P _ Q a1 w1;refine wp_seq ?_
 refine wp_seq ?_
 refine wp_region ?_
 show wpOps E.P #[o0,o1] _ [0,1] a1 w1;rw[wpOps_cons];have hb1:E.base≤w1.heap.size:=Nat.le_trans hb f1.size;refine q9 (orac:=O0) (modes:=md) (inRow:=fun _=>false) (io:=⟨some 3, .move (.t 0),none,[]⟩) (o:=o0) (st1:=S 18 [(0,R es .sh),(2,R [] .nl),(3,R es .sh)]) hf i1 hb1 hO rfl ⟨h01.symm,by rw[h00];rfl, .inl ⟨h02,rfl⟩⟩ (by rw[e1,hnt];exact Gl es) (fun S2 C2 a2 w2 e2 i2 f2=>?_)
 rw[wpOps_cons];obtain ⟨_,z,hz,_,hzk,hze,_⟩:=fY (ox:= .tmp 3) (x:= .t 3) hf i2 (by simp[bj,hnt]) (by rw[e2];exact H2 es)
 obtain ⟨zv,zf⟩:=z
 simp only[Cell.er,Cell.mk.injEq] at hz;obtain ⟨hz1,rfl⟩:=hz
 obtain ⟨tg,es0,rfl,hes⟩:=kw hz1
 have hrd:Rd E.sid w2 E.old (.row tg es0):=hzk;have hx:(execOp a2.eval o1).run E.P w2= .ok (.value (.bool tg.a.isNone)) w2:=by
  have h5:a2.eval (.tmp 3)= .slice tg.a es0.length tg.cap:=hze;have h6:a2.eval (.const (.slice none 0 0))= .slice none 0 0:=rfl;have h7:=run_eql_slice_nil (P:=E.P) w2 t e tg.a es0.length tg.cap ht;unfold execOp;rw[h10];simp only[h5,h6];simp[eqGuard,h7]
 refine DV (o:=o1) (d:=4) (b:=tg.a.isNone) hf i2 rfl h12 h11 hx (u:=()) (st1:=S 18 [(0,R es .sh),(2,R [] .nl),(3,R es .sh),(4,B tg.a.isNone)]) (by rw[e2,hnt];exact Gj es _) (fun S3 C3 a3 w3 e3 i3 f3=>?_)
 show Code.wp E.P _ _ a3 w3;have hf13:=(f1.trans f2).trans f3;have hb3:E.base≤w3.heap.size:=Nat.le_trans hb hf13.size;obtain ⟨S4,e4,i4,hcv⟩:=qg (c:= .tmp 4) (x:= .t 4) hf i3 (by simp[bj,hnt]) (by rw[e3];exact Gk es _)
 cases hn:tg.a.isNone with
 | true=>
  rw[hn] at hcv;refine wp_cond_true hcv ?_
  have hes0:es=[]:=by
   have:=F5 hrd (by simpa using hn) ?_
   ·rw[←hes,this];rfl
   ·intro x hx;have:=List.all_eq_true.1 h2 (x.map VA.er) (by rw[←hes,ce];exact List.mem_map_of_mem hx)
    simpa using this
  subst hes0;obtain ⟨n2,ex2,st2,hc2,rfl,hq2⟩:=Ge [] (R [] .sh)
  refine nH (all:=all) (n:=n2) (orac:=O0) (modes:=md) hf hO (.seq N .ret) i4 hb3 (by rw[e4,hnt];show code _ _ 8 n2 (.seq (cX cx all N) .ret) _=_;rw[hN];exact hc2) (fun S5 C5 a5 w5 e5 i5 f5=>?_)
  exact hQ S5 C5 a5 w5 (.inr ⟨rfl,by rw[e5];exact hq2⟩) i5 (hf13.trans f5)
 | false=>
  rw[hn] at hcv;refine wp_cond_false hcv ?_
  refine Go.wp_skip ?_
  show Code.wp E.P _ Q a3 w3;obtain ⟨n2,ex2,st2,hc2,rfl,hq2⟩:=Gd es (R es .sh) h1 h2 h3
  refine nH (all:=all) (n:=n2) (orac:=O0) (modes:=md) hf hO (.seq D .ret) i4 hb3 (by rw[e4,hnt];show code _ _ 8 n2 (.seq (cX cx all D) .ret) _=_;rw[hB];exact hc2) (fun S5 C5 a5 w5 e5 i5 f5=>?_)
  exact hQ S5 C5 a5 w5 (.inl (by rw[e5];exact hq2)) i5 (hf13.trans f5)
theorem y9 {args:List SU} {ret:Ret} (h:dy 1 args=some ret):∃ es f,args=[⟨.val,[⟨.row () es,f⟩]⟩]∧cn es=true∧eM 1 es=true∧es.length≤lim∧Fm f=true∧ret=⟨[R es (.ow false)],[],none⟩:=by
 match args,h with
 | [⟨.val,[⟨.row _ es,f⟩]⟩],h=>
  simp only[dy] at h;split at h
  ·rename_i hc;simp only[Option.some.injEq] at h;simp only[Bool.and_eq_true,decide_eq_true_eq,List.all_eq_true] at hc;obtain ⟨⟨hall,hlen⟩,hf0⟩:=hc
   refine ⟨es,f,rfl,?_,?_,hlen,hf0,h.symm⟩
   ·unfold cn;simp only[List.all_eq_true];exact fun x hx=>(hall x hx).1
   ·unfold eM;simp only[List.all_eq_true,decide_eq_true_eq];exact fun x hx=>(hall x hx).2
  ·cases h
theorem uD {P:Program} {sid:Nat→Nat} {canon:Nat→Option Nat} {g:Nat} {fn:Func} {A N B:Code} {id:Nat} {o0 o1:Oper} {t t2 e:TypeId} {all:List Nat}
  (hids:∀ f g,canon f=some g→sid g=f) (hm:P.follows .mixedOrders=true) (hfn:P.funcs[sid g]?=some fn) (hname:(fn.name== "runtime.NumGoroutine")=false)
  (hbody:fn.body=some (.seq A (.seq (.seq (.region id #[o0,o1] false) (.cond (.tmp 4) (.seq N .ret) .skip)) (.seq B .ret))))
  (hnt:fn.ntmps=8) (hres:oB P fn.results.toList=[(2,none)])
  (hA:cX ⟨P,canon,8⟩ all A=clA) (hN:cX ⟨P,canon,8⟩ all N=clA) (hB:cX ⟨P,canon,8⟩ all B=clB)
  (h00:cOp ⟨P,canon,8⟩ (fun _=>false) o0=some (.move (.t 0))) (h01:o0.dst=some 3) (h02:o0.guard=none)
  (h10:o1.op= .binOp .eql t (.tmp 3) (.const (.slice none 0 0)) t2) (h11:o1.dst=some 4) (h12:o1.guard=none)
  (ht:P.underlying t=some (.slice e)):jK P sid g 1:=by
 intro E w args ret hP hs he hr
 replace hr:dy 1 (args.map Sl.er)=some ret:=hr
 obtain ⟨es,f,hargs,h1,h2,h3,hf0,rfl⟩:=y9 hr
 obtain ⟨s,rfl,hs1⟩:=List.map_eq_singleton_iff.1 hargs
 obtain ⟨k,cs⟩:=s
 simp only[Sl.er,Sl.mk.injEq] at hs1;obtain ⟨hk,hcs⟩:=hs1
 obtain ⟨c,rfl,hc⟩:=List.map_eq_singleton_iff.1 hcs
 obtain ⟨cv,cf⟩:=c
 simp only[Cell.er,Cell.mk.injEq] at hc;obtain ⟨hcv,rfl⟩:=hc
 cases k<;>simp[Kd.er] at hk
 obtain ⟨tg,es0,rfl,hes⟩:=kw hcv
 have hsh:aj [] [(⟨.val,[⟨.row tg es0,cf⟩]⟩:SA)]=[⟨.val,[⟨.row tg es0, .sh⟩]⟩]:=by
  cases cf<;>simp[Fm] at hf0<;>rfl
 have he':=he.shut [];rw[hsh] at he';refine ⟨vL hfn hname hbody _ _,?_⟩
 have hval:[(⟨.val,[⟨.row tg es0,cf⟩]⟩:SA)].map (bm sid)=[(⟨.val,[⟨.row tg es0, .sh⟩]⟩:SA)].map (bm sid):=rfl;rw[hval]
 suffices hmain:Calls P (sid g) ([(⟨.val,[⟨.row tg es0, .sh⟩]⟩:SA)].map (bm sid)).toArray w fun e w'=>∃ v rs outs C,e= .returned v∧Leave E w w' [(⟨.val,[⟨.row tg es0, .sh⟩]⟩:SA)] ⟨[R es (.ow false)],[],none⟩ v rs outs C by
  refine Calls.mono hmain ?_
  rintro e w' ⟨v,rs,outs,C,h1,h2⟩
  refine ⟨v,rs,outs,C,h1,tr (ms:=[]) ?_⟩
  rw[hsh];exact h2
 refine calls_of_wp hfn hbody ?_
 have hi:=u9 he' (n:=8) (np:=1) rfl (by decide)
 have hst:erS (gm 8 1 [(⟨.val,[⟨.row tg es0, .sh⟩]⟩:SA)])=S 18 [(0,R es .sh)]:=by
  have:=vR ⟨0,1,8,[],[], .skip⟩ [(⟨.val,[⟨.row tg es0, .sh⟩]⟩:SA)]
  rw[this];show jI _ [(⟨.val,[⟨.row () (erR es0), .sh⟩]⟩:SU)]=_;rw[hes];rfl
 have hbase:(bt E 8 [(⟨.val,[⟨.row tg es0, .sh⟩]⟩:SA)]).base≤w.heap.size:=by show E.base≤_;rw[he.base];exact Nat.le_refl _
 have hf:Fits (bt E 8 [(⟨.val,[⟨.row tg es0, .sh⟩]⟩:SA)]) ⟨P,canon,8⟩:=⟨by show P=E.P;exact hP.symm,rfl,fun f g hg=>by show E.sid g=f;rw[hs];exact hids f g hg,by show E.P.follows _=_;rw[hP];exact hm⟩
 have hO:∀ g,dG (bt E 8 [(⟨.val,[⟨.row tg es0, .sh⟩]⟩:SA)]).P (bt E 8 [(⟨.val,[⟨.row tg es0, .sh⟩]⟩:SA)]).sid O0 g:=fun g=>CV _ _ g
 have hPE:(bt E 8 [(⟨.val,[⟨.row tg es0, .sh⟩]⟩:SA)]).P=P:=hP;have hsE:(bt E 8 [(⟨.val,[⟨.row tg es0, .sh⟩]⟩:SA)]).sid=sid:=hs;rw[hs] at hi;have:=zQ (E:=bt E 8 [(⟨.val,[⟨.row tg es0, .sh⟩]⟩:SA)]) (cx:=⟨P,canon,8⟩) (t:=t) (t2:=t2) (e:=e) (all:=all) (o0:=o0) (o1:=o1) (id:=id) (Q:=bodyPost P fn fun e w'=>∃ v rs outs C,e= .returned v∧Leave E w w' [(⟨.val,[⟨.row tg es0, .sh⟩]⟩:SA)] ⟨[R es (.ow false)],[],none⟩ v rs outs C) hf rfl hO hi hbase hst h1 h2 h3 hA hN hB h00 h01 h02 h10 h11 h12 (by rw[hPE];exact ht) (fun S1 C1 a1 w1 q i1 f1=>?_)
 ·rw[hPE] at this
  simpa [hnt] using this
 ·have hargsE:[(⟨.val,[⟨.row tg es0, .sh⟩]⟩:SA)].map Sl.er=[R es .sh]:=by
   show [(⟨.val,[⟨.row () (erR es0), .sh⟩]⟩:SU)]=_;rw[hes]
  rcases q with q | ⟨rfl,q⟩
  ·obtain ⟨v,rs,outs,C',r1,r2⟩:=mM (P:=P) (fn:=fn) (ir:=clF) he' i1 f1 hres.symm rfl (by rw[hargsE];exact q)
   exact ⟨i1.nodef,v,r1,v,rs,outs,C',rfl,r2⟩
  ·obtain ⟨v,rs,outs,C',r1,r2⟩:=mM (P:=P) (fn:=fn) (ir:=clF) he' i1 f1 hres.symm rfl (by rw[hargsE];exact q)
   obtain ⟨rs',r3⟩:=Co r2
   exact ⟨i1.nodef,v,r1,v,rs',outs,C',rfl,r3⟩
def seL:Code→Code
 | .seq x _=>x
 | _=> .skip
def seR:Code→Code
 | .seq _ y=>y
 | _=> .skip
def seC:Code→Code
 | .cond _ x _=>x
 | _=> .skip
def seI:Code→Nat
 | .region id _ _=>id
 | _=>0
def seO (i:Nat):Code→Oper
 | .region _ ops _=>ops.getD i default
 | _=>default
def seT (o:Oper):TypeId×TypeId:=match o.op with
 | .binOp _ t _ _ t2=>(t,t2)
 | _=>(0,0)
def seE:Option TypeDesc→TypeId
 | some (.slice e)=>e
 | _=>0
def mE (fn:Func):Code:=fn.body.getD .skip
def clM (fn:Func):Code:=seL (seL (seR (mE fn)))
def Dd (fn:Func):List Nat:=dq (mE fn)++iv fn.results.toList
theorem G9 {P:Program} {sid:Nat→Nat} {L:List (Nat×Nat)} {g:Nat} {ir:FnIr} {fn:Func}
  (hids:∀ p∈L,sid p.2=p.1) (hm:P.follows .mixedOrders=true) (hsp:ir.sp=1) (hfn:P.funcs[sid g]?=some fn) (hname:(fn.name== "runtime.NumGoroutine")=false)
  (hbody:fn.body=some (.seq (seL (mE fn)) (.seq (.seq (.region (seI (clM fn)) #[seO 0 (clM fn),seO 1 (clM fn)] false) (.cond (.tmp 4) (.seq (seL (seC (seR (seL (seR (mE fn)))))) .ret) .skip)) (.seq (seL (seR (seR (mE fn)))) .ret))))
  (hnt:fn.ntmps=8) (hres:oB P fn.results.toList=[(2,none)])
  (hA:cX ⟨P,fun f=>L.lookup f,8⟩ (Dd fn) (seL (mE fn))=clA) (hN:cX ⟨P,fun f=>L.lookup f,8⟩ (Dd fn) (seL (seC (seR (seL (seR (mE fn))))))=clA) (hB:cX ⟨P,fun f=>L.lookup f,8⟩ (Dd fn) (seL (seR (seR (mE fn))))=clB)
  (h00:cOp ⟨P,fun f=>L.lookup f,8⟩ (fun _=>false) (seO 0 (clM fn))=some (.move (.t 0))) (h01:(seO 0 (clM fn)).dst=some 3) (h02:(seO 0 (clM fn)).guard=none)
  (h10:(seO 1 (clM fn)).op= .binOp .eql (seT (seO 1 (clM fn))).1 (.tmp 3) (.const (.slice none 0 0)) (seT (seO 1 (clM fn))).2) (h11:(seO 1 (clM fn)).dst=some 4) (h12:(seO 1 (clM fn)).guard=none)
  (ht:P.underlying (seT (seO 1 (clM fn))).1=some (.slice (seE (P.underlying (seT (seO 1 (clM fn))).1)))):E7 P sid (fun f=>L.lookup f) (g,ir):=by
 refine .inr ⟨by show ir.sp≠0;rw[hsp];decide,?_⟩
 show jK P sid g ir.sp;rw[hsp];exact uD (canon:=fun f=>L.lookup f) (fun f g hf=>hids (f,g) (lK hf)) hm hfn hname hbody hnt hres hA hN hB h00 h01 h02 h10 h11 h12 ht
end Go.Vm
end
section
namespace Go.Vm
def zM (d s:Nat):Io:=⟨some d, .move (.t s),none,[]⟩
def zA (d s:Nat):Io:=⟨some d, .assign (.t s),none,[]⟩
def zK (d:Nat) (x:Opd):Io:=⟨some d, .assign x,none,[]⟩
def zL (d s:Nat):Io:=⟨some d, .load false 1 (.t s),none,[]⟩
def zF (d o s:Nat):Io:=⟨some d, .faddr o (.t s),none,[]⟩
def zO (d:Nat) (x:Ir):Io:=⟨some d,x,none,[]⟩
def zG (d:Nat) (x:Ir) (g:Nat) (b:Bool):Io:=⟨some d,x,some (g,b),[]⟩
def zN (x:Ir):Io:=⟨none,x,none,[]⟩
def zI (n:Int):Opd:= .c false [.int .i64 n]
def zB (b:Bool):Opd:= .c false [.bool b]
def zE:Opd:= .c false [.row () []]
def zT:List Nat→List Opd
 | []=>[]
 | i::is=> .t i::zT is
def zC (d g:Nat) (l:List Nat):Io:=⟨some d, .call g (zT l),none,[]⟩
def zR (a b:List Nat) (l:List Io):Cd:= .region false a b l
def zr (a:Nat):Nat→List Nat
 | 0=>[]
 | n+1=>a::zr (a+1) n
def zq (a n:Nat) (l:List Nat):List Nat:=zr a n++l
def zv (o:Io) (l:List Nat):Io:=⟨o.dst,o.op,o.guard,l⟩
def zs (a b:List Nat) (l:List Io) (c:Cd):Cd:= .seq (.region false a b l) c
def zc (i:Nat) (a b:Cd):Cd:= .cond (.t i) a b
def zS (d n s:Nat):Io:=⟨some d, .load true n (.t s),none,[]⟩
def zb (d:Nat) (op:BinOp) (x y:Nat):Io:=⟨some d, .bin op (.t x) (.t y),none,[]⟩
def zn (d s:Nat):Io:=⟨some d, .un .not (.t s),none,[]⟩
def zl (d s:Nat):Io:=⟨some d, .len false (.t s),none,[]⟩
def zp (d k x i:Nat):Io:=⟨some d, .iaddr k (.t x) (.t i),none,[]⟩
theorem nm {α:Sort _} (x:α):∃ y,y=x:=⟨_,rfl⟩
end Go.Vm
end
