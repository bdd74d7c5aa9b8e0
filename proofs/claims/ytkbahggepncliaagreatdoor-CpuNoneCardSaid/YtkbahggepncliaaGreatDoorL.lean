/- Part of the proof. -/
import Derived.KernelRfl
import Derived.Test.YtkbahggepncliaaGreatDoorO
set_option linter.unusedVariables false
set_option linter.unusedSimpArgs false
set_option linter.unusedSectionVars false
set_option linter.unnecessarySimpa false
namespace Go.Proofs.YtkbahggepncliaaGreatDoor
open Go Go.Sk
set_option maxRecDepth 100000
theorem f9_ok : f9 = some true:=by decide +kernel
end Go.Proofs.YtkbahggepncliaaGreatDoor
set_option maxRecDepth 10000
namespace Go.Proofs.YtkbahggepncliaaGreatDoor
open Go Go.Sk
def inM {κ : Type} [DecidableEq κ] (m : List (κ × Bool)) (x : κ) : Bool:=Option.getD (mpGet m x) false
def spot (os : List Obj) (o from_ many : Int) : Bool:=match idx os o with
  | some x => decide (0 ≤ from_) && decide (from_ ≤ IntKind.i64.wrap (x.size - many))
  | none => false
def fits (o : Obj) (v : Int) : Bool:=bif o.ptr then decide (v = 0) || o.set_.any (fun n => f129 n v) else decide (v ≥ o.lo) && decide (v ≤ o.hi)
def aim (os : List Obj) (x : Int) : Bool:=match idx os x with
  | some y => decide (y.size = 1) && !y.ptr
  | none => false
def setOk (os : List Obj) : Int → List Int → Bool
  | _,[] => true
  | last,x :: r => decide (last < x) && aim os x && setOk os x r
def objOk (os : List Obj) (o : Obj) : Bool :=
  !((decide (o.size < 1) || decide (o.size > 16384)) || decide (o.lo > o.hi)) && bif !o.ptr then decide ((o.set_.length : Int) = 0) else setOk os (-1) o.set_ && (decide (o.lo = 0) && decide (o.hi = 0))
def initOk (os : List Obj) (x : Init) : Bool:=spot os x.o x.slot 1 && (match idx os x.o with | some y => fits y x.v | none => false)
def initsOk (os : List Obj) : List ((Int × Int) × Bool) → List Init → Bool
  | _,[] => true
  | m,x :: r => (!(inM m (x.o,x.slot))) && initOk os x && initsOk os (mpPut m (x.o,x.slot) true) r
end Go.Proofs.YtkbahggepncliaaGreatDoor
set_option maxRecDepth 10000
namespace Go.Proofs.YtkbahggepncliaaGreatDoor
open Go Go.Sk
def at1 (t : Text) (a : Int) : Bool:=decide (a ≥ 0) && decide (a < (t.insns.length : Int))
def nestOk (h g : MHandler) : Bool:=!((!(decide (g.from_ ≥ h.from_) && decide (g.to ≤ h.to))) && decide ((if h.from_ > g.from_ then h.from_ else g.from_) < (if h.to < g.to then h.to else g.to)))
def hdlBad (t : Text) (x : MHandler) : Bool:=((((decide (x.from_ < 0)) || (decide (x.from_ ≥ x.to))) || (decide (x.to > (t.insns.length : Int)))) || (!(at1 t x.at_))) || (f120 x x.at_)
def hdlsOk (t : Text) : List MHandler → List MHandler → Bool
  | _,[] => true
  | P,x :: r => (!(hdlBad t x)) && P.all (nestOk x) && hdlsOk t (P ++ [x]) r
def chk (t : Text) (a : Int) : Bool:=match idx t.insns a with
  | some x => decide (x.op = 27) || decide (x.op = 28)
  | none => false
end Go.Proofs.YtkbahggepncliaaGreatDoor
set_option maxRecDepth 10000
namespace Go.Proofs.YtkbahggepncliaaGreatDoor
open Go Go.Sk
abbrev Rt : Type:=Bool × (List Insn) × (List MHandler) × (List Loop) × (List Select) × (List (List Int)) × (List Obj) × (List Init) × Int × (List MTask) × (List MProt) × (List Check) × Int × Int
abbrev Re : Type:=(List Insn) → (List MHandler) → (List Loop) → (List Select) → (List (List Int)) → (List Obj) → (List Init) → Int → (List MTask) → (List MProt) → (List Check) → Int → Int → CExpr → Int → Option Rt
section
variable (v0 : List Insn) (v1 : List MHandler) (v2 : List Loop) (v3 : List Select) (v4 : List (List Int)) (v5 : List Obj) (v6 : List Init) (v7 : Int) (v8 : List MTask) (v9 : List MProt) (v10 : List Check) (ent : Int)
end
end Go.Proofs.YtkbahggepncliaaGreatDoor
set_option maxRecDepth 10000
namespace Go.Proofs.YtkbahggepncliaaGreatDoor
open Go Go.Sk
def prs (o : Int) : Option (List ByteArray):=(f156 o).bind fun r => f176 r.1.fields
def ch (s : ByteArray) : Int × Int:=((sIdx s 0).getD 0,(sIdx s 1).getD 0)
def flds (o : Int) : List (Int × Int):=((prs o).getD []).map ch
def rng (w v : Int) : Bool:=!(decide (v < (f179 w).1) || decide (v > (f179 w).2))
def fl : List (Int × Int) → Int → Int → Int → Int → Int → Int → Bool
  | [],d,a,b,n,m,to => (decide (d = 0)) && ((decide (a = 0)) && ((decide (b = 0)) && ((decide (n = 0)) && ((decide (m = 0)) && ((decide (to = 0)) && true)))))
  | (c,w) :: r,d,a,b,n,m,to =>
    bif decide (c = 68) then rng w d && fl r 0 a b n m to else
    bif decide (c = 65) then rng w a && fl r d 0 b n m to else
    bif decide (c = 66) then rng w b && fl r d a 0 n m to else
    bif decide (c = 78) then rng w n && fl r d a b 0 m to else
    bif decide (c = 77) then rng w m && fl r d a b n 0 to else rng w to && fl r d a b n m 0
def imay (x : Insn) : Bool:=!((!(decide (1 ≤ x.op) && decide (x.op ≤ 57))) || (decide (x.op = 27) && decide (x.n > x.m))) && (!((decide (x.op = 37) && decide ((IntKind.u8.wrap x.n) = 6)) && (!decide (x.m = 0))) && fl (flds x.op) x.d x.a x.b x.n x.m x.to)
def entN (t : Text) (task n : Int) : Int × Bool:=match idx t.tasks task with
  | some x => (match idx x.entries n with
    | some e => ((IntKind.i64.wrap ((IntKind.i64.wrap ((List.length e.ins : Int) + (List.length e.outs : Int))) + 1)),true)
    | none => (0,false))
  | none => (0,false)
def gate (t : Text) (p n : Int) : Bool:=match idx t.prots p with
  | some x => decide (0 ≤ n) && decide (n < (x.barriers.length : Int))
  | none => false
def jtOk (t : Text) (x : Insn) : Bool:=decide ((IntKind.i64.wrap (x.to + x.m)) ≤ (t.insns.length : Int)) && (sliceF t.insns x.to (IntKind.i64.wrap (x.to + x.m))).all (fun y => decide (y.op = 29))
def fitI (t : Text) (x : Insn) : Bool:=imay x &&
  bif decide (x.op = 3) || decide (x.op = 4) then spot t.objs x.n x.m 1 else
  bif decide (x.op = 5) || decide (x.op = 6) then spot t.objs x.n x.m x.b else
  bif decide (x.op = 29) || (decide (x.op = 30) || decide (x.op = 31)) then at1 t x.to else
  bif decide (x.op = 32) then jtOk t x else
  bif decide (x.op = 33) then decide (x.n ≤ t.excs) else
  bif decide (x.op = 44) || (decide (x.op = 45) || (decide (x.op = 46) || decide (x.op = 56))) then decide (x.n < (t.lists.length : Int)) else
  bif decide (x.op = 50) then decide (x.n < (t.selects.length : Int)) else
  bif decide (x.op = 49) then (entN t x.a x.b).2 && spot t.objs x.n 0 (entN t x.a x.b).1 else
  bif decide (x.op = 52) then (entN t x.a x.b).2 && decide (x.to < (t.insns.length : Int)) else
  bif decide (x.op = 53) || decide (x.op = 55) then decide (x.n < (t.prots.length : Int)) else
  bif decide (x.op = 54) then gate t x.n x.m else
  bif decide (x.op = 43) then decide (x.m < 0) || gate t x.m x.n else true
end Go.Proofs.YtkbahggepncliaaGreatDoor
set_option maxRecDepth 10000
namespace Go.Proofs.YtkbahggepncliaaGreatDoor
open Go Go.Sk
structure Sz (t : Text) : Prop where
  ops : ∀ x ∈ t.insns,0 ≤ x.op ∧ x.op ≤ 255
  inits : t.inits.length < 9223372036854775808
  sets : ∀ o ∈ t.objs,o.set_.length < 9223372036854775808
  lists : ∀ l ∈ t.lists,l.length < 9223372036854775808
  prots : t.prots.length < 9223372036854775808
  checks : t.checks.length < 9223372036854775808
def lastOk (x : Insn) : Bool:=decide (x.op = 29) || (decide (x.op = 33) || (decide (x.op = 34) || decide (x.op = 57)))
def lastB (t : Text) : Bool:=match idx t.insns ((t.insns.length : Int) - 1) with
  | some x => lastOk x
  | none => false
end Go.Proofs.YtkbahggepncliaaGreatDoor
set_option maxRecDepth 10000
namespace Go.Proofs.YtkbahggepncliaaGreatDoor
open Go Go.Sk
structure VT (t : Text) : Prop where
  sz : Sz t
  n : 1 ≤ t.insns.length ∧ t.insns.length ≤ 65536
  objs : t.objs.length ≤ 4096
  excs : 4 ≤ t.excs ∧ t.excs ≤ 64
  obj : ∀ o ∈ t.objs,objOk t.objs o = true
  inits : initsOk t.objs [] t.inits = true
  hdls : t.handlers.length ≤ 4096
  fits : ∀ x ∈ t.insns,fitI t x = true
  last : lastB t = true
  hok : hdlsOk t [] t.handlers = true
def iniV (o : Obj) : Int:=bif fits o 0 then 0 else o.lo
def iniRow (o : Obj) : List Int:=List.replicate o.size.toNat (iniV o)
def putI (S : List (List Int)) (x : Init) : List (List Int):=S.set x.o.toNat (((S[x.o.toNat]?).getD []).set x.slot.toNat x.v)
def store (t : Text) : List (List Int):=t.inits.foldl putI (t.objs.map iniRow)
end Go.Proofs.YtkbahggepncliaaGreatDoor
set_option maxRecDepth 10000
namespace Go.Proofs.YtkbahggepncliaaGreatDoor
open Go Go.Sk
structure Rg (x : Insn) : Prop where
  o : 1 ≤ x.op ∧ x.op ≤ 41
  d : vecOk 16 x.d = true
  a : vecOk 16 x.a = true
  b : x.op ≠ 5 → x.op ≠ 6 → vecOk 16 x.b = true
end Go.Proofs.YtkbahggepncliaaGreatDoor
set_option maxRecDepth 10000
namespace Go.Proofs.YtkbahggepncliaaGreatDoor
open Go Go.Sk
def tk (A : List Act) : List Int:=(A.filter fun x => decide (x.kind = 2)).map (·.a)
def pt (A : List Act) : List Int:=(A.filter fun x => decide (x.kind = 1)).map (·.a)
def Quiet (A : List Act) : Prop:=tk A = [] ∧ pt A = [] ∧ A.length ≤ 1
section
variable (tR : Nat → Int) (tP : Int) (tX : Int) (tD : Int) (mI : List Insn) (mH : List MHandler) (mO : List Obj) (mE : Int) (mN : List Int) (mS : List (List Int)) (mU : List Int)
def Io (mN mU : List Int) (N U : List Int) (A : List Act) : Prop:=tk A ++ N = mN ∧ U = mU ++ pt A ∧ A.length ≤ 1
end
end Go.Proofs.YtkbahggepncliaaGreatDoor
set_option maxRecDepth 10000
namespace Go.Proofs.YtkbahggepncliaaGreatDoor
open Go Go.Sk
section
variable (tR : Nat → Int) (tP : Int) (tX : Int) (tD : Int) (mI : List Insn) (mH : List MHandler) (mO : List Obj) (mE : Int) (mN : List Int) (mS : List (List Int)) (mU : List Int)
structure MV : Prop where
  h : mH.length ≤ 4096
  s : mS.length = mO.length
  o : ∀ o ∈ mO,o.set_.length < 9223372036854775808
  i : ∀ x ∈ mI,imay x = true ∧ 0 ≤ x.op
structure EX (n : Nat) (mN mU : List Int) (r : Regs × (List Act) × Int × (List Int) × (List (List Int)) × (List Int)) : Prop where
  io : Io mN mU r.2.2.2.1 r.2.2.2.2.2 r.2.1
  s : r.2.2.2.2.1.length = n
  e : r.2.2.1 ≠ 0 → r.2.1 = []
end
end Go.Proofs.YtkbahggepncliaaGreatDoor
set_option maxRecDepth 10000
namespace Go.Proofs.YtkbahggepncliaaGreatDoor
open Go Go.Sk
end Go.Proofs.YtkbahggepncliaaGreatDoor
set_option maxRecDepth 10000
namespace Go.Proofs.YtkbahggepncliaaGreatDoor
open Go Go.Sk
def lo2 (x : Int) : Int:=IntKind.i64.wrap (BitVec.ofInt IntKind.i64.bits x &&& BitVec.ofInt IntKind.i64.bits 3).toNat
def opv' (o : Int) : Int:=IntKind.u8.wrap (9 + (Int.tmod o 4))
def mk (x : Insn) : Insn:=bif decide (opv' x.op > 11) then Insn.mk 2 (lo2 x.d) (lo2 x.a) 0 0 0 0 else Insn.mk (opv' x.op) (lo2 x.d) (lo2 x.a) (lo2 x.b) 0 0 0
section
variable (R : Nat → Int) (p : Int) (mI : List Insn) (mH : List MHandler) (mO : List Obj) (mE : Int) (mN : List Int) (mS : List (List Int)) (mU : List Int) (x : Insn)
end
end Go.Proofs.YtkbahggepncliaaGreatDoor
set_option maxRecDepth 10000
namespace Go.Proofs.YtkbahggepncliaaGreatDoor
open Go Go.Sk
abbrev rz : Regs:=Regs.mk (fun _ => 0) 0 0 0
theorem f11z_eq (r : Regs) : f11z r = some (rz,[],1):=rfl
theorem f20z_eq (r : Regs) (n : Int) : f20z r n = some (rz,[],1):=by
  unfold f20z letk
  cases decide (n ≥ 1) <;> rfl
theorem f22z_eq (r : Regs) (n : Int) : f22z r n = some (rz,1):=by
  unfold f22z letk
  cases decide (n ≥ -2)
  · rfl
  · cases decide (n = 0) <;> rfl
theorem f11_nil (r : Regs) : f11 [] [] [] 0 [] [] [] r = some (rz,[],1,[],[],[]):=rfl
theorem f20_nil (r : Regs) (n : Int) : f20 [] [] [] 0 [] [] [] r n = some (rz,[],1):=by
  unfold f20 letk
  cases decide (n ≥ 1) <;> rfl
theorem f22_nil (r : Regs) (n : Int) : f22 [] [] [] 0 [] [] [] r n = some (rz,1):=by
  unfold f22 letk
  cases decide (n ≥ -2)
  · rfl
  · cases decide (n = 0) <;> rfl
theorem f24_nil (o k : Int) : f24 [] [] [] 0 [] [] [] o k = some (0,1):=rfl
theorem f26_nil (o k v : Int) : f26 [] [] [] 0 [] [] [] o k v = some (1,[]):=rfl
theorem law_none (r : Regs) (o k v : Int) : f7 r o k v = some true:=by
  unfold f7
  simp only [f9_ok,Option.bind_some,f11z_eq,f20z_eq,f22z_eq,letk,f11_nil,f20_nil,f22_nil,f24_nil,f26_nil,show f24z o k = some (0,1) from rfl,show f26z o k v = some 1 from rfl,show f28z = some [] from rfl,show f13z = some [] from rfl,show f15z = some [] from rfl]
  rfl
end Go.Proofs.YtkbahggepncliaaGreatDoor
set_option maxRecDepth 10000
namespace Go.Proofs.YtkbahggepncliaaGreatDoor
open Go Go.Sk
end Go.Proofs.YtkbahggepncliaaGreatDoor
