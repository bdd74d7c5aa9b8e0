/- Part of the proof. -/
import Derived.Test.YtkbahggepncliaaGreatDoorT
set_option linter.unusedVariables false
set_option linter.unusedSimpArgs false
set_option linter.unusedSectionVars false
set_option linter.unnecessarySimpa false
namespace Go.Proofs.YtkbahggepncliaaGreatDoor
open Go Go.Sk
structure Field where
  name : Int
  lo : Int
  hi : Int
structure Row where
  op : Int
  name : ByteArray
  fields : List Field
structure Regs where
  r : Nat → Int
  pc : Int
  exc : Int
  defer : Int
structure Act where
  time : Int
  task : Int
  kind : Int
  a : Int
  b : Int
  n : Int
structure Insn where
  op : Int
  d : Int
  a : Int
  b : Int
  n : Int
  m : Int
  to : Int
structure MHandler where
  from_ : Int
  to : Int
  at_ : Int
  clean : Bool
structure Loop where
  head : Int
  back : Int
  bound : Int
structure MAlt where
  kind : Int
  entry : Int
  guard : Int
  time : Int
  at_ : Int
structure Select where
  alts : List MAlt
  obj : Int
  else_ : Int
structure Obj where
  size : Int
  lo : Int
  hi : Int
  ptr : Bool
  set_ : List Int
structure Init where
  o : Int
  slot : Int
  v : Int
structure Entry where
  ins : List Int
  outs : List Int
structure MTask where
  prio : Int
  at_ : Int
  entries : List Entry
  deadline : Int
structure CExpr where
  kind : Int
  op : Int
  n : Int
  o : Int
  off : Int
  len : Int
  lo : Int
  hi : Int
  l : List CExpr
structure MProt where
  ceiling : Int
  barriers : List CExpr
structure Check where
  at_ : Int
  kind : Int
structure Text where
  insns : List Insn
  handlers : List MHandler
  loops : List Loop
  selects : List Select
  lists : List (List Int)
  objs : List Obj
  inits : List Init
  excs : Int
  tasks : List MTask
  prots : List MProt
  checks : List Check
structure Mem where
  t : Text
  slots : List (List Int)
  in_ : List Int
  out : List Int
structure State where
  m : Mem
  r : Regs
  acts : List Act
  e : Int
structure Step where
  what : Int
  r : Regs
  o : Int
  k : Int
  v : Int
structure Wrong where
  e : Int
structure Mem90 where
  insns : List Insn
  handlers : List MHandler
  objs : List Obj
  excs : Int
  slots : List (List Int)
  in_ : List Int
  out : List Int
structure Task where
  mem : Unit
  r : Regs
  acts : List Act
structure View where
  text : Text
structure Judge where
  view : View
  entries : Int
  left : Int
structure Spot where
  o : Int
  slot : Int
structure Row224 where
  name : ByteArray
  fields : ByteArray
abbrev E3 (x : Int) : List D:=[.i .i64 x]
theorem E3_eq (x : Int) : E3 x = [.i .i64 x]:=rfl
abbrev R173 (x : Entry) : List D:=[.sl (List.map E3 x.ins),.sl (List.map E3 x.outs)]
abbrev E173 (x : Entry) : List D:=R173 x
theorem E173_eq (x : Entry) : E173 x = R173 x:=rfl
abbrev R27 (x : MTask) : List D:=[.i .i64 x.prio,.i .i64 x.at_,.sl (List.map E173 x.entries),.i .i64 x.deadline]
abbrev E27 (x : MTask) : List D:=R27 x
theorem E27_eq (x : MTask) : E27 x = R27 x:=rfl
abbrev R45 (x : Insn) : List D:=[.i .u8 x.op,.i .i64 x.d,.i .i64 x.a,.i .i64 x.b,.i .i64 x.n,.i .i64 x.m,.i .i64 x.to]
abbrev E45 (x : Insn) : List D:=R45 x
theorem E45_eq (x : Insn) : E45 x = R45 x:=rfl
abbrev R108 (x : MHandler) : List D:=[.i .i64 x.from_,.i .i64 x.to,.i .i64 x.at_,.b x.clean]
abbrev E108 (x : MHandler) : List D:=R108 x
theorem E108_eq (x : MHandler) : E108 x = R108 x:=rfl
abbrev R189 (x : Loop) : List D:=[.i .i64 x.head,.i .i64 x.back,.i .i64 x.bound]
abbrev E189 (x : Loop) : List D:=R189 x
theorem E189_eq (x : Loop) : E189 x = R189 x:=rfl
abbrev R158 (x : MAlt) : List D:=[.i .u8 x.kind,.i .i64 x.entry,.i .i64 x.guard,.i .i64 x.time,.i .i64 x.at_]
abbrev E158 (x : MAlt) : List D:=R158 x
theorem E158_eq (x : MAlt) : E158 x = R158 x:=rfl
abbrev R155 (x : Select) : List D:=[.sl (List.map E158 x.alts),.i .i64 x.obj,.i .i64 x.else_]
abbrev E155 (x : Select) : List D:=R155 x
theorem E155_eq (x : Select) : E155 x = R155 x:=rfl
abbrev E96 (x : List Int) : List D:=[.sl (List.map E3 x)]
theorem E96_eq (x : List Int) : E96 x = [.sl (List.map E3 x)]:=rfl
abbrev R101 (x : Obj) : List D:=[.i .i64 x.size,.i .i64 x.lo,.i .i64 x.hi,.b x.ptr,.sl (List.map E3 x.set_)]
abbrev E101 (x : Obj) : List D:=R101 x
theorem E101_eq (x : Obj) : E101 x = R101 x:=rfl
abbrev R140 (x : Init) : List D:=[.i .i64 x.o,.i .i64 x.slot,.i .i64 x.v]
abbrev E140 (x : Init) : List D:=R140 x
theorem E140_eq (x : Init) : E140 x = R140 x:=rfl
mutual
def E179 : CExpr → List D
  | .mk kind op n o off len lo hi l => [.i .u8 kind,.i .u8 op,.i .i64 n,.i .i64 o,.i .i64 off,.i .i64 len,.i .i64 lo,.i .i64 hi,.sl (E179s l)]
def E179s : List CExpr → List (List D)
  | [] => []
  | e :: l => E179 e :: E179s l
end
abbrev R179 (x : CExpr) : List D:=[.i .u8 x.kind,.i .u8 x.op,.i .i64 x.n,.i .i64 x.o,.i .i64 x.off,.i .i64 x.len,.i .i64 x.lo,.i .i64 x.hi,.sl (List.map E179 x.l)]
theorem E179s_eq : ∀ l,E179s l = List.map E179 l
  | [] => rfl
  | e :: l => by rw [E179s,E179s_eq l]; rfl
theorem E179_eq (x : CExpr) : E179 x = R179 x:=by
  cases x; simp only [E179,E179s_eq]
abbrev R164 (x : MProt) : List D:=[.i .i64 x.ceiling,.sl (List.map E179 x.barriers)]
abbrev E164 (x : MProt) : List D:=R164 x
theorem E164_eq (x : MProt) : E164 x = R164 x:=rfl
abbrev R192 (x : Check) : List D:=[.i .i64 x.at_,.i .u8 x.kind]
abbrev E192 (x : Check) : List D:=R192 x
theorem E192_eq (x : Check) : E192 x = R192 x:=rfl
abbrev R38 (x : Text) : List D:=[.sl (List.map E45 x.insns),.sl (List.map E108 x.handlers),.sl (List.map E189 x.loops),.sl (List.map E155 x.selects),.sl (List.map E96 x.lists),.sl (List.map E101 x.objs),.sl (List.map E140 x.inits),.i .i64 x.excs,.sl (List.map E27 x.tasks),.sl (List.map E164 x.prots),.sl (List.map E192 x.checks)]
abbrev R39 (x : Nat → Int) : List D:=vecC 16 (fun j => .i .i64 (x j))
abbrev E39 (x : Nat → Int) : List D:=R39 x
abbrev R41 (x : Regs) : List D:=R39 x.r ++ ([.i .i64 x.pc,.i .i64 x.exc,.i .i64 x.defer])
abbrev E41 (x : Regs) : List D:=R41 x
abbrev R58 (x : Act) : List D:=[.i .i64 x.time,.i .i64 x.task,.i .u8 x.kind,.i .i64 x.a,.i .i64 x.b,.i .i64 x.n]
abbrev E58 (x : Act) : List D:=R58 x
theorem E58_eq (x : Act) : E58 x = R58 x:=rfl
abbrev E2 (x : Int) : List D:=[.i .i64 x]
theorem E2_eq (x : Int) : E2 x = [.i .i64 x]:=rfl
abbrev E42 (x : List Int) : List D:=[.sl (List.map E2 x)]
theorem E42_eq (x : List Int) : E42 x = [.sl (List.map E2 x)]:=rfl
abbrev R118 (x : Wrong) : List D:=[.i .i64 x.e]
abbrev R135 (x : View) : List D:=[.sl (List.map E45 x.text.insns),.sl (List.map E108 x.text.handlers),.sl (List.map E189 x.text.loops),.sl (List.map E155 x.text.selects),.sl (List.map E96 x.text.lists),.sl (List.map E101 x.text.objs),.sl (List.map E140 x.text.inits),.i .i64 x.text.excs,.sl (List.map E27 x.text.tasks),.sl (List.map E164 x.text.prots),.sl (List.map E192 x.text.checks)]
abbrev R224 (x : Row224) : List D:=[.s x.name,.s x.fields]
abbrev E9 (x : ByteArray) : List D:=[.s x]
theorem E9_eq (x : ByteArray) : E9 x = [.s x]:=rfl
end Go.Proofs.YtkbahggepncliaaGreatDoor
namespace Go.Proofs.YtkbahggepncliaaGreatDoor
open Go Go.Sk
def insnRows : List Row224:=rowsTab.map fun p => ⟨p.1,p.2⟩
theorem insnRows_gpc : gpc 0 = some (insnRows.flatMap R224):=by
  unfold insnRows
  rw [List.flatMap_map]
  rfl
def wrongP (e : Int) : List PanicEntry:=[{ v:=.iface 118 (.agg ⟨[.int .i64 e]⟩),recovered:=false }]
end Go.Proofs.YtkbahggepncliaaGreatDoor
namespace Go.Proofs.YtkbahggepncliaaGreatDoor
open Go Go.Sk
def f102  : Option (Rs Unit) :=
  some (Rs.bad 280)
def f145_l1 (s0 : List Int) (v1 : Int) (k22 : Unit → Option (Int)) : Nat → Int → Option (Int)
  | 0,_ => none
  | n+1,t24 =>
  (bif (decide (t24 < (List.length s0 : Int))) then Option.bind (idx s0 t24) fun x26 =>
  (bif (decide (v1 = x26)) then some t24 else (f145_l1 s0 v1 k22 n (IntKind.i64.wrap (t24 + 1)))) else (k22 ()))
def f145 (s0 : List Int) (v1 : Int) : Option Int :=
  letk (fun (_ : Unit) =>
  some (-1)) fun k22 =>
  (f145_l1 s0 v1 k22 (Int.toNat ((List.length s0 : Int) - 0) + 1) 0)
def f104 (s0 : List Int) (v1 : Int) : Option Bool :=
  Option.bind (f145 s0 v1) fun r12 =>
  some (decide (r12 ≥ 0))
def f63 (o0 : Obj) (v1 : Int) : Option Bool :=
  (bif o0.ptr then Option.bind (bif (decide (v1 = 0)) then some true else (Option.bind (f104 o0.set_ (IntKind.i64.wrap (v1 - 1))) fun r34 => some (r34 && (decide (v1 > 0))))) fun b33 =>
  some b33 else some ((decide (v1 ≥ o0.lo)) && (decide (v1 ≤ o0.hi))))
def f67 (o0 : Int) : Bool :=
  ((decide (o0 ≥ 42)) && (decide (o0 < 58)))
def f36 (o0 : Int) : Bool :=
  (((!decide (o0 = 0)) && (decide (o0 < 58))) && (!(f67 o0)))
def f131 (tR : Nat → Int) (tP : Int) (tX : Int) (tD : Int) (mI : List Insn) (mH : List MHandler) (mO : List Obj) (mE : Int) (mN : List Int) (mS : List (List Int)) (mU : List Int) (tA : List Act) : Option (Rs ((Nat → Int) × Int × Int × Int)) :=
  (bif (decide ((IntKind.i64.wrap (tP + 1)) = (List.length mI : Int))) then some (Rs.bad 280) else some (Rs.ok (tR,(IntKind.i64.wrap (tP + 1)),tX,tD)))
def f59_l1 (tP : Int) (mH : List MHandler) (c1 : Int) (k63 : Int → Option (Rs ((Nat → Int) × Int × Int × Int))) (k64 : Unit → Option (Rs ((Nat → Int) × Int × Int × Int))) : Nat → Int → Option (Rs ((Nat → Int) × Int × Int × Int))
  | 0,_ => none
  | n+1,t66 =>
  (bif (decide (t66 < (List.length mH : Int))) then Option.bind (idx mH t66) fun x68 =>
  letk (fun (_ : Unit) =>
  (bif (((decide (x68.from_ ≤ tP)) && (decide (tP < x68.to))) && (x68.clean || (decide (c1 > 0)))) then (k63 t66) else (f59_l1 tP mH c1 k63 k64 n (IntKind.i64.wrap (t66 + 1))))) fun k70 =>
  (k70 ()) else (k64 ()))
def f59 (tR : Nat → Int) (tP : Int) (tX : Int) (tD : Int) (mI : List Insn) (mH : List MHandler) (mO : List Obj) (mE : Int) (mN : List Int) (mS : List (List Int)) (mU : List Int) (tA : List Act) (c1 : Int) : Option (Rs ((Nat → Int) × Int × Int × Int)) :=
  letk (fun (t62 : Int) =>
  (bif (decide (t62 < 0)) then some (Rs.bad 280) else Option.bind (idx mH t62) fun x75 =>
  letk (fun (c01976 : Int) =>
  (bif (decide (c01976 > 1000000)) then some (Rs.bad 280) else some (Rs.ok ((fun j => 0),x75.at_,c1,c01976)))) fun k77 =>
  (bif x75.clean then (k77 (IntKind.i64.wrap (tD + 1))) else (k77 tD)))) fun k63 =>
  letk (fun (_ : Unit) =>
  (k63 (-1))) fun k64 =>
  (f59_l1 tP mH c1 k63 k64 (Int.toNat ((List.length mH : Int) - 0) + 1) 0)
def f56 (tR : Nat → Int) (tP : Int) (tX : Int) (tD : Int) (mI : List Insn) (mH : List MHandler) (mO : List Obj) (mE : Int) (mN : List Int) (mS : List (List Int)) (mU : List Int) (tA : List Act) (n1 : Int) : Option (Rs ((Nat → Int) × Int × Int × Int × (List Act))) :=
  Option.bind (f59 tR tP tX tD mI mH mO mE mN mS mU tA n1) fun r21 =>
  Rs.cs r21 (fun e23 => some (Rs.bad e23)) (fun z22 => guardB (appOk 48 tA [(Act.mk 0 0 5 n1 0 0)]) <|
  some (Rs.ok (z22.1,z22.2.1,z22.2.2.1,z22.2.2.2,(tA ++ [(Act.mk 0 0 5 n1 0 0)]))))
def f81 (tR : Nat → Int) (tP : Int) (tX : Int) (tD : Int) (mI : List Insn) (mH : List MHandler) (mO : List Obj) (mE : Int) (mN : List Int) (mS : List (List Int)) (mU : List Int) (tA : List Act) (x1 : Insn) : Option (Rs ((Nat → Int) × Int × Int × Int)) :=
  letk (fun (_ : Unit) =>
  some (Rs.bad 280)) fun k28 =>
  letk (fun (t29 : Obj) (o30 : Int) (k31 : Int) (c6032 : Int) (c6133 : Int) (c6234 : Int) (c6335 : Bool) (c6436 : List Int) =>
  Option.bind (idx mS o30) fun x66 =>
  Option.bind (idx x66 k31) fun v67 =>
  guardB (vecOk 16 x1.d) <|
  Option.bind (f131 (vset tR (Int.toNat x1.d) v67) tP tX tD mI mH mO mE mN mS mU tA) fun r69 =>
  Rs.cs r69 (fun e71 => some (Rs.bad e71)) (fun z70 => some (Rs.ok (z70.1,z70.2.1,z70.2.2.1,z70.2.2.2)))) fun k37 =>
  guardB (vecOk 16 x1.a) <|
  letk (fun (o39 : Int) (k40 : Int) =>
  letk (fun (_ : Unit) =>
  (k28 ())) fun k55 =>
  letk (fun (_ : Unit) =>
  Option.bind (idx mO o39) fun x65 =>
  (k37 x65 o39 k40 x65.size x65.lo x65.hi x65.ptr x65.set_)) fun k56 =>
  Option.bind (bif (((decide (o39 < 0)) || (decide (o39 ≥ (List.length mS : Int)))) || (decide (k40 < 0))) then some true else (Option.bind (idx mS o39) fun x58 => some (decide (k40 ≥ (List.length x58 : Int))))) fun b57 =>
  (bif b57 then (k55 ()) else Option.bind (idx mS o39) fun x59 =>
  Option.bind (idx x59 k40) fun v60 =>
  (k56 ()))) fun k41 =>
  letk (fun (t42 : Bool) =>
  (bif t42 then (bif ((decide ((tR (Int.toNat x1.a)) < 0)) || (decide ((tR (Int.toNat x1.a)) ≥ x1.b))) then (k28 ()) else (k41 x1.n (IntKind.i64.wrap (x1.m + (tR (Int.toNat x1.a)))))) else letk (fun (t48 : Bool) =>
  (bif t48 then (bif ((decide ((tR (Int.toNat x1.a)) < 1)) || (decide ((tR (Int.toNat x1.a)) > (List.length mO : Int)))) then (k28 ()) else (k41 (IntKind.i64.wrap ((tR (Int.toNat x1.a)) - 1)) 0)) else (k41 x1.n x1.m))) fun k49 =>
  (bif (decide (x1.op = 7)) then (k49 (decide (x1.op = 7))) else (k49 (decide (x1.op = 8)))))) fun k43 =>
  (bif (decide (x1.op = 5)) then (k43 (decide (x1.op = 5))) else (k43 (decide (x1.op = 6))))
def f82 (tR : Nat → Int) (tP : Int) (tX : Int) (tD : Int) (mI : List Insn) (mH : List MHandler) (mO : List Obj) (mE : Int) (mN : List Int) (mS : List (List Int)) (mU : List Int) (tA : List Act) (x1 : Insn) : Option (Rs ((Nat → Int) × Int × Int × Int × (List (List Int)))) :=
  guardB (vecOk 16 x1.d) <|
  letk (fun (v46 : Int) =>
  letk (fun (_ : Unit) =>
  some (Rs.bad 280)) fun k50 =>
  letk (fun (t51 : Obj) (o52 : Int) (k53 : Int) (c6054 : Int) (c6155 : Int) (c6256 : Int) (c6357 : Bool) (c6458 : List Int) =>
  Option.bind (f63 t51 v46) fun r88 =>
  (bif (!r88) then some (Rs.bad 280) else Option.bind (f131 tR tP tX tD mI mH mO mE mN mS mU tA) fun r93 =>
  Rs.cs r93 (fun e95 => some (Rs.bad e95)) (fun z94 => Option.bind (idx mS o52) fun x97 =>
  Option.bind (idx x97 k53) fun v98 =>
  some (Rs.ok (z94.1,z94.2.1,z94.2.2.1,z94.2.2.2,(List.set mS (Int.toNat o52) (List.set x97 (Int.toNat k53) v46))))))) fun k59 =>
  guardB (vecOk 16 x1.a) <|
  letk (fun (o61 : Int) (k62 : Int) =>
  letk (fun (_ : Unit) =>
  (k50 ())) fun k77 =>
  letk (fun (_ : Unit) =>
  Option.bind (idx mO o61) fun x87 =>
  (k59 x87 o61 k62 x87.size x87.lo x87.hi x87.ptr x87.set_)) fun k78 =>
  Option.bind (bif (((decide (o61 < 0)) || (decide (o61 ≥ (List.length mS : Int)))) || (decide (k62 < 0))) then some true else (Option.bind (idx mS o61) fun x80 => some (decide (k62 ≥ (List.length x80 : Int))))) fun b79 =>
  (bif b79 then (k77 ()) else Option.bind (idx mS o61) fun x81 =>
  Option.bind (idx x81 k62) fun v82 =>
  (k78 ()))) fun k63 =>
  letk (fun (t64 : Bool) =>
  (bif t64 then (bif ((decide ((tR (Int.toNat x1.a)) < 0)) || (decide ((tR (Int.toNat x1.a)) ≥ x1.b))) then (k50 ()) else (k63 x1.n (IntKind.i64.wrap (x1.m + (tR (Int.toNat x1.a)))))) else letk (fun (t70 : Bool) =>
  (bif t70 then (bif ((decide ((tR (Int.toNat x1.a)) < 1)) || (decide ((tR (Int.toNat x1.a)) > (List.length mO : Int)))) then (k50 ()) else (k63 (IntKind.i64.wrap ((tR (Int.toNat x1.a)) - 1)) 0)) else (k63 x1.n x1.m))) fun k71 =>
  (bif (decide (x1.op = 7)) then (k71 (decide (x1.op = 7))) else (k71 (decide (x1.op = 8)))))) fun k65 =>
  (bif (decide (x1.op = 5)) then (k65 (decide (x1.op = 5))) else (k65 (decide (x1.op = 6))))) fun k47 =>
  (bif (decide (x1.op = 4)) then guardB (vecOk 16 x1.a) <|
  (k47 (tR (Int.toNat x1.a))) else (k47 (tR (Int.toNat x1.d))))
def f83 (tR : Nat → Int) (tP : Int) (tX : Int) (tD : Int) (mI : List Insn) (mH : List MHandler) (mO : List Obj) (mE : Int) (mN : List Int) (mS : List (List Int)) (mU : List Int) (tA : List Act) (x1 : Insn) : Option (Rs ((Nat → Int) × Int × Int × Int)) :=
  guardB (vecOk 16 x1.a) <|
  (bif (((decide (x1.op = 32)) && (decide ((tR (Int.toNat x1.a)) ≥ x1.n))) && (decide ((IntKind.u64.wrap ((IntKind.u64.wrap (tR (Int.toNat x1.a))) - (IntKind.u64.wrap x1.n))) < (IntKind.u64.wrap x1.m)))) then some (Rs.ok (tR,(IntKind.i64.wrap (x1.to + (IntKind.i64.wrap ((tR (Int.toNat x1.a)) - x1.n)))),tX,tD)) else letk (fun (t76 : Bool) =>
  (bif t76 then some (Rs.ok (tR,x1.to,tX,tD)) else Option.bind (f131 tR tP tX tD mI mH mO mE mN mS mU tA) fun r78 =>
  Rs.cs r78 (fun e80 => some (Rs.bad e80)) (fun z79 => some (Rs.ok (z79.1,z79.2.1,z79.2.2.1,z79.2.2.2))))) fun k77 =>
  (bif (decide (x1.op = 29)) then (k77 (decide (x1.op = 29))) else (bif ((decide (x1.op = 30)) && (decide ((tR (Int.toNat x1.a)) = 0))) then (k77 ((decide (x1.op = 30)) && (decide ((tR (Int.toNat x1.a)) = 0)))) else (k77 ((decide (x1.op = 31)) && (!decide ((tR (Int.toNat x1.a)) = 0)))))))
def f84 (tR : Nat → Int) (tP : Int) (tX : Int) (tD : Int) (mI : List Insn) (mH : List MHandler) (mO : List Obj) (mE : Int) (mN : List Int) (mS : List (List Int)) (mU : List Int) (tA : List Act) (x1 : Insn) : Option (Rs ((Nat → Int) × Int × Int × Int × (List Act))) :=
  guardB (vecOk 16 x1.a) <|
  (bif (((decide (x1.op = 27)) && ((decide ((tR (Int.toNat x1.a)) < x1.n)) || (decide ((tR (Int.toNat x1.a)) > x1.m)))) || ((decide (x1.op = 28)) && (decide ((tR (Int.toNat x1.a)) = 0)))) then Option.bind (f56 tR tP tX tD mI mH mO mE mN mS mU tA 1) fun r45 =>
  Rs.cs r45 (fun e47 => some (Rs.bad e47)) (fun z46 => some (Rs.ok (z46.1,z46.2.1,z46.2.2.1,z46.2.2.2.1,z46.2.2.2.2))) else Option.bind (f131 tR tP tX tD mI mH mO mE mN mS mU tA) fun r49 =>
  Rs.cs r49 (fun e51 => some (Rs.bad e51)) (fun z50 => some (Rs.ok (z50.1,z50.2.1,z50.2.2.1,z50.2.2.2,tA))))
def f85 (tR : Nat → Int) (tP : Int) (tX : Int) (tD : Int) (mI : List Insn) (mH : List MHandler) (mO : List Obj) (mE : Int) (mN : List Int) (mS : List (List Int)) (mU : List Int) (tA : List Act) (x1 : Insn) : Option (Rs ((Nat → Int) × Int × Int × Int × (List Act))) :=
  guardB (vecOk 16 x1.a) <|
  (bif (decide (x1.op = 33)) then Option.bind (f56 tR tP tX tD mI mH mO mE mN mS mU tA x1.n) fun r69 =>
  Rs.cs r69 (fun e71 => some (Rs.bad e71)) (fun z70 => some (Rs.ok (z70.1,z70.2.1,z70.2.2.1,z70.2.2.2.1,z70.2.2.2.2))) else (bif ((decide (x1.op = 35)) && (decide ((tR (Int.toNat x1.a)) = 0))) then Option.bind (f131 tR tP tX tD mI mH mO mE mN mS mU tA) fun r73 =>
  Rs.cs r73 (fun e75 => some (Rs.bad e75)) (fun z74 => some (Rs.ok (z74.1,z74.2.1,z74.2.2.1,z74.2.2.2,tA))) else (bif (((decide ((tR (Int.toNat x1.a)) > mE)) || (decide ((tR (Int.toNat x1.a)) < (-2)))) || ((decide (x1.op = 34)) && (decide ((tR (Int.toNat x1.a)) < 1)))) then some (Rs.bad 280) else (bif (decide (x1.op = 35)) then Option.bind (f59 tR tP tX tD mI mH mO mE mN mS mU tA (tR (Int.toNat x1.a))) fun r81 =>
  Rs.cs r81 (fun e83 => some (Rs.bad e83)) (fun z82 => some (Rs.ok (z82.1,z82.2.1,z82.2.2.1,z82.2.2.2,tA))) else Option.bind (f56 tR tP tX tD mI mH mO mE mN mS mU tA (tR (Int.toNat x1.a))) fun r85 =>
  Rs.cs r85 (fun e87 => some (Rs.bad e87)) (fun z86 => some (Rs.ok (z86.1,z86.2.1,z86.2.2.1,z86.2.2.2.1,z86.2.2.2.2)))))))
def f86 (tR : Nat → Int) (tP : Int) (tX : Int) (tD : Int) (mI : List Insn) (mH : List MHandler) (mO : List Obj) (mE : Int) (mN : List Int) (mS : List (List Int)) (mU : List Int) (tA : List Act) (x1 : Insn) : Option (Rs ((Nat → Int) × Int × Int × Int × (List Int) × (List Int) × (List Act))) :=
  (bif (decide (x1.op = 37)) then Option.bind (f131 tR tP tX tD mI mH mO mE mN mS mU tA) fun r144 =>
  Rs.cs r144 (fun e146 => some (Rs.bad e146)) (fun z145 => letk (fun (c63148 : Int) =>
  guardB (appOk 48 tA [(Act.mk 0 0 (IntKind.u8.wrap x1.n) c63148 0 0)]) <|
  some (Rs.ok (z145.1,z145.2.1,z145.2.2.1,z145.2.2.2,mN,mU,(tA ++ [(Act.mk 0 0 (IntKind.u8.wrap x1.n) c63148 0 0)])))) fun k149 =>
  (bif (decide ((IntKind.u8.wrap x1.n) = 6)) then (k149 z145.2.2.1) else (k149 x1.m))) else (bif (decide (x1.op = 39)) then guardB (vecOk 16 x1.a) <|
  Option.bind (f131 tR tP tX tD mI mH mO mE mN mS mU tA) fun r152 =>
  Rs.cs r152 (fun e154 => some (Rs.bad e154)) (fun z153 => guardB (appOk 8 mU [(tR (Int.toNat x1.a))]) <|
  guardB (appOk 48 tA [(Act.mk 0 0 1 (tR (Int.toNat x1.a)) 0 0)]) <|
  some (Rs.ok (z153.1,z153.2.1,z153.2.2.1,z153.2.2.2,mN,(mU ++ [(tR (Int.toNat x1.a))]),(tA ++ [(Act.mk 0 0 1 (tR (Int.toNat x1.a)) 0 0)])))) else (bif (decide ((List.length mN : Int) = 0)) then Option.bind (f56 tR tP tX tD mI mH mO mE mN mS mU tA 4) fun r158 =>
  Rs.cs r158 (fun e160 => some (Rs.bad e160)) (fun z159 => some (Rs.ok (z159.1,z159.2.1,z159.2.2.1,z159.2.2.2.1,mN,mU,z159.2.2.2.2))) else Option.bind (f131 tR tP tX tD mI mH mO mE mN mS mU tA) fun r162 =>
  Rs.cs r162 (fun e164 => some (Rs.bad e164)) (fun z163 => Option.bind (idx mN 0) fun x166 =>
  guardB (vecOk 16 x1.d) <|
  Option.bind (idx mN 0) fun x168 =>
  guardB (appOk 48 tA [(Act.mk 0 0 2 x168 0 0)]) <|
  guardB (sliceOk mN 1 (List.length mN : Int)) <|
  some (Rs.ok ((vset z163.1 (Int.toNat x1.d) x166),z163.2.1,z163.2.2.1,z163.2.2.2,(sliceF mN 1 (List.length mN : Int)),mU,(tA ++ [(Act.mk 0 0 2 x168 0 0)])))))))
def f87 (tR : Nat → Int) (tP : Int) (tX : Int) (tD : Int) (mI : List Insn) (mH : List MHandler) (mO : List Obj) (mE : Int) (mN : List Int) (mS : List (List Int)) (mU : List Int) (tA : List Act) (x1 : Insn) : Option (Rs ((Nat → Int) × Int × Int × Int)) :=
  letk (fun (c0190 : Nat → Int) (c01991 : Int) =>
  (bif ((decide (c01991 < 0)) || (decide (c01991 > 1000000))) then some (Rs.bad 280) else Option.bind (f131 c0190 tP tX c01991 mI mH mO mE mN mS mU tA) fun r101 =>
  Rs.cs r101 (fun e103 => some (Rs.bad e103)) (fun z102 => some (Rs.ok (z102.1,z102.2.1,z102.2.2.1,z102.2.2.2))))) fun k92 =>
  (bif (decide (x1.op = 1)) then guardB (vecOk 16 x1.d) <|
  (k92 (vset tR (Int.toNat x1.d) x1.n) tD) else (bif (decide (x1.op = 2)) then guardB (vecOk 16 x1.a) <|
  guardB (vecOk 16 x1.d) <|
  (k92 (vset tR (Int.toNat x1.d) (tR (Int.toNat x1.a))) tD) else (bif (decide (x1.op = 36)) then guardB (vecOk 16 x1.d) <|
  (k92 (vset tR (Int.toNat x1.d) tX) tD) else (bif (decide (x1.op = 40)) then (k92 tR (IntKind.i64.wrap (tD + 1))) else (bif (decide (x1.op = 41)) then (k92 tR (IntKind.i64.wrap (tD - 1))) else (k92 tR tD))))))
def f181 (a0 : Int) (b1 : Int) : Int :=
  (IntKind.i64.wrap (a0 + b1))
def f182 (a0 : Int) (b1 : Int) : Int :=
  (IntKind.i64.wrap (a0 - b1))
def f183 (a0 : Int) (b1 : Int) : Int :=
  (IntKind.i64.wrap (a0 * b1))
def f185 (a0 : Int) (b1 : Int) : Option Int :=
  guardB (nz b1) <|
  some (IntKind.i64.wrap (Int.tdiv a0 b1))
def f186 (a0 : Int) (b1 : Int) : Option Int :=
  guardB (nz b1) <|
  some (Int.tmod a0 b1)
def f187 (a0 : Int) (b1 : Int) : Option Int :=
  guardB (nz b1) <|
  (bif ((decide ((Int.tmod a0 b1) = 0)) || (decide ((IntKind.i64.wrap (BitVec.ofInt IntKind.i64.bits (Int.tmod a0 b1) ^^^ BitVec.ofInt IntKind.i64.bits b1).toNat) ≥ 0))) then some (Int.tmod a0 b1) else guardB (nz b1) <|
  some (IntKind.i64.wrap ((Int.tmod a0 b1) + b1)))
def f217 (is0 : Bool) : Int :=
  (bif is0 then 1 else 0)
def f189 (a0 : Int) (b1 : Int) : Bool :=
  (decide (a0 = b1))
def f190 (a0 : Int) (b1 : Int) : Bool :=
  (!decide (a0 = b1))
def f191 (a0 : Int) (b1 : Int) : Bool :=
  (decide (a0 < b1))
def f192 (a0 : Int) (b1 : Int) : Bool :=
  (decide (a0 ≤ b1))
def f193 (a0 : Int) (b1 : Int) : Bool :=
  (decide (a0 > b1))
def f194 (a0 : Int) (b1 : Int) : Bool :=
  (decide (a0 ≥ b1))
def f195 (a0 : Int) (b1 : Int) : Int :=
  (IntKind.i64.wrap (BitVec.ofInt IntKind.i64.bits a0 &&& BitVec.ofInt IntKind.i64.bits b1).toNat)
def f196 (a0 : Int) (b1 : Int) : Int :=
  (IntKind.i64.wrap (BitVec.ofInt IntKind.i64.bits a0 ||| BitVec.ofInt IntKind.i64.bits b1).toNat)
def f197 (a0 : Int) (b1 : Int) : Int :=
  (IntKind.i64.wrap (BitVec.ofInt IntKind.i64.bits a0 ^^^ BitVec.ofInt IntKind.i64.bits b1).toNat)
def f198 (a0 : Int) (p1 : Int) : Int :=
  (IntKind.i64.wrap (0 - a0))
def f199 (a0 : Int) (p1 : Int) : Int :=
  (if (IntKind.i64.wrap (0 - a0)) > a0 then (IntKind.i64.wrap (0 - a0)) else a0)
def f200 (a0 : Int) (p1 : Int) : Int :=
  (IntKind.i64.wrap (1 - a0))
def f132 (op0 : Int) (a1 : Int) (b2 : Int) : Option (Int × Bool) :=
  (bif (decide (op0 = 1)) then some ((IntKind.i64.wrap (a1 + b2)),true) else (bif (decide (op0 = 2)) then some ((IntKind.i64.wrap (a1 - b2)),true) else letk (fun (_ : Unit) =>
  (bif decide (op0 = 1) then letk (fun (_ : Unit) =>
  some ((f181 a1 b2),true)) fun k80 =>
  (k80 ()) else (bif decide (op0 = 2) then letk (fun (_ : Unit) =>
  some ((f182 a1 b2),true)) fun k84 =>
  (k84 ()) else (bif decide (op0 = 3) then letk (fun (_ : Unit) =>
  some ((f183 a1 b2),true)) fun k88 =>
  (k88 ()) else (bif decide (op0 = 4) then letk (fun (t92 : Bool) (t93 : Int) =>
  some (t93,t92)) fun k94 =>
  (bif (decide (b2 = 0)) then (k94 false 0) else Option.bind (f185 a1 b2) fun r95 =>
  (k94 true r95)) else (bif decide (op0 = 5) then letk (fun (t99 : Bool) (t100 : Int) =>
  some (t100,t99)) fun k101 =>
  (bif (decide (b2 = 0)) then (k101 false 0) else Option.bind (f186 a1 b2) fun r102 =>
  (k101 true r102)) else (bif decide (op0 = 6) then letk (fun (t106 : Bool) (t107 : Int) =>
  some (t107,t106)) fun k108 =>
  (bif (decide (b2 = 0)) then (k108 false 0) else Option.bind (f187 a1 b2) fun r109 =>
  (k108 true r109)) else (bif decide (op0 = 7) then letk (fun (_ : Unit) =>
  some ((f217 (f189 a1 b2)),true)) fun k113 =>
  (k113 ()) else (bif decide (op0 = 8) then letk (fun (_ : Unit) =>
  some ((f217 (f190 a1 b2)),true)) fun k117 =>
  (k117 ()) else (bif decide (op0 = 9) then letk (fun (_ : Unit) =>
  some ((f217 (f191 a1 b2)),true)) fun k121 =>
  (k121 ()) else (bif decide (op0 = 10) then letk (fun (_ : Unit) =>
  some ((f217 (f192 a1 b2)),true)) fun k125 =>
  (k125 ()) else (bif decide (op0 = 11) then letk (fun (_ : Unit) =>
  some ((f217 (f193 a1 b2)),true)) fun k129 =>
  (k129 ()) else (bif decide (op0 = 12) then letk (fun (_ : Unit) =>
  some ((f217 (f194 a1 b2)),true)) fun k133 =>
  (k133 ()) else (bif decide (op0 = 13) then letk (fun (_ : Unit) =>
  some ((f195 a1 b2),true)) fun k137 =>
  (k137 ()) else (bif decide (op0 = 14) then letk (fun (_ : Unit) =>
  some ((f196 a1 b2),true)) fun k141 =>
  (k141 ()) else (bif decide (op0 = 15) then letk (fun (_ : Unit) =>
  some ((f197 a1 b2),true)) fun k145 =>
  (k145 ()) else (bif decide (op0 = 16) then letk (fun (_ : Unit) =>
  some ((f198 a1 b2),true)) fun k149 =>
  (k149 ()) else (bif decide (op0 = 17) then letk (fun (_ : Unit) =>
  some ((f199 a1 b2),true)) fun k153 =>
  (k153 ()) else (bif decide (op0 = 18) then letk (fun (_ : Unit) =>
  some ((f200 a1 b2),true)) fun k157 =>
  (k157 ()) else some (0,false)))))))))))))))))))) fun k40 =>
  letk (fun (_ : Unit) =>
  letk (fun (_ : Unit) =>
  letk (fun (_ : Unit) =>
  letk (fun (_ : Unit) =>
  letk (fun (_ : Unit) =>
  letk (fun (_ : Unit) =>
  letk (fun (_ : Unit) =>
  letk (fun (_ : Unit) =>
  letk (fun (_ : Unit) =>
  letk (fun (_ : Unit) =>
  letk (fun (_ : Unit) =>
  letk (fun (_ : Unit) =>
  letk (fun (_ : Unit) =>
  letk (fun (_ : Unit) =>
  letk (fun (_ : Unit) =>
  letk (fun (_ : Unit) =>
  letk (fun (_ : Unit) =>
  letk (fun (_ : Unit) =>
  (k40 ())) fun k76 =>
  (k76 ())) fun k74 =>
  (k74 ())) fun k72 =>
  (k72 ())) fun k70 =>
  (k70 ())) fun k68 =>
  (k68 ())) fun k66 =>
  (k66 ())) fun k64 =>
  (k64 ())) fun k62 =>
  (k62 ())) fun k60 =>
  (k60 ())) fun k58 =>
  (k58 ())) fun k56 =>
  (k56 ())) fun k54 =>
  (k54 ())) fun k52 =>
  (k52 ())) fun k50 =>
  (k50 ())) fun k48 =>
  (k48 ())) fun k46 =>
  (k46 ())) fun k44 =>
  (k44 ())) fun k42 =>
  (k42 ())))
def f88 (tR : Nat → Int) (tP : Int) (tX : Int) (tD : Int) (mI : List Insn) (mH : List MHandler) (mO : List Obj) (mE : Int) (mN : List Int) (mS : List (List Int)) (mU : List Int) (tA : List Act) (x1 : Insn) : Option (Rs ((Nat → Int) × Int × Int × Int)) :=
  guardB (vecOk 16 x1.a) <|
  guardB (vecOk 16 x1.b) <|
  Option.bind (f132 (IntKind.u8.wrap (1 + (IntKind.u8.wrap (x1.op - 9)))) (tR (Int.toNat x1.a)) (tR (Int.toNat x1.b))) fun r48 =>
  (bif (!r48.2) then some (Rs.bad 280) else guardB (vecOk 16 x1.d) <|
  Option.bind (f131 (vset tR (Int.toNat x1.d) r48.1) tP tX tD mI mH mO mE mN mS mU tA) fun r54 =>
  Rs.cs r54 (fun e56 => some (Rs.bad e56)) (fun z55 => some (Rs.ok (z55.1,z55.2.1,z55.2.2.1,z55.2.2.2))))
def f47 (mI : List Insn) (mH : List MHandler) (mO : List Obj) (mE : Int) (mN : List Int) (mS : List (List Int)) (mU : List Int) : Option Bool :=
  some (decide ((List.length mI : Int) = 0))
def f46 (tR : Nat → Int) (tP : Int) (tX : Int) (tD : Int) (mI : List Insn) (mH : List MHandler) (mO : List Obj) (mE : Int) (mN : List Int) (mS : List (List Int)) (mU : List Int) (tA : List Act) (o1 : Int) : Option Nat :=
  letk (fun (t55 : Bool) =>
  (bif t55 then some 81 else letk (fun (t57 : Bool) =>
  (bif t57 then some 82 else letk (fun (t59 : Bool) =>
  (bif t59 then some 83 else letk (fun (t61 : Bool) =>
  (bif t61 then some 84 else letk (fun (t63 : Bool) =>
  (bif t63 then some 85 else letk (fun (t65 : Bool) =>
  (bif t65 then some 86 else letk (fun (t67 : Bool) =>
  (bif t67 then some 87 else some 88)) fun k68 =>
  (bif (decide (o1 = 1)) then (k68 (decide (o1 = 1))) else (bif (decide (o1 = 2)) then (k68 (decide (o1 = 2))) else (bif (decide (o1 = 36)) then (k68 (decide (o1 = 36))) else (bif (decide (o1 = 40)) then (k68 (decide (o1 = 40))) else (k68 (decide (o1 = 41))))))))) fun k66 =>
  (bif (decide (o1 = 37)) then (k66 (decide (o1 = 37))) else (bif (decide (o1 = 38)) then (k66 (decide (o1 = 38))) else (k66 (decide (o1 = 39))))))) fun k64 =>
  (bif (decide (o1 = 33)) then (k64 (decide (o1 = 33))) else (bif (decide (o1 = 34)) then (k64 (decide (o1 = 34))) else (k64 (decide (o1 = 35))))))) fun k62 =>
  (bif (decide (o1 = 27)) then (k62 (decide (o1 = 27))) else (k62 (decide (o1 = 28)))))) fun k60 =>
  (bif (decide (o1 = 29)) then (k60 (decide (o1 = 29))) else (bif (decide (o1 = 30)) then (k60 (decide (o1 = 30))) else (bif (decide (o1 = 31)) then (k60 (decide (o1 = 31))) else (k60 (decide (o1 = 32)))))))) fun k58 =>
  (bif (decide (o1 = 4)) then (k58 (decide (o1 = 4))) else (bif (decide (o1 = 6)) then (k58 (decide (o1 = 6))) else (k58 (decide (o1 = 8))))))) fun k56 =>
  (bif (decide (o1 = 3)) then (k56 (decide (o1 = 3))) else (bif (decide (o1 = 5)) then (k56 (decide (o1 = 5))) else (k56 (decide (o1 = 7)))))
def fm (n : Nat) (tR : Nat → Int) (tP : Int) (tX : Int) (tD : Int) (mI : List Insn) (mH : List MHandler) (mO : List Obj) (mE : Int) (mN : List Int) (mS : List (List Int)) (mU : List Int) (tA : List Act) (x : Insn) : Option (Rs ((Nat → Int) × Int × Int × Int × (List Int) × (List (List Int)) × (List Int) × (List Act))) :=
  bif Nat.beq n 81 then Option.bind (f81 tR tP tX tD mI mH mO mE mN mS mU tA x) fun r => some (Rs.cs r (fun e => Rs.bad e) fun z => Rs.ok (z.1,z.2.1,z.2.2.1,z.2.2.2,mN,mS,mU,tA)) else
  bif Nat.beq n 82 then Option.bind (f82 tR tP tX tD mI mH mO mE mN mS mU tA x) fun r => some (Rs.cs r (fun e => Rs.bad e) fun z => Rs.ok (z.1,z.2.1,z.2.2.1,z.2.2.2.1,mN,z.2.2.2.2,mU,tA)) else
  bif Nat.beq n 83 then Option.bind (f83 tR tP tX tD mI mH mO mE mN mS mU tA x) fun r => some (Rs.cs r (fun e => Rs.bad e) fun z => Rs.ok (z.1,z.2.1,z.2.2.1,z.2.2.2,mN,mS,mU,tA)) else
  bif Nat.beq n 84 then Option.bind (f84 tR tP tX tD mI mH mO mE mN mS mU tA x) fun r => some (Rs.cs r (fun e => Rs.bad e) fun z => Rs.ok (z.1,z.2.1,z.2.2.1,z.2.2.2.1,mN,mS,mU,z.2.2.2.2)) else
  bif Nat.beq n 85 then Option.bind (f85 tR tP tX tD mI mH mO mE mN mS mU tA x) fun r => some (Rs.cs r (fun e => Rs.bad e) fun z => Rs.ok (z.1,z.2.1,z.2.2.1,z.2.2.2.1,mN,mS,mU,z.2.2.2.2)) else
  bif Nat.beq n 86 then Option.bind (f86 tR tP tX tD mI mH mO mE mN mS mU tA x) fun r => some (Rs.cs r (fun e => Rs.bad e) fun z => Rs.ok (z.1,z.2.1,z.2.2.1,z.2.2.2.1,z.2.2.2.2.1,mS,z.2.2.2.2.2.1,z.2.2.2.2.2.2)) else
  bif Nat.beq n 87 then Option.bind (f87 tR tP tX tD mI mH mO mE mN mS mU tA x) fun r => some (Rs.cs r (fun e => Rs.bad e) fun z => Rs.ok (z.1,z.2.1,z.2.2.1,z.2.2.2,mN,mS,mU,tA)) else
  bif Nat.beq n 88 then Option.bind (f88 tR tP tX tD mI mH mO mE mN mS mU tA x) fun r => some (Rs.cs r (fun e => Rs.bad e) fun z => Rs.ok (z.1,z.2.1,z.2.2.1,z.2.2.2,mN,mS,mU,tA)) else
  none
def f45 (tR : Nat → Int) (tP : Int) (tX : Int) (tD : Int) (mI : List Insn) (mH : List MHandler) (mO : List Obj) (mE : Int) (mN : List Int) (mS : List (List Int)) (mU : List Int) (tA : List Act) : Option (Rs ((Nat → Int) × Int × Int × Int × (List Int) × (List (List Int)) × (List Int) × (List Act))) :=
  Option.bind (idx mI tP) fun x31 =>
  (bif (!(f36 x31.op)) then some (Rs.bad 8) else Option.bind (f46 tR tP tX tD mI mH mO mE mN mS mU tA x31.op) fun r32 =>
  Option.bind (fm r32 tR tP tX tD mI mH mO mE mN mS mU tA x31) fun r34 =>
  Rs.cs r34 (fun e36 => some (Rs.bad e36)) (fun z35 => some (Rs.ok (z35.1,z35.2.1,z35.2.2.1,z35.2.2.2.1,z35.2.2.2.2.1,z35.2.2.2.2.2.1,z35.2.2.2.2.2.2.1,z35.2.2.2.2.2.2.2))))
def f55 (tR : Nat → Int) (tP : Int) (tX : Int) (tD : Int) (mI : List Insn) (mH : List MHandler) (mO : List Obj) (mE : Int) (mN : List Int) (mS : List (List Int)) (mU : List Int) (tA : List Act) (cap1 : Int) : Option (Rs ((Nat → Int) × Int × Int × Int × (List Act))) :=
  Option.bind (f56 tR tP tX tD mI mH mO mE mN mS mU tA cap1) fun r8 =>
  Rs.cs r8 (fun e10 => some (Rs.bad e10)) (fun z9 => some (Rs.ok (z9.1,z9.2.1,z9.2.2.1,z9.2.2.2.1,z9.2.2.2.2)))
def f58 (tR : Nat → Int) (tP : Int) (tX : Int) (tD : Int) (mI : List Insn) (mH : List MHandler) (mO : List Obj) (mE : Int) (mN : List Int) (mS : List (List Int)) (mU : List Int) (tA : List Act) (cap1 : Int) : Option (Rs ((Nat → Int) × Int × Int × Int)) :=
  Option.bind (f59 tR tP tX tD mI mH mO mE mN mS mU tA cap1) fun r8 =>
  Rs.cs r8 (fun e10 => some (Rs.bad e10)) (fun z9 => some (Rs.ok (z9.1,z9.2.1,z9.2.2.1,z9.2.2.2)))
def f44_45 (mI : List Insn) (mH : List MHandler) (mO : List Obj) (mE : Int) (mN : List Int) (mS : List (List Int)) (mU : List Int) (r1 : Regs) (fine2 : Bool) : Option (Regs × (List Act) × Int × (List Int) × (List (List Int)) × (List Int)) :=
  Option.bind (f47 mI mH mO mE mN mS mU) fun r80 =>
  (bif r80 then some ((Regs.mk (fun j => 0) 0 0 0),[],1,mN,mS,mU) else (bif (((((((decide (r1.pc < 0)) || (decide (r1.pc ≥ (List.length mI : Int)))) || (decide (r1.exc < (-2)))) || (decide (r1.exc > mE))) || (decide (r1.defer < 0))) || (decide (r1.defer > 1000000))) || (!fine2)) then some ((Regs.mk (fun j => 0) 0 0 0),[],2,mN,mS,mU) else Option.bind (f45 r1.r r1.pc r1.exc r1.defer mI mH mO mE mN mS mU ([] : List Act)) fun r82 =>
  Rs.cs r82 (fun e84 => some ((Regs.mk (fun j => 0) 0 0 0),[],e84,mN,mS,mU)) (fun z83 => some ((Regs.mk z83.1 z83.2.1 z83.2.2.1 z83.2.2.2.1),z83.2.2.2.2.2.2.2,0,z83.2.2.2.2.1,z83.2.2.2.2.2.1,z83.2.2.2.2.2.2.1))))
def f44_55 (mI : List Insn) (mH : List MHandler) (mO : List Obj) (mE : Int) (mN : List Int) (mS : List (List Int)) (mU : List Int) (r1 : Regs) (fine2 : Bool) (xn : Int) : Option (Regs × (List Act) × Int) :=
  Option.bind (f47 mI mH mO mE mN mS mU) fun r80 =>
  (bif r80 then some ((Regs.mk (fun j => 0) 0 0 0),[],1) else (bif (((((((decide (r1.pc < 0)) || (decide (r1.pc ≥ (List.length mI : Int)))) || (decide (r1.exc < (-2)))) || (decide (r1.exc > mE))) || (decide (r1.defer < 0))) || (decide (r1.defer > 1000000))) || (!fine2)) then some ((Regs.mk (fun j => 0) 0 0 0),[],2) else Option.bind (f55 r1.r r1.pc r1.exc r1.defer mI mH mO mE mN mS mU ([] : List Act) xn) fun r82 =>
  Rs.cs r82 (fun e84 => some ((Regs.mk (fun j => 0) 0 0 0),[],e84)) (fun z83 => some ((Regs.mk z83.1 z83.2.1 z83.2.2.1 z83.2.2.2.1),z83.2.2.2.2,0))))
def f44_58 (mI : List Insn) (mH : List MHandler) (mO : List Obj) (mE : Int) (mN : List Int) (mS : List (List Int)) (mU : List Int) (r1 : Regs) (fine2 : Bool) (xn : Int) : Option (Regs × (List Act) × Int) :=
  Option.bind (f47 mI mH mO mE mN mS mU) fun r80 =>
  (bif r80 then some ((Regs.mk (fun j => 0) 0 0 0),[],1) else (bif (((((((decide (r1.pc < 0)) || (decide (r1.pc ≥ (List.length mI : Int)))) || (decide (r1.exc < (-2)))) || (decide (r1.exc > mE))) || (decide (r1.defer < 0))) || (decide (r1.defer > 1000000))) || (!fine2)) then some ((Regs.mk (fun j => 0) 0 0 0),[],2) else Option.bind (f58 r1.r r1.pc r1.exc r1.defer mI mH mO mE mN mS mU ([] : List Act) xn) fun r82 =>
  Rs.cs r82 (fun e84 => some ((Regs.mk (fun j => 0) 0 0 0),[],e84)) (fun z83 => some ((Regs.mk z83.1 z83.2.1 z83.2.2.1 z83.2.2.2),([] : List Act),0))))
def f11 (mI : List Insn) (mH : List MHandler) (mO : List Obj) (mE : Int) (mN : List Int) (mS : List (List Int)) (mU : List Int) (r1 : Regs) : Option (Regs × (List Act) × Int × (List Int) × (List (List Int)) × (List Int)) :=
  Option.bind (f44_45 mI mH mO mE mN mS mU r1 true) fun r16 =>
  some (r16.1,r16.2.1,r16.2.2.1,r16.2.2.2.1,r16.2.2.2.2.1,r16.2.2.2.2.2)
def f20 (mI : List Insn) (mH : List MHandler) (mO : List Obj) (mE : Int) (mN : List Int) (mS : List (List Int)) (mU : List Int) (r1 : Regs) (n2 : Int) : Option (Regs × (List Act) × Int) :=
  letk (fun (t35 : List Act) (t36 : Int) (c4037 : Nat → Int) (c41638 : Int) (c41739 : Int) (c41840 : Int) =>
  some ((Regs.mk c4037 c41638 c41739 c41840),t35,t36)) fun k41 =>
  (bif (decide (n2 ≥ 1)) then Option.bind (f47 mI mH mO mE mN mS mU) fun r42 =>
  (bif (!r42) then Option.bind (f44_55 mI mH mO mE mN mS mU r1 (decide (n2 ≤ mE)) n2) fun r44 =>
  (k41 r44.2.1 r44.2.2 r44.1.r r44.1.pc r44.1.exc r44.1.defer) else Option.bind (f44_55 mI mH mO mE mN mS mU r1 false n2) fun r46 =>
  (k41 r46.2.1 r46.2.2 r46.1.r r46.1.pc r46.1.exc r46.1.defer)) else Option.bind (f44_55 mI mH mO mE mN mS mU r1 false n2) fun r48 =>
  (k41 r48.2.1 r48.2.2 r48.1.r r48.1.pc r48.1.exc r48.1.defer))
def f22 (mI : List Insn) (mH : List MHandler) (mO : List Obj) (mE : Int) (mN : List Int) (mS : List (List Int)) (mU : List Int) (r1 : Regs) (c2 : Int) : Option (Regs × Int) :=
  letk (fun (e44 : Int) (c5045 : Nat → Int) (c51646 : Int) (c51747 : Int) (c51848 : Int) =>
  some ((Regs.mk c5045 c51646 c51747 c51848),e44)) fun k49 =>
  (bif (decide (c2 ≥ (-2))) then (bif (!decide (c2 = 0)) then Option.bind (f47 mI mH mO mE mN mS mU) fun r50 =>
  (bif (!r50) then Option.bind (f44_58 mI mH mO mE mN mS mU r1 (decide (c2 ≤ mE)) c2) fun r52 =>
  (k49 r52.2.2 r52.1.r r52.1.pc r52.1.exc r52.1.defer) else Option.bind (f44_58 mI mH mO mE mN mS mU r1 false c2) fun r54 =>
  (k49 r54.2.2 r54.1.r r54.1.pc r54.1.exc r54.1.defer)) else Option.bind (f44_58 mI mH mO mE mN mS mU r1 false c2) fun r56 =>
  (k49 r56.2.2 r56.1.r r56.1.pc r56.1.exc r56.1.defer)) else Option.bind (f44_58 mI mH mO mE mN mS mU r1 false c2) fun r58 =>
  (k49 r58.2.2 r58.1.r r58.1.pc r58.1.exc r58.1.defer))
def f24 (mI : List Insn) (mH : List MHandler) (mO : List Obj) (mE : Int) (mN : List Int) (mS : List (List Int)) (mU : List Int) (o1 : Int) (k2 : Int) : Option (Int × Int) :=
  Option.bind (f47 mI mH mO mE mN mS mU) fun r24 =>
  (bif r24 then some (0,1) else letk (fun (_ : Unit) =>
  some (0,4)) fun k27 =>
  letk (fun (_ : Unit) =>
  Option.bind (idx mS o1) fun x33 =>
  Option.bind (idx x33 k2) fun v34 =>
  some (v34,0)) fun k28 =>
  Option.bind (bif (((decide (o1 < 0)) || (decide (o1 ≥ (List.length mS : Int)))) || (decide (k2 < 0))) then some true else (Option.bind (idx mS o1) fun x30 => some (decide (k2 ≥ (List.length x30 : Int))))) fun b29 =>
  (bif b29 then (k27 ()) else Option.bind (idx mS o1) fun x31 =>
  Option.bind (idx x31 k2) fun v32 =>
  (k28 ())))
def f26 (mI : List Insn) (mH : List MHandler) (mO : List Obj) (mE : Int) (mN : List Int) (mS : List (List Int)) (mU : List Int) (o1 : Int) (k2 : Int) (v3 : Int) : Option (Int × (List (List Int))) :=
  Option.bind (f47 mI mH mO mE mN mS mU) fun r38 =>
  (bif r38 then some (1,mS) else letk (fun (_ : Unit) =>
  some (4,mS)) fun k41 =>
  letk (fun (_ : Unit) =>
  Option.bind (idx mO o1) fun x47 =>
  Option.bind (f63 x47 v3) fun r48 =>
  (bif (!r48) then some (280,mS) else Option.bind (idx mS o1) fun x49 =>
  Option.bind (idx x49 k2) fun v50 =>
  some (0,(List.set mS (Int.toNat o1) (List.set x49 (Int.toNat k2) v3))))) fun k42 =>
  Option.bind (bif (((decide (o1 < 0)) || (decide (o1 ≥ (List.length mS : Int)))) || (decide (k2 < 0))) then some true else (Option.bind (idx mS o1) fun x44 => some (decide (k2 ≥ (List.length x44 : Int))))) fun b43 =>
  (bif b43 then (k41 ()) else Option.bind (idx mS o1) fun x45 =>
  Option.bind (idx x45 k2) fun v46 =>
  (k42 ())))
def f42 (s0 : List Int) : Option (List Int):=guardB (appOk 8 [] s0) (some s0)
def f42c (s0 : List Int) : Option (List Int):=guardB (appOk 8 [] s0) (some s0)
def f42m (s0 : List (List Int)) (j0 : Int) : Option (List Int):=Option.bind (idx s0 j0) fun M => guardB (appOk 8 [] M) (some M)
def f28_l1 (mS : List (List Int)) (k37 : (List (List Int)) → Option (List (List Int))) : Nat → Int → (List (List Int)) → Option (List (List Int))
  | 0,_,_ => none
  | n+1,t40,l41 =>
  (bif (decide (t40 < (List.length mS : Int))) then Option.bind (idx mS t40) fun x44 =>
  Option.bind (f42m mS t40) fun r45 =>
  Option.bind (idx l41 t40) fun x47 =>
  (f28_l1 mS k37 n (IntKind.i64.wrap (t40 + 1)) (List.set l41 (Int.toNat t40) r45)) else (k37 l41))
def f28 (mI : List Insn) (mH : List MHandler) (mO : List Obj) (mE : Int) (mN : List Int) (mS : List (List Int)) (mU : List Int) : Option (List (List Int)) :=
  Option.bind (f47 mI mH mO mE mN mS mU) fun r33 =>
  (bif r33 then some [] else guardB (mkOk 24 (List.length mS : Int)) <|
  letk (fun (l36 : List (List Int)) =>
  some l36) fun k37 =>
  (f28_l1 mS k37 (Int.toNat ((List.length mS : Int) - 0) + 1) 0 (List.replicate (Int.toNat (List.length mS : Int)) ([] : List Int))))
def f13 (mI : List Insn) (mH : List MHandler) (mO : List Obj) (mE : Int) (mN : List Int) (mS : List (List Int)) (mU : List Int) : Option (List Int) :=
  Option.bind (f47 mI mH mO mE mN mS mU) fun r12 =>
  (bif r12 then some [] else Option.bind (f42 mN) fun r14 =>
  some r14)
def f15 (mI : List Insn) (mH : List MHandler) (mO : List Obj) (mE : Int) (mN : List Int) (mS : List (List Int)) (mU : List Int) : Option (List Int) :=
  Option.bind (f47 mI mH mO mE mN mS mU) fun r12 =>
  (bif r12 then some [] else Option.bind (f42c mU) fun r14 =>
  some r14)
def f158_l1 (s0 : List Int) (cb1 : Int → Option (Bool)) (k22 : Unit → Option (Int)) : Nat → Int → Option (Int)
  | 0,_ => none
  | n+1,t24 =>
  (bif (decide (t24 < (List.length s0 : Int))) then Option.bind (idx s0 t24) fun x26 =>
  Option.bind (cb1 x26) fun r27 =>
  (bif r27 then some t24 else (f158_l1 s0 cb1 k22 n (IntKind.i64.wrap (t24 + 1)))) else (k22 ()))
def f158 (s0 : List Int) (cb1 : Int → Option (Bool)) : Option Int :=
  letk (fun (_ : Unit) =>
  some (-1)) fun k22 =>
  (f158_l1 s0 cb1 k22 (Int.toNat ((List.length s0 : Int) - 0) + 1) 0)
def f128 (s0 : List Int) (cb1 : Int → Option (Bool)) : Option Bool :=
  Option.bind (f158 s0 cb1) fun r12 =>
  some (decide (r12 ≥ 0))
def f129 (n0 : Int) (cap1 : Int) : Bool :=
  (decide ((IntKind.i64.wrap (n0 + 1)) = cap1))
def f79 (o0 : Obj) (v1 : Int) : Option Bool :=
  (bif o0.ptr then Option.bind (bif (decide (v1 = 0)) then some true else (Option.bind (f128 o0.set_ (fun z0 => some (f129 z0 v1))) fun r29 => some r29)) fun b28 =>
  some b28 else some ((decide (v1 ≥ o0.lo)) && (decide (v1 ≤ o0.hi))))
def f110_l1 (t0 : View) (o1 : Obj) (k80 : Unit → Option (Bool)) : Nat → Int → Int → Option (Bool)
  | 0,_,_ => none
  | n+1,last83,t84 =>
  (bif (decide (t84 < (List.length o1.set_ : Int))) then Option.bind (idx o1.set_ t84) fun x87 =>
  Option.bind (bif ((decide (x87 ≤ last83)) || (decide (x87 ≥ (List.length t0.text.objs : Int)))) then some true else (Option.bind (idx t0.text.objs x87) fun x89 => some (!decide (x89.size = 1)))) fun b88 =>
  Option.bind (bif b88 then some true else (Option.bind (idx t0.text.objs x87) fun x91 => some x91.ptr)) fun b90 =>
  (bif b90 then some false else (f110_l1 t0 o1 k80 n x87 (IntKind.i64.wrap (t84 + 1)))) else (k80 ()))
def f110 (t0 : View) (o1 : Obj) : Option Bool :=
  (bif (((decide (o1.size < 1)) || (decide (o1.size > 16384))) || (decide (o1.lo > o1.hi))) then some false else (bif (!o1.ptr) then some (decide ((List.length o1.set_ : Int) = 0)) else letk (fun (_ : Unit) =>
  some ((decide (o1.lo = 0)) && (decide (o1.hi = 0)))) fun k80 =>
  (f110_l1 t0 o1 k80 (Int.toNat ((List.length o1.set_ : Int) - 0) + 1) (-1) 0)))
def f111 (t0 : View) (o1 : Int) (from2 : Int) (many3 : Int) : Option Bool :=
  Option.bind (bif (((decide (o1 ≥ 0)) && (decide (o1 < (List.length t0.text.objs : Int)))) && (decide (from2 ≥ 0))) then (Option.bind (idx t0.text.objs o1) fun x42 => some (decide (from2 ≤ (IntKind.i64.wrap (x42.size - many3))))) else some false) fun b41 =>
  some b41
def f68_l1 (t0 : View) (k91 : Int → Option (Bool)) : Nat → Int → Int → Option (Bool)
  | 0,_,_ => none
  | n+1,n94,t95 =>
  (bif (decide (t95 < (List.length t0.text.objs : Int))) then Option.bind (idx t0.text.objs t95) fun x98 =>
  Option.bind (f110 t0 x98) fun r99 =>
  (bif (!r99) then some false else (f68_l1 t0 k91 n (IntKind.i64.wrap (n94 + x98.size)) (IntKind.i64.wrap (t95 + 1)))) else (k91 n94))
def f68_l2 (t0 : View) (k101 : (List ((Int × Int) × Bool)) → Option (Bool)) : Nat → Int → (List ((Int × Int) × Bool)) → Option (Bool)
  | 0,_,_ => none
  | n+1,t104,m105 =>
  (bif (decide (t104 < (List.length t0.text.inits : Int))) then Option.bind (idx t0.text.inits t104) fun x108 =>
  Option.bind (bif (Option.getD (mpGet m105 (x108.o,x108.slot)) false) then some true else (Option.bind (f111 t0 x108.o x108.slot 1) fun r110 => some (!r110))) fun b109 =>
  Option.bind (bif b109 then some true else (Option.bind (idx t0.text.objs x108.o) fun x112 => Option.bind (f79 x112 x108.v) fun r113 => some (!r113))) fun b111 =>
  (bif b111 then some false else (f68_l2 t0 k101 n (IntKind.i64.wrap (t104 + 1)) (mpPut m105 (x108.o,x108.slot) true))) else (k101 m105))
def f68 (t0 : View) : Option Bool :=
  (bif (((decide ((List.length t0.text.objs : Int) > 4096)) || (decide (t0.text.excs < 4))) || (decide (t0.text.excs > 64))) then some false else letk (fun (n90 : Int) =>
  letk (fun (m100 : List ((Int × Int) × Bool)) =>
  some (decide (n90 ≤ 65536))) fun k101 =>
  (f68_l2 t0 k101 (Int.toNat ((List.length t0.text.inits : Int) - 0) + 1) 0 ([] : List ((Int × Int) × Bool)))) fun k91 =>
  (f68_l1 t0 k91 (Int.toNat ((List.length t0.text.objs : Int) - 0) + 1) 0 0))
def f112 (t0 : View) (a1 : Int) : Bool :=
  ((decide (a1 ≥ 0)) && (decide (a1 < (List.length t0.text.insns : Int))))
def f149_l1 (s0 : List Entry) (cb1 : Entry → Option (Bool)) (k22 : Unit → Option (Int)) : Nat → Int → Option (Int)
  | 0,_ => none
  | n+1,t24 =>
  (bif (decide (t24 < (List.length s0 : Int))) then Option.bind (idx s0 t24) fun x26 =>
  Option.bind (cb1 x26) fun r27 =>
  (bif r27 then some t24 else (f149_l1 s0 cb1 k22 n (IntKind.i64.wrap (t24 + 1)))) else (k22 ()))
def f149 (s0 : List Entry) (cb1 : Entry → Option (Bool)) : Option Int :=
  letk (fun (_ : Unit) =>
  some (-1)) fun k22 =>
  (f149_l1 s0 cb1 k22 (Int.toNat ((List.length s0 : Int) - 0) + 1) 0)
def f113 (s0 : List Entry) (cb1 : Entry → Option (Bool)) : Option Bool :=
  Option.bind (f149 s0 cb1) fun r12 =>
  some (decide (r12 ≥ 0))
def f150 (o0 : Int) (cap1 : View) : Option Bool :=
  Option.bind (bif ((decide (o0 < 0)) || (decide (o0 ≥ (List.length cap1.text.objs : Int)))) then some true else (Option.bind (idx cap1.text.objs o0) fun x27 => some (!decide (x27.size = 1)))) fun b26 =>
  some b26
def f115 (t0 : View) (l1 : List Int) : Option Bool :=
  Option.bind (bif (decide ((List.length l1 : Int) ≤ 8)) then (Option.bind (f128 l1 (fun z0 => f150 z0 t0)) fun r18 => some (!r18)) else some false) fun b17 =>
  some b17
def f114 (e0 : Entry) (cap1 : View) : Option Bool :=
  Option.bind (f115 cap1 e0.ins) fun r18 =>
  Option.bind (bif (!r18) then some true else (Option.bind (f115 cap1 e0.outs) fun r20 => some (!r20))) fun b19 =>
  some b19
def f69_l1 (t0 : View) (k63 : Unit → Option (Bool)) : Nat → Int → Option (Bool)
  | 0,_ => none
  | n+1,t65 =>
  (bif (decide (t65 < (List.length t0.text.tasks : Int))) then Option.bind (idx t0.text.tasks t65) fun x67 =>
  (bif ((((((decide (x67.prio < 0)) || (decide (x67.prio > 31))) || (!(f112 t0 x67.at_))) || (decide (x67.deadline < 0))) || (decide (x67.deadline > 2147483647))) || (decide ((List.length x67.entries : Int) > 8))) then some false else Option.bind (f113 x67.entries (fun z0 => f114 z0 t0)) fun r68 =>
  (bif r68 then some false else (f69_l1 t0 k63 n (IntKind.i64.wrap (t65 + 1))))) else (k63 ()))
def f69 (t0 : View) : Option Bool :=
  (bif ((decide ((List.length t0.text.tasks : Int) < 1)) || (decide ((List.length t0.text.tasks : Int) > 32))) then some false else letk (fun (_ : Unit) =>
  some true) fun k63 =>
  (f69_l1 t0 k63 (Int.toNat ((List.length t0.text.tasks : Int) - 0) + 1) 0))
def f70_l2 (t0 : View) (x58 : List Int) (k60 : (List (Int × Bool)) → Option (Bool)) : Nat → Int → (List (Int × Bool)) → Option (Bool)
  | 0,_,_ => none
  | na+1,t63,m64 =>
  (bif (decide (t63 < (List.length x58 : Int))) then Option.bind (idx x58 t63) fun x67 =>
  (bif (((decide (x67 < 1)) || (decide (x67 ≥ (List.length t0.text.tasks : Int)))) || (Option.getD (mpGet m64 x67) false)) then some false else (f70_l2 t0 x58 k60 na (IntKind.i64.wrap (t63 + 1)) (mpPut m64 x67 true))) else (k60 m64))
def f70_l1 (t0 : View) (k52 : Unit → Option (Bool)) : Nat → Int → Option (Bool)
  | 0,_ => none
  | n+1,t54 =>
  (bif (decide (t54 < (List.length t0.text.lists : Int))) then letk (fun (m56 : List (Int × Bool)) =>
  (f70_l1 t0 k52 n (IntKind.i64.wrap (t54 + 1)))) fun k57 =>
  Option.bind (idx t0.text.lists t54) fun x58 =>
  letk (fun (m59 : List (Int × Bool)) =>
  (bif (decide ((List.length x58 : Int) > 32)) then some false else (k57 m59))) fun k60 =>
  (f70_l2 t0 x58 k60 (Int.toNat ((List.length x58 : Int) - 0) + 1) 0 ([] : List (Int × Bool))) else (k52 ()))
def f70 (t0 : View) : Option Bool :=
  (bif (decide ((List.length t0.text.lists : Int) > 4096)) then some false else letk (fun (_ : Unit) =>
  some true) fun k52 =>
  (f70_l1 t0 k52 (Int.toNat ((List.length t0.text.lists : Int) - 0) + 1) 0))
def f116s_l1 (rec116 : (List Insn) → (List MHandler) → (List Loop) → (List Select) → (List (List Int)) → (List Obj) → (List Init) → Int → (List MTask) → (List MProt) → (List Check) → Int → Int → CExpr → Int → Option (Bool × (List Insn) × (List MHandler) × (List Loop) × (List Select) × (List (List Int)) × (List Obj) × (List Init) × Int × (List MTask) × (List MProt) × (List Check) × Int × Int)) (e1 : CExpr) (deep2 : Int) (k149 : Int → (List Insn) → (List MHandler) → (List Loop) → (List Select) → (List (List Int)) → (List Obj) → (List Init) → Int → (List MTask) → (List MProt) → (List Check) → Int → Int → Option (Bool × (List Insn) × (List MHandler) × (List Loop) × (List Select) × (List (List Int)) × (List Obj) × (List Init) × Int × (List MTask) × (List MProt) × (List Check) × Int × Int)) (k163 : (List Insn) → (List MHandler) → (List Loop) → (List Select) → (List (List Int)) → (List Obj) → (List Init) → Int → (List MTask) → (List MProt) → (List Check) → Int → Int → Option (Bool × (List Insn) × (List MHandler) × (List Loop) × (List Select) × (List (List Int)) × (List Obj) × (List Init) × Int × (List MTask) × (List MProt) × (List Check) × Int × Int)) : Nat → Int → (List Insn) → (List MHandler) → (List Loop) → (List Select) → (List (List Int)) → (List Obj) → (List Init) → Int → (List MTask) → (List MProt) → (List Check) → Int → Int → Option (Bool × (List Insn) × (List MHandler) × (List Loop) × (List Select) × (List (List Int)) × (List Obj) × (List Init) × Int × (List MTask) × (List MProt) × (List Check) × Int × Int)
  | 0,_,_,_,_,_,_,_,_,_,_,_,_,_,_ => none
  | n+1,t178,c00179,c01180,c02181,c03182,c04183,c05184,c06185,c07186,c08187,c09188,c010189,c011190,c012191 =>
  (bif (decide (t178 < (List.length e1.l : Int))) then Option.bind (idx e1.l t178) fun x206 =>
  letk (fun (t208 : Bool) (c00209 : List Insn) (c01210 : List MHandler) (c02211 : List Loop) (c03212 : List Select) (c04213 : List (List Int)) (c05214 : List Obj) (c06215 : List Init) (c07216 : Int) (c08217 : List MTask) (c09218 : List MProt) (c010219 : List Check) (c011220 : Int) (c012221 : Int) =>
  (bif t208 then (k149 t178 c00209 c01210 c02211 c03212 c04213 c05214 c06215 c07216 c08217 c09218 c010219 c011220 c012221) else (f116s_l1 rec116 e1 deep2 k149 k163 n (IntKind.i64.wrap (t178 + 1)) c00209 c01210 c02211 c03212 c04213 c05214 c06215 c07216 c08217 c09218 c010219 c011220 c012221))) fun k222 =>
  Option.bind (rec116 c00179 c01180 c02181 c03182 c04183 c05184 c06185 c07186 c08187 c09188 c010189 c011190 c012191 x206 (IntKind.i64.wrap (deep2 + 1))) fun r223 =>
  (k222 (!r223.1) r223.2.1 r223.2.2.1 r223.2.2.2.1 r223.2.2.2.2.1 r223.2.2.2.2.2.1 r223.2.2.2.2.2.2.1 r223.2.2.2.2.2.2.2.1 r223.2.2.2.2.2.2.2.2.1 r223.2.2.2.2.2.2.2.2.2.1 r223.2.2.2.2.2.2.2.2.2.2.1 r223.2.2.2.2.2.2.2.2.2.2.2.1 r223.2.2.2.2.2.2.2.2.2.2.2.2.1 r223.2.2.2.2.2.2.2.2.2.2.2.2.2) else (k163 c00179 c01180 c02181 c03182 c04183 c05184 c06185 c07186 c08187 c09188 c010189 c011190 c012191))
def f116s (rec116 : (List Insn) → (List MHandler) → (List Loop) → (List Select) → (List (List Int)) → (List Obj) → (List Init) → Int → (List MTask) → (List MProt) → (List Check) → Int → Int → CExpr → Int → Option (Bool × (List Insn) × (List MHandler) × (List Loop) × (List Select) × (List (List Int)) × (List Obj) × (List Init) × Int × (List MTask) × (List MProt) × (List Check) × Int × Int)) (jv0 : List Insn) (jv1 : List MHandler) (jv2 : List Loop) (jv3 : List Select) (jv4 : List (List Int)) (jv5 : List Obj) (jv6 : List Init) (jv7 : Int) (jv8 : List MTask) (jv9 : List MProt) (jv10 : List Check) (jent : Int) (jleft : Int) (e1 : CExpr) (deep2 : Int) : Option (Bool × (List Insn) × (List MHandler) × (List Loop) × (List Select) × (List (List Int)) × (List Obj) × (List Init) × Int × (List MTask) × (List MProt) × (List Check) × Int × Int) :=
  letk (fun (t97 : Bool) (t98 : Int) (t99 : CExpr) (c21100 : Int) (c22101 : Int) (c23102 : Int) (c24103 : Int) =>
  (bif (((((((((((decide ((IntKind.i64.wrap (jleft - 1)) < 0)) || (decide (deep2 > 64))) || (!t97)) || (!decide ((List.length e1.l : Int) = t98))) || (!decide (e1.op = t99.op))) || (!decide (e1.n = t99.n))) || (!decide (e1.o = t99.o))) || (!decide (e1.off = t99.off))) || (!decide (e1.len = 0))) || (!decide (e1.lo = 0))) || (!decide (e1.hi = 0))) then some (false,jv0,jv1,jv2,jv3,jv4,jv5,jv6,jv7,jv8,jv9,jv10,jent,(IntKind.i64.wrap (jleft - 1))) else letk (fun (t119 : Bool) (c00120 : List Insn) (c01121 : List MHandler) (c02122 : List Loop) (c03123 : List Select) (c04124 : List (List Int)) (c05125 : List Obj) (c06126 : List Init) (c07127 : Int) (c08128 : List MTask) (c09129 : List MProt) (c010130 : List Check) (c011131 : Int) (c012132 : Int) =>
  some ((!t119),c00120,c01121,c02122,c03123,c04124,c05125,c06126,c07127,c08128,c09129,c010130,c011131,c012132)) fun k133 =>
  letk (fun (t135 : Int) (c00136 : List Insn) (c01137 : List MHandler) (c02138 : List Loop) (c03139 : List Select) (c04140 : List (List Int)) (c05141 : List Obj) (c06142 : List Init) (c07143 : Int) (c08144 : List MTask) (c09145 : List MProt) (c010146 : List Check) (c011147 : Int) (c012148 : Int) =>
  (k133 (decide (t135 ≥ 0)) c00136 c01137 c02138 c03139 c04140 c05141 c06142 c07143 c08144 c09145 c010146 c011147 c012148)) fun k149 =>
  letk (fun (c00150 : List Insn) (c01151 : List MHandler) (c02152 : List Loop) (c03153 : List Select) (c04154 : List (List Int)) (c05155 : List Obj) (c06156 : List Init) (c07157 : Int) (c08158 : List MTask) (c09159 : List MProt) (c010160 : List Check) (c011161 : Int) (c012162 : Int) =>
  (k149 (-1) c00150 c01151 c02152 c03153 c04154 c05155 c06156 c07157 c08158 c09159 c010160 c011161 c012162)) fun k163 =>
  (f116s_l1 rec116 e1 deep2 k149 k163 (Int.toNat ((List.length e1.l : Int) - 0) + 1) 0 jv0 jv1 jv2 jv3 jv4 jv5 jv6 jv7 jv8 jv9 jv10 jent (IntKind.i64.wrap (jleft - 1))))) fun k104 =>
  letk (fun (parts105 : Int) (c21106 : Int) (c22107 : Int) (c23108 : Int) (c24109 : Int) =>
  (k104 true parts105 (CExpr.mk e1.kind c21106 c22107 c23108 c24109 0 0 0 []) c21106 c22107 c23108 c24109)) fun k110 =>
  (bif (decide (e1.kind = 1)) then (k110 0 0 e1.n 0 0) else (bif (decide (e1.kind = 2)) then Option.bind (f111 (View.mk (Text.mk jv0 jv1 jv2 jv3 jv4 jv5 jv6 jv7 jv8 jv9 jv10)) e1.o e1.off 1) fun r111 =>
  Option.bind (bif (!r111) then some true else (Option.bind (idx jv5 e1.o) fun x113 => some x113.ptr)) fun b112 =>
  (bif b112 then (k104 false 0 (CExpr.mk e1.kind 0 0 0 0 0 0 0 []) 0 0 0 0) else (k110 0 0 0 e1.o e1.off)) else (bif (decide (e1.kind = 14)) then letk (fun (ok114 : Bool) =>
  (k104 ok114 0 (CExpr.mk e1.kind 0 e1.n 0 0 0 0 0 []) 0 e1.n 0 0)) fun k115 =>
  (bif (decide (e1.n ≥ 0)) then (k115 (decide (e1.n < jent))) else (k115 false)) else (bif (decide (e1.kind = 4)) then (k110 1 18 0 0 0) else (bif (decide (e1.kind = 5)) then (k110 2 (if (if 15 < e1.op then 15 else e1.op) > 7 then (if 15 < e1.op then 15 else e1.op) else 7) 0 0 0) else letk (fun (t116 : Bool) =>
  (bif t116 then (k110 2 0 0 0 0) else (k104 false 0 (CExpr.mk e1.kind 0 0 0 0 0 0 0 []) 0 0 0 0))) fun k117 =>
  (bif (decide (e1.kind = 6)) then (k117 (decide (e1.kind = 6))) else (k117 (decide (e1.kind = 7)))))))))
def f116 : Nat → (List Insn) → (List MHandler) → (List Loop) → (List Select) → (List (List Int)) → (List Obj) → (List Init) → Int → (List MTask) → (List MProt) → (List Check) → Int → Int → CExpr → Int → Option (Bool × (List Insn) × (List MHandler) × (List Loop) × (List Select) × (List (List Int)) × (List Obj) × (List Init) × Int × (List MTask) × (List MProt) × (List Check) × Int × Int)
  | 0 => fun _ _ _ _ _ _ _ _ _ _ _ _ _ _ _ => none
  | n + 1 => f116s (f116 n)
def f71_l2 (t0 : View) (k62 : Int → (List CExpr) → Option (Bool)) (x63 : MProt) : Nat → Int → Option (Bool)
  | 0,_ => none
  | na+1,t65 =>
  (bif (decide (t65 < (List.length x63.barriers : Int))) then Option.bind (idx x63.barriers t65) fun x67 =>
  Option.bind (f116 66 t0.text.insns t0.text.handlers t0.text.loops t0.text.selects t0.text.lists t0.text.objs t0.text.inits t0.text.excs t0.text.tasks t0.text.prots t0.text.checks (List.length x63.barriers : Int) 256 x67 1) fun r68 =>
  (bif (!r68.1) then some false else (f71_l2 t0 k62 x63 na (IntKind.i64.wrap (t65 + 1)))) else (k62 x63.ceiling x63.barriers))
def f71_l1 (t0 : View) (k56 : Unit → Option (Bool)) : Nat → Int → Option (Bool)
  | 0,_ => none
  | n+1,t58 =>
  (bif (decide (t58 < (List.length t0.text.prots : Int))) then letk (fun (c0060 : Int) (c0161 : List CExpr) =>
  (f71_l1 t0 k56 n (IntKind.i64.wrap (t58 + 1)))) fun k62 =>
  Option.bind (idx t0.text.prots t58) fun x63 =>
  (bif (((decide (x63.ceiling < 0)) || (decide (x63.ceiling > 31))) || (decide ((List.length x63.barriers : Int) > 8))) then some false else (f71_l2 t0 k62 x63 (Int.toNat ((List.length x63.barriers : Int) - 0) + 1) 0)) else (k56 ()))
def f71 (t0 : View) : Option Bool :=
  letk (fun (_ : Unit) =>
  some (decide ((List.length t0.text.prots : Int) ≤ 32))) fun k56 =>
  (f71_l1 t0 k56 (Int.toNat ((List.length t0.text.prots : Int) - 0) + 1) 0)
def f155 (n0 : Int) (cap1 : View) (cap2 : Int) : Option Bool :=
  Option.bind (f111 cap1 cap2 n0 1) fun r11 =>
  some r11
def f119 (t0 : View) (obj1 : Int) (a2 : MAlt) : Option Bool :=
  Option.bind (bif (!(f112 t0 a2.at_)) then some true else (Option.bind (bif (!decide (a2.guard = (-1))) then (Option.bind (f155 a2.guard t0 obj1) fun r72 => some (!r72)) else some false) fun b71 => some b71)) fun b70 =>
  (bif b70 then some false else (bif (decide (a2.kind = 1)) then some (((decide (a2.entry ≥ 0)) && (decide (a2.entry < 8))) && (decide (a2.time = 0))) else letk (fun (t73 : Bool) =>
  (bif t73 then Option.bind (bif (decide (a2.entry = 0)) then (Option.bind (f155 a2.time t0 obj1) fun r76 => some r76) else some false) fun b75 =>
  some b75 else some ((decide (a2.kind = 4)) && (decide ((IntKind.i64.wrap (BitVec.ofInt IntKind.i64.bits a2.entry ||| BitVec.ofInt IntKind.i64.bits a2.time).toNat) = 0))))) fun k74 =>
  (bif (decide (a2.kind = 2)) then (k74 (decide (a2.kind = 2))) else (k74 (decide (a2.kind = 3))))))
def f72_l2 (t0 : View) (x65 : Select) (k71 : Int → Option (Bool)) (k72 : Unit → Option (Bool)) : Nat → Int → Option (Bool)
  | 0,_ => none
  | na+1,t74 =>
  (bif (decide (t74 < (List.length x65.alts : Int))) then Option.bind (idx x65.alts t74) fun x76 =>
  letk (fun (t78 : Bool) =>
  (bif t78 then (k71 t74) else (f72_l2 t0 x65 k71 k72 na (IntKind.i64.wrap (t74 + 1))))) fun k79 =>
  Option.bind (f119 t0 x65.obj x76) fun r80 =>
  (k79 (!r80)) else (k72 ()))
def f72_l1 (t0 : View) (k61 : Unit → Option (Bool)) : Nat → Int → Option (Bool)
  | 0,_ => none
  | n+1,t63 =>
  (bif (decide (t63 < (List.length t0.text.selects : Int))) then Option.bind (idx t0.text.selects t63) fun x65 =>
  (bif (((((decide ((List.length x65.alts : Int) < 1)) || (decide ((List.length x65.alts : Int) > 16))) || (decide (x65.obj < 0))) || (decide (x65.obj ≥ (List.length t0.text.objs : Int)))) || ((!decide (x65.else_ = (-1))) && (!(f112 t0 x65.else_)))) then some false else letk (fun (t67 : Bool) =>
  (bif t67 then some false else (f72_l1 t0 k61 n (IntKind.i64.wrap (t63 + 1))))) fun k68 =>
  letk (fun (t70 : Int) =>
  (k68 (decide (t70 ≥ 0)))) fun k71 =>
  letk (fun (_ : Unit) =>
  (k71 (-1))) fun k72 =>
  (f72_l2 t0 x65 k71 k72 (Int.toNat ((List.length x65.alts : Int) - 0) + 1) 0)) else (k61 ()))
def f72 (t0 : View) : Option Bool :=
  (bif (decide ((List.length t0.text.selects : Int) > 1024)) then some false else letk (fun (_ : Unit) =>
  some true) fun k61 =>
  (f72_l1 t0 k61 (Int.toNat ((List.length t0.text.selects : Int) - 0) + 1) 0))
def f120 (h0 : MHandler) (a1 : Int) : Bool :=
  ((decide (h0.from_ ≤ a1)) && (decide (a1 < h0.to)))
def f73_l2 (t0 : View) (t97 : Int) (k103 : Int → Int → Int → Bool → Option (Bool)) (x104 : MHandler) : Nat → Int → Option (Bool)
  | 0,_ => none
  | na+1,t107 =>
  (bif (decide (t107 < (List.length (sliceF t0.text.handlers 0 t97) : Int))) then Option.bind (idx (sliceF t0.text.handlers 0 t97) t107) fun x109 =>
  (bif ((!((decide (x109.from_ ≥ x104.from_)) && (decide (x109.to ≤ x104.to)))) && (decide ((if x104.from_ > x109.from_ then x104.from_ else x109.from_) < (if x104.to < x109.to then x104.to else x109.to)))) then some false else (f73_l2 t0 t97 k103 x104 na (IntKind.i64.wrap (t107 + 1)))) else (k103 x104.from_ x104.to x104.at_ x104.clean))
def f73_l1 (t0 : View) (k95 : Unit → Option (Bool)) : Nat → Int → Option (Bool)
  | 0,_ => none
  | n+1,t97 =>
  (bif (decide (t97 < (List.length t0.text.handlers : Int))) then letk (fun (c0099 : Int) (c01100 : Int) (c02101 : Int) (c03102 : Bool) =>
  (f73_l1 t0 k95 n (IntKind.i64.wrap (t97 + 1)))) fun k103 =>
  Option.bind (idx t0.text.handlers t97) fun x104 =>
  (bif (((((decide (x104.from_ < 0)) || (decide (x104.from_ ≥ x104.to))) || (decide (x104.to > (List.length t0.text.insns : Int)))) || (!(f112 t0 x104.at_))) || (f120 x104 x104.at_)) then some false else guardB (sliceOk t0.text.handlers 0 t97) <|
  (f73_l2 t0 t97 k103 x104 (Int.toNat ((List.length (sliceF t0.text.handlers 0 t97) : Int) - 0) + 1) 0)) else (k95 ()))
def f73 (t0 : View) : Option Bool :=
  (bif (decide ((List.length t0.text.handlers : Int) > 4096)) then some false else letk (fun (_ : Unit) =>
  some true) fun k95 =>
  (f73_l1 t0 k95 (Int.toNat ((List.length t0.text.handlers : Int) - 0) + 1) 0))
def f121 (x0 : Insn) (head1 : Int) : Bool :=
  ((((decide (x0.op = 29)) || (decide (x0.op = 30))) || (decide (x0.op = 31))) && (decide (x0.to = head1)))
def f74_l1 (t0 : View) (k73 : (List (Int × Bool)) → Option (Bool)) : Nat → Int → (List (Int × Bool)) → Option (Bool)
  | 0,_,_ => none
  | n+1,t76,m77 =>
  (bif (decide (t76 < (List.length t0.text.loops : Int))) then Option.bind (idx t0.text.loops t76) fun x80 =>
  Option.bind (bif ((((decide (x80.head < 0)) || (decide (x80.head > x80.back))) || (!(f112 t0 x80.back))) || (Option.getD (mpGet m77 x80.back) false)) then some true else (Option.bind (idx t0.text.insns x80.back) fun x82 => some (!(f121 x82 x80.head)))) fun b81 =>
  (bif ((b81 || (decide (x80.bound < 0))) || (decide (x80.bound > 2147483647))) then some false else (f74_l1 t0 k73 n (IntKind.i64.wrap (t76 + 1)) (mpPut m77 x80.back true))) else (k73 m77))
def f74 (t0 : View) : Option Bool :=
  (bif (decide ((List.length t0.text.loops : Int) > 4096)) then some false else letk (fun (m72 : List (Int × Bool)) =>
  some true) fun k73 =>
  (f74_l1 t0 k73 (Int.toNat ((List.length t0.text.loops : Int) - 0) + 1) 0 ([] : List (Int × Bool))))
def f122 (t0 : View) (a1 : Int) : Option Bool :=
  Option.bind (bif (f112 t0 a1) then (Option.bind (idx t0.text.insns a1) fun x32 => Option.bind (bif (decide (x32.op = 27)) then some true else (Option.bind (idx t0.text.insns a1) fun x34 => some (decide (x34.op = 28)))) fun b33 => some b33) else some false) fun b31 =>
  some b31
def f75_l1 (t0 : View) (k40 : Unit → Option (Bool)) : Nat → Int → Int → Option (Bool)
  | 0,_,_ => none
  | n+1,last43,t44 =>
  (bif (decide (t44 < (List.length t0.text.checks : Int))) then Option.bind (idx t0.text.checks t44) fun x47 =>
  Option.bind (bif (decide (x47.at_ ≤ last43)) then some true else (Option.bind (f122 t0 x47.at_) fun r49 => some (!r49))) fun b48 =>
  (bif ((b48 || (decide (x47.kind < 1))) || (decide (x47.kind > 5))) then some false else (f75_l1 t0 k40 n x47.at_ (IntKind.i64.wrap (t44 + 1)))) else (k40 ()))
def f75 (t0 : View) : Option Bool :=
  letk (fun (_ : Unit) =>
  some true) fun k40 =>
  (f75_l1 t0 k40 (Int.toNat ((List.length t0.text.checks : Int) - 0) + 1) (-1) 0)
def f123_l1 (s0 : List Insn) (cb1 : Insn → Option (Bool)) (k22 : Unit → Option (Int)) : Nat → Int → Option (Int)
  | 0,_ => none
  | n+1,t24 =>
  (bif (decide (t24 < (List.length s0 : Int))) then Option.bind (idx s0 t24) fun x26 =>
  Option.bind (cb1 x26) fun r27 =>
  (bif r27 then some t24 else (f123_l1 s0 cb1 k22 n (IntKind.i64.wrap (t24 + 1)))) else (k22 ()))
def f123 (s0 : List Insn) (cb1 : Insn → Option (Bool)) : Option Int :=
  letk (fun (_ : Unit) =>
  some (-1)) fun k22 =>
  (f123_l1 s0 cb1 k22 (Int.toNat ((List.length s0 : Int) - 0) + 1) 0)
def f76 (s0 : List Insn) (cb1 : Insn → Option (Bool)) : Option Bool :=
  Option.bind (f123 s0 cb1) fun r12 =>
  some (decide (r12 ≥ 0))
def f156 (o0 : Int) : Option (Row224 × Bool) :=
  (bif ((decide (o0 < 1)) || (decide ((IntKind.i64.wrap o0) > 57))) then some ((Row224.mk ByteArray.empty ByteArray.empty),false) else Option.bind (idx insnRows (IntKind.u8.wrap (o0 - 1))) fun x18 =>
  some (x18,true))
def f176_l1 (s0 : ByteArray) (k110 : Int → Int → Option (List ByteArray)) : Nat → Int → Int → Int → Int → Option (List ByteArray)
  | 0,_,_,_,_ => none
  | n+1,n115,wasSpace116,setBits117,iq118 =>
  (bif (decide (iq118 < (s0.size : Int))) then Option.bind (sIdx s0 iq118) fun x123 =>
  Option.bind (idx asciiTab x123) fun x124 =>
  (f176_l1 s0 k110 n (IntKind.i64.wrap (n115 + (IntKind.i64.wrap (BitVec.ofInt IntKind.i64.bits wasSpace116 &&& BitVec.ofInt IntKind.i64.bits (IntKind.i64.wrap (BitVec.ofInt IntKind.i64.bits (-1) ^^^ BitVec.ofInt IntKind.i64.bits (IntKind.i64.wrap x124)).toNat)).toNat))) (IntKind.i64.wrap x124) (IntKind.u8.wrap (BitVec.ofInt IntKind.u8.bits setBits117 ||| BitVec.ofInt IntKind.u8.bits x123).toNat) (IntKind.i64.wrap (iq118 + 1))) else (k110 n115 setBits117))
def f176_l2 (s0 : ByteArray) (k127 : Int → Option (List ByteArray)) : Nat → Int → Option (List ByteArray)
  | 0,_ => none
  | n+1,iq129 =>
  Option.bind (bif (decide (iq129 < (s0.size : Int))) then (Option.bind (sIdx s0 iq129) fun x132 => Option.bind (idx asciiTab x132) fun x133 => some (!decide (x133 = 0))) else some false) fun b131 =>
  (bif b131 then (f176_l2 s0 k127 n (IntKind.i64.wrap (iq129 + 1))) else (k127 iq129))
def f176_l4 (s0 : ByteArray) (k155 : Int → Option (List ByteArray)) : Nat → Int → Option (List ByteArray)
  | 0,_ => none
  | na+1,iq157 =>
  Option.bind (bif (decide (iq157 < (s0.size : Int))) then (Option.bind (sIdx s0 iq157) fun x160 => Option.bind (idx asciiTab x160) fun x161 => some (!decide (x161 = 0))) else some false) fun b159 =>
  (bif b159 then (f176_l4 s0 k155 na (IntKind.i64.wrap (iq157 + 1))) else (k155 iq157))
def f176_l3 (s0 : ByteArray) (k137 : Int → Int → (List ByteArray) → Option (List ByteArray)) : Nat → Int → Int → Int → (List ByteArray) → Option (List ByteArray)
  | 0,_,_,_,_ => none
  | n+1,na142,fieldStart143,iq144,l145 =>
  (bif (decide (iq144 < (s0.size : Int))) then Option.bind (sIdx s0 iq144) fun x150 =>
  Option.bind (idx asciiTab x150) fun x151 =>
  (bif (decide (x151 = 0)) then (f176_l3 s0 k137 n na142 fieldStart143 (IntKind.i64.wrap (iq144 + 1)) l145) else Option.bind (sCut s0 fieldStart143 iq144) fun s152 =>
  Option.bind (idx l145 na142) fun x153 =>
  letk (fun (iq154 : Int) =>
  (f176_l3 s0 k137 n (IntKind.i64.wrap (na142 + 1)) iq154 iq154 (List.set l145 (Int.toNat na142) s152))) fun k155 =>
  (f176_l4 s0 k155 9223372036854775808 (IntKind.i64.wrap (iq144 + 1)))) else (k137 na142 fieldStart143 l145))
def f176 (s0 : ByteArray) : Option (List ByteArray) :=
  letk (fun (n108 : Int) (setBits109 : Int) =>
  (bif (decide (setBits109 ≥ 128)) then none else guardB (mkOk 16 n108) <|
  letk (fun (iq126 : Int) =>
  letk (fun (na134 : Int) (fieldStart135 : Int) (l136 : List ByteArray) =>
  letk (fun (l162 : List ByteArray) =>
  some l162) fun k163 =>
  (bif (decide (fieldStart135 < (s0.size : Int))) then Option.bind (sCut s0 fieldStart135 (s0.size : Int)) fun s164 =>
  Option.bind (idx l136 na134) fun x165 =>
  (k163 (List.set l136 (Int.toNat na134) s164)) else (k163 l136))) fun k137 =>
  (f176_l3 s0 k137 9223372036854775808 0 iq126 iq126 (List.replicate (Int.toNat n108) (ByteArray.empty : ByteArray)))) fun k127 =>
  (f176_l2 s0 k127 9223372036854775808 0))) fun k110 =>
  (f176_l1 s0 k110 9223372036854775808 0 1 0 0)
def f179 (what0 : Int) : Int × Int :=
  (bif (decide (what0 = 114)) then (0,15) else (bif (decide (what0 = 111)) then (0,4095) else (bif (decide (what0 = 115)) then (0,65535) else (bif (decide (what0 = 108)) then (1,65536) else (bif (decide (what0 = 120)) then (1,64) else (bif (decide (what0 = 107)) then (6,7) else (bif (decide (what0 = 101)) then (0,7) else (bif (decide (what0 = 112)) then (0,31) else (bif (decide (what0 = 113)) then ((-1),31) else (bif (decide (what0 = 109)) then (0,3) else (bif (decide (what0 = 106)) then (0,1023) else (bif (decide (what0 = 98)) then (0,1) else ((-9223372036854775808),9223372036854775807)))))))))))))
def f124_l1 (k93 : Int → Int → Int → Int → Int → Int → ByteArray → ByteArray → Int → Int → Int → Int → Option (Bool)) (k106 : Int → Int → Int → Int → Int → Int → ByteArray → ByteArray → Int → Int → Int → Int → Option (Bool)) (k119 : Int → Int → Int → Int → Int → Int → ByteArray → ByteArray → Int → Int → Int → Int → Option (Bool)) (k132 : Int → Int → Int → Int → Int → Int → ByteArray → ByteArray → Int → Int → Int → Int → Option (Bool)) (k145 : Int → Int → Int → Int → Int → Int → ByteArray → ByteArray → Int → Int → Int → Int → Option (Bool)) (k158 : Int → Int → Int → Int → Int → Int → ByteArray → ByteArray → Int → Int → Int → Int → Option (Bool)) (k167 : Int → Int → Int → Int → Int → Int → ByteArray → ByteArray → Option (Bool)) (r168 : Row224 × Bool) (r169 : List ByteArray) : Nat → Int → Int → Int → Int → Int → Int → Int → Option (Bool)
  | 0,_,_,_,_,_,_,_ => none
  | n+1,t177,c21178,c22179,c23180,c24181,c25182,c26183 =>
  (bif (decide (t177 < (List.length r169 : Int))) then Option.bind (idx r169 t177) fun x191 =>
  Option.bind (sIdx x191 0) fun x192 =>
  (bif (decide (x192 = 68)) then letk (fun (_ : Unit) =>
  Option.bind (sIdx x191 1) fun x195 =>
  letk (fun (_ : Unit) =>
  (k93 c21178 c22179 c23180 c24181 c25182 c26183 r168.1.name r168.1.fields ((f179 x195).1) ((f179 x195).2) ((f179 x195).1) ((f179 x195).2))) fun k197 =>
  letk (fun (_ : Unit) =>
  (f124_l1 k93 k106 k119 k132 k145 k158 k167 r168 r169 n (IntKind.i64.wrap (t177 + 1)) 0 c22179 c23180 c24181 c25182 c26183)) fun k198 =>
  letk (fun (_ : Unit) =>
  (bif ((decide (c21178 < ((f179 x195).1))) || (decide (c21178 > ((f179 x195).2)))) then (k197 ()) else letk (fun (_ : Unit) =>
  (k198 ())) fun k202 =>
  (k202 ()))) fun k200 =>
  (k200 ())) fun k194 =>
  (k194 ()) else (bif (decide (x192 = 65)) then letk (fun (_ : Unit) =>
  Option.bind (sIdx x191 1) fun x205 =>
  letk (fun (_ : Unit) =>
  (k106 c21178 c22179 c23180 c24181 c25182 c26183 r168.1.name r168.1.fields ((f179 x205).1) ((f179 x205).2) ((f179 x205).1) ((f179 x205).2))) fun k207 =>
  letk (fun (_ : Unit) =>
  (f124_l1 k93 k106 k119 k132 k145 k158 k167 r168 r169 n (IntKind.i64.wrap (t177 + 1)) c21178 0 c23180 c24181 c25182 c26183)) fun k208 =>
  letk (fun (_ : Unit) =>
  (bif ((decide (c22179 < ((f179 x205).1))) || (decide (c22179 > ((f179 x205).2)))) then (k207 ()) else letk (fun (_ : Unit) =>
  (k208 ())) fun k212 =>
  (k212 ()))) fun k210 =>
  (k210 ())) fun k204 =>
  (k204 ()) else (bif (decide (x192 = 66)) then letk (fun (_ : Unit) =>
  Option.bind (sIdx x191 1) fun x215 =>
  letk (fun (_ : Unit) =>
  (k119 c21178 c22179 c23180 c24181 c25182 c26183 r168.1.name r168.1.fields ((f179 x215).1) ((f179 x215).2) ((f179 x215).1) ((f179 x215).2))) fun k217 =>
  letk (fun (_ : Unit) =>
  (f124_l1 k93 k106 k119 k132 k145 k158 k167 r168 r169 n (IntKind.i64.wrap (t177 + 1)) c21178 c22179 0 c24181 c25182 c26183)) fun k218 =>
  letk (fun (_ : Unit) =>
  (bif ((decide (c23180 < ((f179 x215).1))) || (decide (c23180 > ((f179 x215).2)))) then (k217 ()) else letk (fun (_ : Unit) =>
  (k218 ())) fun k222 =>
  (k222 ()))) fun k220 =>
  (k220 ())) fun k214 =>
  (k214 ()) else (bif (decide (x192 = 78)) then letk (fun (_ : Unit) =>
  Option.bind (sIdx x191 1) fun x225 =>
  letk (fun (_ : Unit) =>
  (k132 c21178 c22179 c23180 c24181 c25182 c26183 r168.1.name r168.1.fields ((f179 x225).1) ((f179 x225).2) ((f179 x225).1) ((f179 x225).2))) fun k227 =>
  letk (fun (_ : Unit) =>
  (f124_l1 k93 k106 k119 k132 k145 k158 k167 r168 r169 n (IntKind.i64.wrap (t177 + 1)) c21178 c22179 c23180 0 c25182 c26183)) fun k228 =>
  letk (fun (_ : Unit) =>
  (bif ((decide (c24181 < ((f179 x225).1))) || (decide (c24181 > ((f179 x225).2)))) then (k227 ()) else letk (fun (_ : Unit) =>
  (k228 ())) fun k232 =>
  (k232 ()))) fun k230 =>
  (k230 ())) fun k224 =>
  (k224 ()) else (bif (decide (x192 = 77)) then letk (fun (_ : Unit) =>
  Option.bind (sIdx x191 1) fun x235 =>
  letk (fun (_ : Unit) =>
  (k145 c21178 c22179 c23180 c24181 c25182 c26183 r168.1.name r168.1.fields ((f179 x235).1) ((f179 x235).2) ((f179 x235).1) ((f179 x235).2))) fun k237 =>
  letk (fun (_ : Unit) =>
  (f124_l1 k93 k106 k119 k132 k145 k158 k167 r168 r169 n (IntKind.i64.wrap (t177 + 1)) c21178 c22179 c23180 c24181 0 c26183)) fun k238 =>
  letk (fun (_ : Unit) =>
  (bif ((decide (c25182 < ((f179 x235).1))) || (decide (c25182 > ((f179 x235).2)))) then (k237 ()) else letk (fun (_ : Unit) =>
  (k238 ())) fun k242 =>
  (k242 ()))) fun k240 =>
  (k240 ())) fun k234 =>
  (k234 ()) else letk (fun (_ : Unit) =>
  Option.bind (sIdx x191 1) fun x245 =>
  letk (fun (_ : Unit) =>
  (k158 c21178 c22179 c23180 c24181 c25182 c26183 r168.1.name r168.1.fields ((f179 x245).1) ((f179 x245).2) ((f179 x245).1) ((f179 x245).2))) fun k247 =>
  letk (fun (_ : Unit) =>
  (f124_l1 k93 k106 k119 k132 k145 k158 k167 r168 r169 n (IntKind.i64.wrap (t177 + 1)) c21178 c22179 c23180 c24181 c25182 0)) fun k248 =>
  letk (fun (_ : Unit) =>
  (bif ((decide (c26183 < ((f179 x245).1))) || (decide (c26183 > ((f179 x245).2)))) then (k247 ()) else letk (fun (_ : Unit) =>
  (k248 ())) fun k252 =>
  (k252 ()))) fun k250 =>
  (k250 ())) fun k244 =>
  (k244 ())))))) else (k167 c21178 c22179 c23180 c24181 c25182 c26183 r168.1.name r168.1.fields))
def f124 (x0 : Insn) : Option Bool :=
  Option.bind (f156 x0.op) fun r68 =>
  (bif ((!r68.2) || ((decide (x0.op = 27)) && (decide (x0.n > x0.m)))) then some false else (bif (((decide (x0.op = 37)) && (decide ((IntKind.u8.wrap x0.n) = 6))) && (!decide (x0.m = 0))) then some false else letk (fun (c2169 : Int) (c2270 : Int) (c2371 : Int) (c2472 : Int) (c2573 : Int) (c2674 : Int) (c5075 : ByteArray) (c5176 : ByteArray) =>
  some (((decide (x0.op = x0.op)) && ((decide (c2169 = 0)) && ((decide (c2270 = 0)) && ((decide (c2371 = 0)) && ((decide (c2472 = 0)) && ((decide (c2573 = 0)) && ((decide (c2674 = 0)) && true))))))))) fun k77 =>
  letk (fun (_ : Unit) =>
  letk (fun (c2181 : Int) (c2282 : Int) (c2383 : Int) (c2484 : Int) (c2585 : Int) (c2686 : Int) (c5087 : ByteArray) (c5188 : ByteArray) (c6289 : Int) (c6390 : Int) (c9291 : Int) (c9392 : Int) =>
  some false) fun k93 =>
  letk (fun (c2194 : Int) (c2295 : Int) (c2396 : Int) (c2497 : Int) (c2598 : Int) (c2699 : Int) (c50100 : ByteArray) (c51101 : ByteArray) (c62102 : Int) (c63103 : Int) (c92104 : Int) (c93105 : Int) =>
  some false) fun k106 =>
  letk (fun (c21107 : Int) (c22108 : Int) (c23109 : Int) (c24110 : Int) (c25111 : Int) (c26112 : Int) (c50113 : ByteArray) (c51114 : ByteArray) (c62115 : Int) (c63116 : Int) (c92117 : Int) (c93118 : Int) =>
  some false) fun k119 =>
  letk (fun (c21120 : Int) (c22121 : Int) (c23122 : Int) (c24123 : Int) (c25124 : Int) (c26125 : Int) (c50126 : ByteArray) (c51127 : ByteArray) (c62128 : Int) (c63129 : Int) (c92130 : Int) (c93131 : Int) =>
  some false) fun k132 =>
  letk (fun (c21133 : Int) (c22134 : Int) (c23135 : Int) (c24136 : Int) (c25137 : Int) (c26138 : Int) (c50139 : ByteArray) (c51140 : ByteArray) (c62141 : Int) (c63142 : Int) (c92143 : Int) (c93144 : Int) =>
  some false) fun k145 =>
  letk (fun (c21146 : Int) (c22147 : Int) (c23148 : Int) (c24149 : Int) (c25150 : Int) (c26151 : Int) (c50152 : ByteArray) (c51153 : ByteArray) (c62154 : Int) (c63155 : Int) (c92156 : Int) (c93157 : Int) =>
  some false) fun k158 =>
  letk (fun (c21159 : Int) (c22160 : Int) (c23161 : Int) (c24162 : Int) (c25163 : Int) (c26164 : Int) (c50165 : ByteArray) (c51166 : ByteArray) =>
  (k77 c21159 c22160 c23161 c24162 c25163 c26164 c50165 c51166)) fun k167 =>
  Option.bind (f156 x0.op) fun r168 =>
  Option.bind (f176 r168.1.fields) fun r169 =>
  (f124_l1 k93 k106 k119 k132 k145 k158 k167 r168 r169 (Int.toNat ((List.length r169 : Int) - 0) + 1) 0 x0.d x0.a x0.b x0.n x0.m x0.to)) fun k79 =>
  (k79 ())))
def f125 (y0 : Insn) : Bool :=
  (!decide (y0.op = 29))
def f126 (t0 : View) (task1 : Int) (n2 : Int) : Option (Int × Bool) :=
  Option.bind (bif (((decide (task1 < 0)) || (decide (task1 ≥ (List.length t0.text.tasks : Int)))) || (decide (n2 < 0))) then some true else (Option.bind (idx t0.text.tasks task1) fun x58 => some (decide (n2 ≥ (List.length x58.entries : Int))))) fun b57 =>
  (bif b57 then some (0,false) else Option.bind (idx t0.text.tasks task1) fun x59 =>
  Option.bind (idx x59.entries n2) fun x60 =>
  some ((IntKind.i64.wrap ((IntKind.i64.wrap ((List.length x60.ins : Int) + (List.length x60.outs : Int))) + 1)),true))
def f127 (t0 : View) (p1 : Int) (n2 : Int) : Option Bool :=
  Option.bind (bif (((decide (p1 ≥ 0)) && (decide (p1 < (List.length t0.text.prots : Int)))) && (decide (n2 ≥ 0))) then (Option.bind (idx t0.text.prots p1) fun x38 => some (decide (n2 < (List.length x38.barriers : Int)))) else some false) fun b37 =>
  some b37
def f78 (t0 : View) (x1 : Insn) : Option Bool :=
  Option.bind (f124 x1) fun r170 =>
  (bif (!r170) then some false else letk (fun (t171 : Bool) =>
  (bif t171 then Option.bind (f111 t0 x1.n x1.m 1) fun r173 =>
  some r173 else letk (fun (t174 : Bool) =>
  (bif t174 then Option.bind (f111 t0 x1.n x1.m x1.b) fun r176 =>
  some r176 else letk (fun (t177 : Bool) =>
  (bif t177 then some (f112 t0 x1.to) else (bif (decide (x1.op = 32)) then Option.bind (bif (decide ((IntKind.i64.wrap (x1.to + x1.m)) ≤ (List.length t0.text.insns : Int))) then (guardB (sliceOk t0.text.insns x1.to (IntKind.i64.wrap (x1.to + x1.m))) <| Option.bind (f76 (sliceF t0.text.insns x1.to (IntKind.i64.wrap (x1.to + x1.m))) (fun z0 => some (f125 z0))) fun r181 => some (!r181)) else some false) fun b179 =>
  some b179 else (bif (decide (x1.op = 33)) then some (decide (x1.n ≤ t0.text.excs)) else letk (fun (t182 : Bool) =>
  (bif t182 then some (decide (x1.n < (List.length t0.text.lists : Int))) else (bif (decide (x1.op = 50)) then some (decide (x1.n < (List.length t0.text.selects : Int))) else (bif (decide (x1.op = 49)) then Option.bind (f126 t0 x1.a x1.b) fun r184 =>
  Option.bind (bif r184.2 then (Option.bind (f111 t0 x1.n 0 r184.1) fun r186 => some r186) else some false) fun b185 =>
  some b185 else (bif (decide (x1.op = 52)) then Option.bind (f126 t0 x1.a x1.b) fun r187 =>
  some (r187.2 && (decide (x1.to < (List.length t0.text.insns : Int)))) else letk (fun (t188 : Bool) =>
  (bif t188 then some (decide (x1.n < (List.length t0.text.prots : Int))) else (bif (decide (x1.op = 54)) then Option.bind (f127 t0 x1.n x1.m) fun r190 =>
  some r190 else (bif (decide (x1.op = 43)) then Option.bind (bif (decide (x1.m < 0)) then some true else (Option.bind (f127 t0 x1.m x1.n) fun r192 => some r192)) fun b191 =>
  some b191 else some true)))) fun k189 =>
  (bif (decide (x1.op = 53)) then (k189 (decide (x1.op = 53))) else (k189 (decide (x1.op = 55))))))))) fun k183 =>
  (bif (decide (x1.op = 44)) then (k183 (decide (x1.op = 44))) else (bif (decide (x1.op = 45)) then (k183 (decide (x1.op = 45))) else (bif (decide (x1.op = 46)) then (k183 (decide (x1.op = 46))) else (k183 (decide (x1.op = 56)))))))))) fun k178 =>
  (bif (decide (x1.op = 29)) then (k178 (decide (x1.op = 29))) else (bif (decide (x1.op = 30)) then (k178 (decide (x1.op = 30))) else (k178 (decide (x1.op = 31))))))) fun k175 =>
  (bif (decide (x1.op = 5)) then (k175 (decide (x1.op = 5))) else (k175 (decide (x1.op = 6)))))) fun k172 =>
  (bif (decide (x1.op = 3)) then (k172 (decide (x1.op = 3))) else (k172 (decide (x1.op = 4)))))
def f37_l1 (t0 : Text) (k82 : Int → Option (Bool)) (k83 : Unit → Option (Bool)) : Nat → Int → Option (Bool)
  | 0,_ => none
  | n+1,t85 =>
  (bif (decide (t85 < (List.length t0.insns : Int))) then Option.bind (idx t0.insns t85) fun x87 =>
  letk (fun (t89 : Bool) =>
  (bif t89 then (k82 t85) else (f37_l1 t0 k82 k83 n (IntKind.i64.wrap (t85 + 1))))) fun k90 =>
  Option.bind (f78 (View.mk t0) x87) fun r91 =>
  (k90 (!r91)) else (k83 ()))
def f37 (t0 : Text) : Option Bool :=
  (bif ((decide ((List.length t0.insns : Int) < 1)) || (decide ((List.length t0.insns : Int) > 65536))) then some false else Option.bind (idx t0.insns (IntKind.i64.wrap ((List.length t0.insns : Int) - 1))) fun x65 =>
  letk (fun (t66 : Bool) =>
  (bif t66 then letk (fun (_ : Unit) =>
  letk (fun (t78 : Bool) =>
  some (!t78)) fun k79 =>
  letk (fun (t81 : Int) =>
  (k79 (decide (t81 ≥ 0)))) fun k82 =>
  letk (fun (_ : Unit) =>
  (k82 (-1))) fun k83 =>
  (f37_l1 t0 k82 k83 (Int.toNat ((List.length t0.insns : Int) - 0) + 1) 0)) fun k68 =>
  Option.bind (f68 (View.mk t0)) fun r69 =>
  (bif (!r69) then some false else Option.bind (f69 (View.mk t0)) fun r70 =>
  (bif (!r70) then some false else Option.bind (f70 (View.mk t0)) fun r71 =>
  (bif (!r71) then some false else Option.bind (f71 (View.mk t0)) fun r72 =>
  (bif (!r72) then some false else Option.bind (f72 (View.mk t0)) fun r73 =>
  (bif (!r73) then some false else Option.bind (f73 (View.mk t0)) fun r74 =>
  (bif (!r74) then some false else Option.bind (f74 (View.mk t0)) fun r75 =>
  (bif (!r75) then some false else Option.bind (f75 (View.mk t0)) fun r76 =>
  (bif (!r76) then some false else (k68 ()))))))))) else some false)) fun k67 =>
  (bif (decide (x65.op = 29)) then (k67 (decide (x65.op = 29))) else (bif (decide (x65.op = 33)) then (k67 (decide (x65.op = 33))) else (bif (decide (x65.op = 34)) then (k67 (decide (x65.op = 34))) else (k67 (decide (x65.op = 57)))))))
def f41_l2 (t80 : Int) (k88 : (List (List Int)) → Option (List (List Int))) (x89 : Obj) (x93 : List Int) : Nat → Int → (List (List Int)) → Option (List (List Int))
  | 0,_,_ => none
  | na+1,t97,l98 =>
  (bif (decide (t97 < (List.length x93 : Int))) then Option.bind (idx l98 t80) fun x103 =>
  Option.bind (idx x103 t97) fun x104 =>
  (f41_l2 t80 k88 x89 x93 na (IntKind.i64.wrap (t97 + 1)) (List.set l98 (Int.toNat t80) (List.set x103 (Int.toNat t97) x89.lo))) else (k88 l98))
def f41_l1 (t0 : Text) (k76 : (List (List Int)) → Option (List (List Int))) : Nat → Int → (List (List Int)) → Option (List (List Int))
  | 0,_,_ => none
  | n+1,t80,l81 =>
  (bif (decide (t80 < (List.length t0.objs : Int))) then letk (fun (l86 : List (List Int)) =>
  (f41_l1 t0 k76 n (IntKind.i64.wrap (t80 + 1)) l86)) fun k88 =>
  Option.bind (idx t0.objs t80) fun x89 =>
  guardB (mkOk 8 x89.size) <|
  Option.bind (idx l81 t80) fun x91 =>
  Option.bind (f79 x89 0) fun r92 =>
  (bif (!r92) then Option.bind (idx (List.set l81 (Int.toNat t80) (List.replicate (Int.toNat x89.size) (0 : Int))) t80) fun x93 =>
  (f41_l2 t80 k88 x89 x93 (Int.toNat ((List.length x93 : Int) - 0) + 1) 0 (List.set l81 (Int.toNat t80) (List.replicate (Int.toNat x89.size) (0 : Int)))) else (k88 (List.set l81 (Int.toNat t80) (List.replicate (Int.toNat x89.size) (0 : Int))))) else (k76 l81))
def f41_l3 (t0 : Text) (k107 : (List (List Int)) → Option (List (List Int))) : Nat → Int → (List (List Int)) → Option (List (List Int))
  | 0,_,_ => none
  | n+1,t111,l112 =>
  (bif (decide (t111 < (List.length t0.inits : Int))) then Option.bind (idx t0.inits t111) fun x117 =>
  Option.bind (idx l112 x117.o) fun x118 =>
  Option.bind (idx x118 x117.slot) fun x119 =>
  (f41_l3 t0 k107 n (IntKind.i64.wrap (t111 + 1)) (List.set l112 (Int.toNat x117.o) (List.set x118 (Int.toNat x117.slot) x117.v))) else (k107 l112))
def f41 (t0 : Text) : Option (List (List Int)) :=
  Option.bind (f37 t0) fun r72 =>
  (bif (!r72) then none else guardB (mkOk 24 (List.length t0.objs : Int)) <|
  letk (fun (l74 : List (List Int)) =>
  letk (fun (l105 : List (List Int)) =>
  some l105) fun k107 =>
  (f41_l3 t0 k107 (Int.toNat ((List.length t0.inits : Int) - 0) + 1) 0 l74)) fun k76 =>
  (f41_l1 t0 k76 (Int.toNat ((List.length t0.objs : Int) - 0) + 1) 0 (List.replicate (Int.toNat (List.length t0.objs : Int)) ([] : List Int))))
def f40n (s0 : List Obj) : Option (List Obj):=guardB (appOk 56 [] s0) (some s0)
def f38 (s0 : List Insn) : Option (List Insn):=guardB (appOk 56 [] s0) (some s0)
def f39 (s0 : List MHandler) : Option (List MHandler):=guardB (appOk 32 [] s0) (some s0)
def f43 (s0 : List Int) : Option (List Int):=guardB (appOk 8 [] s0) (some s0)
def f10_l1 (r60 : List Obj) (k66 : (List Obj) → Option (Int × (List Insn) × (List MHandler) × (List Obj) × Int × (List Int) × (List (List Int)) × (List Int))) : Nat → Int → (List Obj) → Option (Int × (List Insn) × (List MHandler) × (List Obj) × Int × (List Int) × (List (List Int)) × (List Int))
  | 0,_,_ => none
  | n+1,t69,l70 =>
  (bif (decide (t69 < (List.length r60 : Int))) then Option.bind (idx l70 t69) fun x73 =>
  Option.bind (f43 x73.set_) fun r74 =>
  Option.bind (idx l70 t69) fun x75 =>
  (f10_l1 r60 k66 n (IntKind.i64.wrap (t69 + 1)) (List.set l70 (Int.toNat t69) (Obj.mk x75.size x75.lo x75.hi x75.ptr r74))) else (k66 l70))
def f10 (t0 : Text) (in1 : List Int) : Option (Int × (List Insn) × (List MHandler) × (List Obj) × Int × (List Int) × (List (List Int)) × (List Int)) :=
  Option.bind (f37 t0) fun r57 =>
  (bif (!r57) then none else Option.bind (f38 t0.insns) fun r58 =>
  Option.bind (f39 t0.handlers) fun r59 =>
  Option.bind (f40n t0.objs) fun r60 =>
  Option.bind (f41 t0) fun r62 =>
  Option.bind (f42 in1) fun r64 =>
  letk (fun (l65 : List Obj) =>
  some (0,r58,r59,l65,t0.excs,r64,r62,([] : List Int))) fun k66 =>
  (f10_l1 r60 k66 (Int.toNat ((List.length r60 : Int) - 0) + 1) 0 r60))
def f10b (t0 : Text) (in1 : List Int) : Option (Unit × Int) :=
  Option.bind (f37 t0) fun r57 =>
  (bif (!r57) then some ((),2) else none)
def f66 (x0 : Insn) : Text :=
  (Text.mk [x0,(Insn.mk 57 0 0 0 0 0 0),(Insn.mk 57 0 0 0 0 0 0)] [(MHandler.mk 0 1 2 false)] [] [] [] [(Obj.mk 1 0 9 false [])] [] 4 [(MTask.mk 0 0 [] 0)] [(MProt.mk 0 [])] [])
def f35 (x0 : Insn) (v1 : Int) : Option (Regs × (List Act) × Int) :=
  Option.bind (f37 (f66 x0)) fun b31 =>
  (bif b31 then Option.bind (f10 (f66 x0) [8]) fun r32 =>
  (bif (!decide (r32.1 = 0)) then some ((Regs.mk (fun j => 0) 0 0 0),[],r32.1) else Option.bind (f11 r32.2.1 r32.2.2.1 r32.2.2.2.1 r32.2.2.2.2.1 r32.2.2.2.2.2.1 r32.2.2.2.2.2.2.1 r32.2.2.2.2.2.2.2 (Regs.mk (fun j => List.getD [0,v1,0,0,0,0,0,0,0,0,0,0,0,0,0,0] j 0) 0 0 0)) fun r34 =>
  some (r34.1,r34.2.1,r34.2.2.1)) else Option.bind (f10b (f66 x0) [8]) fun r36 =>
  (bif (!decide (r36.2 = 0)) then some ((Regs.mk (fun j => 0) 0 0 0),[],r36.2) else none))
def f9  : Option Bool :=
  Option.bind (f35 (Insn.mk 27 0 1 0 0 5 0) 6) fun r146 =>
  Option.bind (f35 (Insn.mk 4 0 1 0 0 0 0) 10) fun r147 =>
  Option.bind (f35 (Insn.mk 12 0 1 0 0 0 0) 10) fun r148 =>
  Option.bind (f35 (Insn.mk 41 0 0 0 0 0 0) 0) fun r149 =>
  Option.bind (f35 (Insn.mk 53 0 0 0 0 0 0) 0) fun r150 =>
  Option.bind (f35 (Insn.mk 38 3 0 0 0 0 0) 0) fun r151 =>
  Option.bind (f35 (Insn.mk 1 1 0 0 7 0 0) 0) fun r152 =>
  Option.bind (bif ((((decide ((r146.1.r 0) = 0)) && ((decide ((r146.1.r 1) = 0)) && ((decide ((r146.1.r 2) = 0)) && ((decide ((r146.1.r 3) = 0)) && ((decide ((r146.1.r 4) = 0)) && ((decide ((r146.1.r 5) = 0)) && ((decide ((r146.1.r 6) = 0)) && ((decide ((r146.1.r 7) = 0)) && ((decide ((r146.1.r 8) = 0)) && ((decide ((r146.1.r 9) = 0)) && ((decide ((r146.1.r 10) = 0)) && ((decide ((r146.1.r 11) = 0)) && ((decide ((r146.1.r 12) = 0)) && ((decide ((r146.1.r 13) = 0)) && ((decide ((r146.1.r 14) = 0)) && ((decide ((r146.1.r 15) = 0)) && ((decide (r146.1.pc = 2)) && ((decide (r146.1.exc = 1)) && ((decide (r146.1.defer = 0)) && true)))))))))))))))))))) && (decide ((List.length r146.2.1 : Int) = 1))) then (Option.bind (idx r146.2.1 0) fun x154 => some (((decide (x154.time = 0)) && ((decide (x154.task = 0)) && ((decide (x154.kind = 5)) && ((decide (x154.a = 1)) && ((decide (x154.b = 0)) && ((decide (x154.n = 0)) && true)))))))) else some false) fun b153 =>
  Option.bind (bif ((((((((b153 && (decide (r146.2.2 = 0))) && (decide (r147.2.2 = 280))) && (decide (r148.2.2 = 280))) && (decide (r149.2.2 = 280))) && (decide (r150.2.2 = 8))) && (decide (r151.2.2 = 0))) && (decide ((r151.1.r (Int.toNat 3)) = 8))) && (decide ((List.length r151.2.1 : Int) = 1))) then (Option.bind (idx r151.2.1 0) fun x156 => some (((decide (x156.time = 0)) && ((decide (x156.task = 0)) && ((decide (x156.kind = 2)) && ((decide (x156.a = 8)) && ((decide (x156.b = 0)) && ((decide (x156.n = 0)) && true)))))))) else some false) fun b155 =>
  some (((((b155 && (decide (r152.2.2 = 0))) && (decide ((r152.1.r (Int.toNat 1)) = 7))) && (decide (r152.1.pc = 1))) && (f36 41)) && (!(f36 42)))
def f3_l1 (l1 : List Insn) (k176 : (List Insn) → Option (Bool)) : Nat → Int → (List Insn) → Option (Bool)
  | 0,_,_ => none
  | n+1,iq181,l182 =>
  (bif (decide (iq181 < (List.length l1 : Int))) then Option.bind (idx l1 iq181) fun x187 =>
  Option.bind (idx l1 iq181) fun x188 =>
  Option.bind (idx l1 iq181) fun x189 =>
  Option.bind (idx l1 iq181) fun x190 =>
  letk (fun (c40191 : Int) (c43192 : Int) =>
  guardB (appOk 56 l182 [(Insn.mk c40191 (IntKind.i64.wrap (BitVec.ofInt IntKind.i64.bits x188.d &&& BitVec.ofInt IntKind.i64.bits 3).toNat) (IntKind.i64.wrap (BitVec.ofInt IntKind.i64.bits x189.a &&& BitVec.ofInt IntKind.i64.bits 3).toNat) c43192 0 0 0)]) <|
  (f3_l1 l1 k176 n (IntKind.i64.wrap (iq181 + 1)) (l182 ++ [(Insn.mk c40191 (IntKind.i64.wrap (BitVec.ofInt IntKind.i64.bits x188.d &&& BitVec.ofInt IntKind.i64.bits 3).toNat) (IntKind.i64.wrap (BitVec.ofInt IntKind.i64.bits x189.a &&& BitVec.ofInt IntKind.i64.bits 3).toNat) c43192 0 0 0)]))) fun k193 =>
  (bif (decide ((IntKind.u8.wrap (9 + (Int.tmod x187.op 4))) > 11)) then (k193 2 0) else (k193 (IntKind.u8.wrap (9 + (Int.tmod x187.op 4))) (IntKind.i64.wrap (BitVec.ofInt IntKind.i64.bits x190.b &&& BitVec.ofInt IntKind.i64.bits 3).toNat))) else (k176 l182))
def f3_l2 (l1 : List Insn) (l174 : List Insn) (r197 : Int × (List Insn) × (List MHandler) × (List Obj) × Int × (List Int) × (List (List Int)) × (List Int)) (k210 : (List (List Int)) → (List Int) → (Nat → Int) → Int → (List Int) → (Nat → Int) → Int → Int → Int → Option (Bool)) : Nat → Int → (List (List Int)) → (List Int) → (Nat → Int) → Int → (List Int) → (Nat → Int) → Int → Int → Int → Option (Bool)
  | 0,_,_,_,_,_,_,_,_,_,_ => none
  | n+1,iq223,l224,l226,c20228,c216229,c55230,c90231,c916232,c917233,c918234 =>
  (bif (decide (iq223 < (List.length l1 : Int))) then Option.bind (idx (l174 ++ [(Insn.mk 57 0 0 0 0 0 0)]) iq223) fun x247 =>
  guardB (vecOk 16 x247.a) <|
  guardB (vecOk 16 x247.b) <|
  letk (fun (c20250 : Nat → Int) (c90251 : Nat → Int) =>
  Option.bind (f11 r197.2.1 r197.2.2.1 r197.2.2.2.1 r197.2.2.2.2.1 c55230 l224 l226 (Regs.mk c90251 c916232 c917233 c918234)) fun r257 =>
  (bif (((!decide (r257.2.2.1 = 0)) || (!decide ((List.length r257.2.1 : Int) = 0))) || (!((decide ((r257.1.r 0) = (c20250 0))) && ((decide ((r257.1.r 1) = (c20250 1))) && ((decide ((r257.1.r 2) = (c20250 2))) && ((decide ((r257.1.r 3) = (c20250 3))) && ((decide ((r257.1.r 4) = (c20250 4))) && ((decide ((r257.1.r 5) = (c20250 5))) && ((decide ((r257.1.r 6) = (c20250 6))) && ((decide ((r257.1.r 7) = (c20250 7))) && ((decide ((r257.1.r 8) = (c20250 8))) && ((decide ((r257.1.r 9) = (c20250 9))) && ((decide ((r257.1.r 10) = (c20250 10))) && ((decide ((r257.1.r 11) = (c20250 11))) && ((decide ((r257.1.r 12) = (c20250 12))) && ((decide ((r257.1.r 13) = (c20250 13))) && ((decide ((r257.1.r 14) = (c20250 14))) && ((decide ((r257.1.r 15) = (c20250 15))) && ((decide (r257.1.pc = (IntKind.i64.wrap (iq223 + 1)))) && ((decide (r257.1.exc = 0)) && ((decide (r257.1.defer = 0)) && true))))))))))))))))))))) then some false else (f3_l2 l1 l174 r197 k210 n (IntKind.i64.wrap (iq223 + 1)) r257.2.2.2.2.1 r257.2.2.2.2.2 c20250 (IntKind.i64.wrap (iq223 + 1)) r257.2.2.2.1 r257.1.r r257.1.pc r257.1.exc r257.1.defer))) fun k252 =>
  (bif (decide (x247.op = 9)) then guardB (vecOk 16 x247.d) <|
  (k252 (vset c20228 (Int.toNat x247.d) (IntKind.i64.wrap ((c20228 (Int.toNat x247.a)) + (c20228 (Int.toNat x247.b))))) c90231) else (bif (decide (x247.op = 10)) then guardB (vecOk 16 x247.d) <|
  (k252 (vset c20228 (Int.toNat x247.d) (IntKind.i64.wrap ((c20228 (Int.toNat x247.a)) - (c20228 (Int.toNat x247.b))))) c90231) else (bif (decide (x247.op = 11)) then guardB (vecOk 16 x247.d) <|
  (k252 (vset c20228 (Int.toNat x247.d) (IntKind.i64.wrap ((c20228 (Int.toNat x247.a)) * (c20228 (Int.toNat x247.b))))) c90231) else guardB (vecOk 16 x247.d) <|
  (k252 (vset c20228 (Int.toNat x247.d) (c20228 (Int.toNat x247.a))) c90231)))) else (k210 l224 l226 c20228 c216229 c55230 c90231 c916232 c917233 c918234))
def f3_l3 (first0 : Nat → Int) (l1 : List Insn) (l174 : List Insn) (k261 : Unit → Option (Bool)) : Nat → Option (Bool)
  | 0 => none
  | n+1 =>
  (bif (decide (0 < (List.length l1 : Int))) then Option.bind (idx (l174 ++ [(Insn.mk 57 0 0 0 0 0 0)]) 0) fun x262 =>
  guardB (vecOk 16 x262.a) <|
  guardB (vecOk 16 x262.b) <|
  letk (fun (c20265 : Nat → Int) =>
  none) fun k266 =>
  (bif (decide (x262.op = 9)) then guardB (vecOk 16 x262.d) <|
  (k266 (vset (fun j => List.getD [(first0 0),(first0 1),(first0 2),(first0 3),0,0,0,0,0,0,0,0,0,0,0,0] j 0) (Int.toNat x262.d) (IntKind.i64.wrap (((fun j => List.getD [(first0 0),(first0 1),(first0 2),(first0 3),0,0,0,0,0,0,0,0,0,0,0,0] j 0) (Int.toNat x262.a)) + ((fun j => List.getD [(first0 0),(first0 1),(first0 2),(first0 3),0,0,0,0,0,0,0,0,0,0,0,0] j 0) (Int.toNat x262.b)))))) else (bif (decide (x262.op = 10)) then guardB (vecOk 16 x262.d) <|
  (k266 (vset (fun j => List.getD [(first0 0),(first0 1),(first0 2),(first0 3),0,0,0,0,0,0,0,0,0,0,0,0] j 0) (Int.toNat x262.d) (IntKind.i64.wrap (((fun j => List.getD [(first0 0),(first0 1),(first0 2),(first0 3),0,0,0,0,0,0,0,0,0,0,0,0] j 0) (Int.toNat x262.a)) - ((fun j => List.getD [(first0 0),(first0 1),(first0 2),(first0 3),0,0,0,0,0,0,0,0,0,0,0,0] j 0) (Int.toNat x262.b)))))) else (bif (decide (x262.op = 11)) then guardB (vecOk 16 x262.d) <|
  (k266 (vset (fun j => List.getD [(first0 0),(first0 1),(first0 2),(first0 3),0,0,0,0,0,0,0,0,0,0,0,0] j 0) (Int.toNat x262.d) (IntKind.i64.wrap (((fun j => List.getD [(first0 0),(first0 1),(first0 2),(first0 3),0,0,0,0,0,0,0,0,0,0,0,0] j 0) (Int.toNat x262.a)) * ((fun j => List.getD [(first0 0),(first0 1),(first0 2),(first0 3),0,0,0,0,0,0,0,0,0,0,0,0] j 0) (Int.toNat x262.b)))))) else guardB (vecOk 16 x262.d) <|
  (k266 (vset (fun j => List.getD [(first0 0),(first0 1),(first0 2),(first0 3),0,0,0,0,0,0,0,0,0,0,0,0] j 0) (Int.toNat x262.d) ((fun j => List.getD [(first0 0),(first0 1),(first0 2),(first0 3),0,0,0,0,0,0,0,0,0,0,0,0] j 0) (Int.toNat x262.a))))))) else (k261 ()))
def f3 (first0 : Nat → Int) (l1 : List Insn) : Option Bool :=
  (bif (decide ((List.length l1 : Int) > 30)) then Option.bind (f9) fun r173 =>
  some r173 else letk (fun (l174 : List Insn) =>
  guardB (appOk 56 l174 [(Insn.mk 57 0 0 0 0 0 0)]) <|
  Option.bind (f37 (Text.mk (l174 ++ [(Insn.mk 57 0 0 0 0 0 0)]) [] [] [] [] [] [] 4 [(MTask.mk 0 0 [] 0)] [] [])) fun b196 =>
  (bif b196 then Option.bind (f10 (Text.mk (l174 ++ [(Insn.mk 57 0 0 0 0 0 0)]) [] [] [] [] [] [] 4 [(MTask.mk 0 0 [] 0)] [] []) []) fun r197 =>
  (bif (!decide (r197.1 = 0)) then some false else letk (fun (l199 : List (List Int)) (l201 : List Int) (c20203 : Nat → Int) (c216204 : Int) (c55205 : List Int) (c90206 : Nat → Int) (c916207 : Int) (c917208 : Int) (c918209 : Int) =>
  Option.bind (f9) fun r259 =>
  some r259) fun k210 =>
  (f3_l2 l1 l174 r197 k210 9223372036854775808 0 r197.2.2.2.2.2.2.1 r197.2.2.2.2.2.2.2 (fun j => List.getD [(first0 0),(first0 1),(first0 2),(first0 3),0,0,0,0,0,0,0,0,0,0,0,0] j 0) 0 r197.2.2.2.2.2.1 (fun j => List.getD [(first0 0),(first0 1),(first0 2),(first0 3),0,0,0,0,0,0,0,0,0,0,0,0] j 0) 0 0 0)) else Option.bind (f10b (Text.mk (l174 ++ [(Insn.mk 57 0 0 0 0 0 0)]) [] [] [] [] [] [] 4 [(MTask.mk 0 0 [] 0)] [] []) []) fun r260 =>
  (bif (!decide (r260.2 = 0)) then some false else letk (fun (_ : Unit) =>
  Option.bind (f9) fun r271 =>
  some r271) fun k261 =>
  (f3_l3 first0 l1 l174 k261 9223372036854775808)))) fun k176 =>
  (f3_l1 l1 k176 9223372036854775808 0 []))
def f47z  : Option Bool :=
  some true
def f44_45z (r1 : Regs) (fine2 : Bool) : Option (Regs × (List Act) × Int) :=
  some ((Regs.mk (fun j => 0) 0 0 0),[],1)
def f44_55z (r1 : Regs) (fine2 : Bool) (xn : Int) : Option (Regs × (List Act) × Int) :=
  some ((Regs.mk (fun j => 0) 0 0 0),[],1)
def f44_58z (r1 : Regs) (fine2 : Bool) (xn : Int) : Option (Regs × (List Act) × Int) :=
  some ((Regs.mk (fun j => 0) 0 0 0),[],1)
def f11z (r1 : Regs) : Option (Regs × (List Act) × Int) :=
  Option.bind (f44_45z r1 true) fun r16 =>
  some (r16.1,r16.2.1,r16.2.2)
def f20z (r1 : Regs) (n2 : Int) : Option (Regs × (List Act) × Int) :=
  letk (fun (t35 : List Act) (t36 : Int) (c0037 : Nat → Int) (c01638 : Int) (c01739 : Int) (c01840 : Int) =>
  some ((Regs.mk c0037 c01638 c01739 c01840),t35,t36)) fun k41 =>
  (bif (decide (n2 ≥ 1)) then Option.bind (f44_55z r1 false n2) fun r43 =>
  (k41 r43.2.1 r43.2.2 r43.1.r r43.1.pc r43.1.exc r43.1.defer) else Option.bind (f44_55z r1 false n2) fun r45 =>
  (k41 r45.2.1 r45.2.2 r45.1.r r45.1.pc r45.1.exc r45.1.defer))
def f22z (r1 : Regs) (c2 : Int) : Option (Regs × Int) :=
  letk (fun (e44 : Int) (c1045 : Nat → Int) (c11646 : Int) (c11747 : Int) (c11848 : Int) =>
  some ((Regs.mk c1045 c11646 c11747 c11848),e44)) fun k49 =>
  (bif (decide (c2 ≥ (-2))) then (bif (!decide (c2 = 0)) then Option.bind (f44_58z r1 false c2) fun r51 =>
  (k49 r51.2.2 r51.1.r r51.1.pc r51.1.exc r51.1.defer) else Option.bind (f44_58z r1 false c2) fun r53 =>
  (k49 r53.2.2 r53.1.r r53.1.pc r53.1.exc r53.1.defer)) else Option.bind (f44_58z r1 false c2) fun r55 =>
  (k49 r55.2.2 r55.1.r r55.1.pc r55.1.exc r55.1.defer))
def f24z (o1 : Int) (k2 : Int) : Option (Int × Int) :=
  some (0,1)
def f26z (o1 : Int) (k2 : Int) (v3 : Int) : Option Int :=
  some 1
def f28z  : Option (List (List Int)) :=
  some []
def f13z  : Option (List Int) :=
  some []
def f15z  : Option (List Int) :=
  some []
def f7 (r0 : Regs) (o1 : Int) (k2 : Int) (v3 : Int) : Option Bool :=
  letk (fun (l151 : List (List Int)) (l153 : List Int) (c05155 : List Int) (c50156 : Nat → Int) (c516157 : Int) (c517158 : Int) (c518159 : Int) (c60160 : Nat → Int) (c616161 : Int) (c617162 : Int) (c618163 : Int) (c70164 : Nat → Int) (c716165 : Int) (c717166 : Int) (c718167 : Int) (c80168 : Nat → Int) (c816169 : Int) (c817170 : Int) (c818171 : Int) (c90172 : Nat → Int) (c916173 : Int) (c917174 : Int) (c918175 : Int) (c100176 : Nat → Int) (c1016177 : Int) (c1017178 : Int) (c1018179 : Int) =>
  Option.bind (f9) fun r219 =>
  some r219) fun k180 =>
  Option.bind (f11z r0) fun r181 =>
  Option.bind (f20z r0 v3) fun r183 =>
  Option.bind (f22z r0 v3) fun r185 =>
  Option.bind (f24z o1 k2) fun r187 =>
  letk (fun (t189 : Bool) =>
  (bif t189 then some false else Option.bind (f11 [] [] [] 0 [] ([] : List (List Int)) ([] : List Int) r0) fun r199 =>
  Option.bind (f20 [] [] [] 0 r199.2.2.2.1 r199.2.2.2.2.1 r199.2.2.2.2.2 r0 v3) fun r201 =>
  Option.bind (f22 [] [] [] 0 r199.2.2.2.1 r199.2.2.2.2.1 r199.2.2.2.2.2 r0 v3) fun r203 =>
  Option.bind (f24 [] [] [] 0 r199.2.2.2.1 r199.2.2.2.2.1 r199.2.2.2.2.2 o1 k2) fun r205 =>
  letk (fun (t207 : Bool) (l208 : List (List Int)) =>
  (bif t207 then some false else (k180 l208 r199.2.2.2.2.2 r199.2.2.2.1 r181.1.r r181.1.pc r181.1.exc r181.1.defer r183.1.r r183.1.pc r183.1.exc r183.1.defer r185.1.r r185.1.pc r185.1.exc r185.1.defer r199.1.r r199.1.pc r199.1.exc r199.1.defer r201.1.r r201.1.pc r201.1.exc r201.1.defer r203.1.r r203.1.pc r203.1.exc r203.1.defer))) fun k210 =>
  (bif (!((decide ((r199.1.r 0) = 0)) && ((decide ((r199.1.r 1) = 0)) && ((decide ((r199.1.r 2) = 0)) && ((decide ((r199.1.r 3) = 0)) && ((decide ((r199.1.r 4) = 0)) && ((decide ((r199.1.r 5) = 0)) && ((decide ((r199.1.r 6) = 0)) && ((decide ((r199.1.r 7) = 0)) && ((decide ((r199.1.r 8) = 0)) && ((decide ((r199.1.r 9) = 0)) && ((decide ((r199.1.r 10) = 0)) && ((decide ((r199.1.r 11) = 0)) && ((decide ((r199.1.r 12) = 0)) && ((decide ((r199.1.r 13) = 0)) && ((decide ((r199.1.r 14) = 0)) && ((decide ((r199.1.r 15) = 0)) && ((decide (r199.1.pc = 0)) && ((decide (r199.1.exc = 0)) && ((decide (r199.1.defer = 0)) && true)))))))))))))))))))) then (k210 true r199.2.2.2.2.1) else (bif (!((decide ((r201.1.r 0) = (r199.1.r 0))) && ((decide ((r201.1.r 1) = (r199.1.r 1))) && ((decide ((r201.1.r 2) = (r199.1.r 2))) && ((decide ((r201.1.r 3) = (r199.1.r 3))) && ((decide ((r201.1.r 4) = (r199.1.r 4))) && ((decide ((r201.1.r 5) = (r199.1.r 5))) && ((decide ((r201.1.r 6) = (r199.1.r 6))) && ((decide ((r201.1.r 7) = (r199.1.r 7))) && ((decide ((r201.1.r 8) = (r199.1.r 8))) && ((decide ((r201.1.r 9) = (r199.1.r 9))) && ((decide ((r201.1.r 10) = (r199.1.r 10))) && ((decide ((r201.1.r 11) = (r199.1.r 11))) && ((decide ((r201.1.r 12) = (r199.1.r 12))) && ((decide ((r201.1.r 13) = (r199.1.r 13))) && ((decide ((r201.1.r 14) = (r199.1.r 14))) && ((decide ((r201.1.r 15) = (r199.1.r 15))) && ((decide (r201.1.pc = r199.1.pc)) && ((decide (r201.1.exc = r199.1.exc)) && ((decide (r201.1.defer = r199.1.defer)) && true)))))))))))))))))))) then (k210 true r199.2.2.2.2.1) else (bif (!((decide ((r203.1.r 0) = (r199.1.r 0))) && ((decide ((r203.1.r 1) = (r199.1.r 1))) && ((decide ((r203.1.r 2) = (r199.1.r 2))) && ((decide ((r203.1.r 3) = (r199.1.r 3))) && ((decide ((r203.1.r 4) = (r199.1.r 4))) && ((decide ((r203.1.r 5) = (r199.1.r 5))) && ((decide ((r203.1.r 6) = (r199.1.r 6))) && ((decide ((r203.1.r 7) = (r199.1.r 7))) && ((decide ((r203.1.r 8) = (r199.1.r 8))) && ((decide ((r203.1.r 9) = (r199.1.r 9))) && ((decide ((r203.1.r 10) = (r199.1.r 10))) && ((decide ((r203.1.r 11) = (r199.1.r 11))) && ((decide ((r203.1.r 12) = (r199.1.r 12))) && ((decide ((r203.1.r 13) = (r199.1.r 13))) && ((decide ((r203.1.r 14) = (r199.1.r 14))) && ((decide ((r203.1.r 15) = (r199.1.r 15))) && ((decide (r203.1.pc = r199.1.pc)) && ((decide (r203.1.exc = r199.1.exc)) && ((decide (r203.1.defer = r199.1.defer)) && true)))))))))))))))))))) then (k210 true r199.2.2.2.2.1) else (bif (!decide ((IntKind.i64.wrap ((List.length r199.2.1 : Int) + (List.length r201.2.1 : Int))) = 0)) then (k210 true r199.2.2.2.2.1) else (bif (!decide (r205.1 = 0)) then (k210 true r199.2.2.2.2.1) else (bif (!decide (r199.2.2.1 = 1)) then (k210 true r199.2.2.2.2.1) else (bif (!decide (r201.2.2 = 1)) then (k210 true r199.2.2.2.2.1) else (bif (!decide (r203.2 = 1)) then (k210 true r199.2.2.2.2.1) else (bif (!decide (r205.2 = 1)) then (k210 true r199.2.2.2.2.1) else Option.bind (f26 [] [] [] 0 r199.2.2.2.1 r199.2.2.2.2.1 r199.2.2.2.2.2 o1 k2 v3) fun r211 =>
  (bif (!decide (r211.1 = 1)) then (k210 true r211.2) else Option.bind (f28 [] [] [] 0 r199.2.2.2.1 r211.2 r199.2.2.2.2.2) fun r213 =>
  Option.bind (f13 [] [] [] 0 r199.2.2.2.1 r211.2 r199.2.2.2.2.2) fun r215 =>
  Option.bind (f15 [] [] [] 0 r199.2.2.2.1 r211.2 r199.2.2.2.2.2) fun r217 =>
  (k210 (!decide ((IntKind.i64.wrap ((IntKind.i64.wrap ((List.length r213 : Int) + (List.length r215 : Int))) + (List.length r217 : Int))) = 0)) r211.2))))))))))))) fun k190 =>
  (bif (!((decide ((r181.1.r 0) = 0)) && ((decide ((r181.1.r 1) = 0)) && ((decide ((r181.1.r 2) = 0)) && ((decide ((r181.1.r 3) = 0)) && ((decide ((r181.1.r 4) = 0)) && ((decide ((r181.1.r 5) = 0)) && ((decide ((r181.1.r 6) = 0)) && ((decide ((r181.1.r 7) = 0)) && ((decide ((r181.1.r 8) = 0)) && ((decide ((r181.1.r 9) = 0)) && ((decide ((r181.1.r 10) = 0)) && ((decide ((r181.1.r 11) = 0)) && ((decide ((r181.1.r 12) = 0)) && ((decide ((r181.1.r 13) = 0)) && ((decide ((r181.1.r 14) = 0)) && ((decide ((r181.1.r 15) = 0)) && ((decide (r181.1.pc = 0)) && ((decide (r181.1.exc = 0)) && ((decide (r181.1.defer = 0)) && true)))))))))))))))))))) then (k190 true) else (bif (!((decide ((r183.1.r 0) = (r181.1.r 0))) && ((decide ((r183.1.r 1) = (r181.1.r 1))) && ((decide ((r183.1.r 2) = (r181.1.r 2))) && ((decide ((r183.1.r 3) = (r181.1.r 3))) && ((decide ((r183.1.r 4) = (r181.1.r 4))) && ((decide ((r183.1.r 5) = (r181.1.r 5))) && ((decide ((r183.1.r 6) = (r181.1.r 6))) && ((decide ((r183.1.r 7) = (r181.1.r 7))) && ((decide ((r183.1.r 8) = (r181.1.r 8))) && ((decide ((r183.1.r 9) = (r181.1.r 9))) && ((decide ((r183.1.r 10) = (r181.1.r 10))) && ((decide ((r183.1.r 11) = (r181.1.r 11))) && ((decide ((r183.1.r 12) = (r181.1.r 12))) && ((decide ((r183.1.r 13) = (r181.1.r 13))) && ((decide ((r183.1.r 14) = (r181.1.r 14))) && ((decide ((r183.1.r 15) = (r181.1.r 15))) && ((decide (r183.1.pc = r181.1.pc)) && ((decide (r183.1.exc = r181.1.exc)) && ((decide (r183.1.defer = r181.1.defer)) && true)))))))))))))))))))) then (k190 true) else (bif (!((decide ((r185.1.r 0) = (r181.1.r 0))) && ((decide ((r185.1.r 1) = (r181.1.r 1))) && ((decide ((r185.1.r 2) = (r181.1.r 2))) && ((decide ((r185.1.r 3) = (r181.1.r 3))) && ((decide ((r185.1.r 4) = (r181.1.r 4))) && ((decide ((r185.1.r 5) = (r181.1.r 5))) && ((decide ((r185.1.r 6) = (r181.1.r 6))) && ((decide ((r185.1.r 7) = (r181.1.r 7))) && ((decide ((r185.1.r 8) = (r181.1.r 8))) && ((decide ((r185.1.r 9) = (r181.1.r 9))) && ((decide ((r185.1.r 10) = (r181.1.r 10))) && ((decide ((r185.1.r 11) = (r181.1.r 11))) && ((decide ((r185.1.r 12) = (r181.1.r 12))) && ((decide ((r185.1.r 13) = (r181.1.r 13))) && ((decide ((r185.1.r 14) = (r181.1.r 14))) && ((decide ((r185.1.r 15) = (r181.1.r 15))) && ((decide (r185.1.pc = r181.1.pc)) && ((decide (r185.1.exc = r181.1.exc)) && ((decide (r185.1.defer = r181.1.defer)) && true)))))))))))))))))))) then (k190 true) else (bif (!decide ((IntKind.i64.wrap ((List.length r181.2.1 : Int) + (List.length r183.2.1 : Int))) = 0)) then (k190 true) else (bif (!decide (r187.1 = 0)) then (k190 true) else (bif (!decide (r181.2.2 = 1)) then (k190 true) else (bif (!decide (r183.2.2 = 1)) then (k190 true) else (bif (!decide (r185.2 = 1)) then (k190 true) else (bif (!decide (r187.2 = 1)) then (k190 true) else Option.bind (f26z o1 k2 v3) fun r191 =>
  (bif (!decide (r191 = 1)) then (k190 true) else Option.bind (f28z) fun r193 =>
  Option.bind (f13z) fun r195 =>
  Option.bind (f15z) fun r197 =>
  (k190 (!decide ((IntKind.i64.wrap ((IntKind.i64.wrap ((List.length r193 : Int) + (List.length r195 : Int))) + (List.length r197 : Int))) = 0)))))))))))))
end Go.Proofs.YtkbahggepncliaaGreatDoor
namespace Go.Proofs.YtkbahggepncliaaGreatDoor
open Go Go.Sk
abbrev sN : AV:=.d (.v (.slice none 0 0))
abbrev txA (t : Text) : List AV:=[.l E45 t.insns,.l E108 t.handlers,.l E189 t.loops,.l E155 t.selects,.l E96 t.lists,.l E101 t.objs,.l E140 t.inits,.n t.excs,.l E27 t.tasks,.l E164 t.prots,.l E192 t.checks]
abbrev txV (a : List Insn) (b : List MHandler) (c : List Loop) (d : List Select) (e : List (List Int)) (f : List Obj) (g : List Init) (h : Int) (i : List MTask) (j : List MProt) (k : List Check) : List AV:=[.l E45 a,.l E108 b,.l E189 c,.l E155 d,.l E96 e,.l E101 f,.l E140 g,.n h,.l E27 i,.l E164 j,.l E192 k]
abbrev txW (a : List Insn) (b : List MHandler) (c : List Loop) (d : List Select) (e : List (List Int)) (f : List Obj) (g : List Init) (h : Int) (i : List MTask) (j : List MProt) (k : List Check) (l m : Int) : List AV:=[.l E45 a,.l E108 b,.l E189 c,.l E155 d,.l E96 e,.l E101 f,.l E140 g,.n h,.l E27 i,.l E164 j,.l E192 k,.n l,.n m]
abbrev mR (a : List Insn) (b : List MHandler) (c : List Obj) (d : Int) (i v : Nat) (e : List Int) (j w : Nat) : List AV:=[.l E45 a,.l E108 b,.l E101 c,.n d,.os i v,.l E2 e,.os j w]
abbrev tQ (o : Nat) (R : Nat → Int) (p x d : Int) (i v : Nat) : List AV:=([.pt o 0] : List AV) ++ (vecA 16 (fun j => .n (R j)) ++ ([.n p,.n x,.n d,.os i v] : List AV) : List AV)
abbrev wD (a : List Insn) (b : List MHandler) (c : List Obj) (d : Int) (vo : Nat) (n : List Int) (vu vf : Nat) (S : List (List Int)) (U : List Int) : List AO:=[.dead,.row 90 (mR a b c d 2 vo n 4 vu),.os 42 1 vo (famE 3 vf (List.length S)),.fam 2 1 vf (famM E2 S),.os 2 1 vu (eM E2 U),.dead]
abbrev wT (R : Nat → Int) (p x y : Int) (va : Nat) (a : List Insn) (b : List MHandler) (c : List Obj) (d : Int) (vo : Nat) (n : List Int) (vu vf : Nat) (S : List (List Int)) (U : List Int) (A : List Act) : List AO:=[.row 116 (tQ 1 R p x y 5 va),.row 90 (mR a b c d 2 vo n 4 vu),.os 42 1 vo (famE 3 vf (List.length S)),.fam 2 1 vf (famM E2 S),.os 2 1 vu (eM E2 U),.os 58 6 va (eM R58 A)]
abbrev wM (a : List Insn) (b : List MHandler) (c : List Obj) (d : Int) (vo : Nat) (n : List Int) (vu vf : Nat) (S : List (List Int)) (U : List Int) : List AO:=[.row 90 (mR a b c d 1 vo n 3 vu),.os 42 1 vo (famE 2 vf (List.length S)),.fam 2 1 vf (famM E2 S),.os 2 1 vu (eM E2 U)]
abbrev fG (F : Nat → Int) (j : Nat) : Int:=List.getD [F 0,F 1,F 2,F 3,0,0,0,0,0,0,0,0,0,0,0,0] j 0
abbrev n19 : List AV:=[.n 0,.n 0,.n 0,.n 0,.n 0,.n 0,.n 0,.n 0,.n 0,.n 0,.n 0,.n 0,.n 0,.n 0,.n 0,.n 0,.n 0,.n 0,.n 0]
abbrev z19 : List Value:=[.int .i64 0,.int .i64 0,.int .i64 0,.int .i64 0,.int .i64 0,.int .i64 0,.int .i64 0,.int .i64 0,.int .i64 0,.int .i64 0,.int .i64 0,.int .i64 0,.int .i64 0,.int .i64 0,.int .i64 0,.int .i64 0,.int .i64 0,.int .i64 0,.int .i64 0]
abbrev V41 (x : Regs) : List Value:=[.int .i64 (x.r 0),.int .i64 (x.r 1),.int .i64 (x.r 2),.int .i64 (x.r 3),.int .i64 (x.r 4),.int .i64 (x.r 5),.int .i64 (x.r 6),.int .i64 (x.r 7),.int .i64 (x.r 8),.int .i64 (x.r 9),.int .i64 (x.r 10),.int .i64 (x.r 11),.int .i64 (x.r 12),.int .i64 (x.r 13),.int .i64 (x.r 14),.int .i64 (x.r 15),.int .i64 x.pc,.int .i64 x.exc,.int .i64 x.defer]
abbrev fe (k : Int) (f o : Nat) : Int × AV:=(k,.fn (.func f) [] [.pt o 0])
end Go.Proofs.YtkbahggepncliaaGreatDoor
