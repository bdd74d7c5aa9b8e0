/- The library's sort and compaction at this translation. -/
import Derived.Test.YtjjgmpmhfodmeaaProg
import Derived.KernelRfl
import Derived.Shelf.Slices.In.SortNone
import Derived.Shelf.Sort.Plain
import Derived.Lib.RowBridge
import Derived.Test.YtjjgmpmhfodmeaaT
namespace Go.Proofs.Ytjjgmpmhfodmeaa
open Go
def Try.laysSort_ren : Go.Shelf.Ren := ⟨fun | 189 => 48 | 125 => 67 | 257 => 66 | 128 => 98 | 129 => 99 | 294 => 89 | 295 => 90 | 296 => 91 | 297 => 92 | 298 => 93 | 299 => 94 | 216 => 95 | 300 => 96 | 301 => 97 | 328 => 102 | 329 => 103 | 330 => 104 | 331 => 105 | 332 => 106 | 215 => 107 | 343 => 108 | n => n, fun | 28 => 33 | 3 => 3 | 46 => 99 | 0 => 0 | 51 => 119 | 53 => 69 | 4 => 4 | 183 => 112 | 182 => 111 | 131 => 116 | 5 => 5 | 9 => 9 | 218 => 126 | 222 => 130 | 228 => 132 | 229 => 133 | n => n, fun | n => n⟩
theorem Try.laysSort : Go.Proofs.Lays.n189 Try.prog Try.laysSort_ren where
  mixed := by kernel_rfl
  f125 := Try.func67.trans (congrArg some (by kernel_rfl))
  f128 := Try.func98.trans (congrArg some (by kernel_rfl))
  f129 := Try.func99.trans (congrArg some (by kernel_rfl))
  f189 := Try.func48.trans (congrArg some (by kernel_rfl))
  f215 := Try.func107.trans (congrArg some (by kernel_rfl))
  f216 := Try.func95.trans (congrArg some (by kernel_rfl))
  f257 := Try.func66.trans (congrArg some (by kernel_rfl))
  f294 := Try.func89.trans (congrArg some (by kernel_rfl))
  f295 := Try.func90.trans (congrArg some (by kernel_rfl))
  f296 := Try.func91.trans (congrArg some (by kernel_rfl))
  f297 := Try.func92.trans (congrArg some (by kernel_rfl))
  f298 := Try.func93.trans (congrArg some (by kernel_rfl))
  f299 := Try.func94.trans (congrArg some (by kernel_rfl))
  f300 := Try.func96.trans (congrArg some (by kernel_rfl))
  f301 := Try.func97.trans (congrArg some (by kernel_rfl))
  f328 := Try.func102.trans (congrArg some (by kernel_rfl))
  f329 := Try.func103.trans (congrArg some (by kernel_rfl))
  f330 := Try.func104.trans (congrArg some (by kernel_rfl))
  f331 := Try.func105.trans (congrArg some (by kernel_rfl))
  f332 := Try.func106.trans (congrArg some (by kernel_rfl))
  f343 := Try.func108.trans (congrArg some (by kernel_rfl))
  t0 := Try.underlying0
  a0 := Try.isAgg0
  z0 := Try.sizeOf0
  v0 := Try.zeroValue0
  t3 := Try.underlying3
  a3 := Try.isAgg3
  z3 := Try.sizeOf3
  v3 := Try.zeroValue3
  t4 := Try.underlying4
  a4 := Try.isAgg4
  z4 := Try.sizeOf4
  v4 := Try.zeroValue4
  t5 := Try.underlying5
  a5 := Try.isAgg5
  z5 := Try.sizeOf5
  v5 := Try.zeroValue5
  t9 := Try.underlying9
  a9 := Try.isAgg9
  z9 := Try.sizeOf9
  v9 := Try.zeroValue9
  t28 := Try.underlying33
  a28 := Try.isAgg33
  z28 := Try.sizeOf33
  v28 := Try.zeroValue33
  t46 := Try.underlying99
  a46 := Try.isAgg99
  z46 := Try.sizeOf99
  v46 := Try.zeroValue99
  t51 := Try.underlying119
  a51 := Try.isAgg119
  z51 := Try.sizeOf119
  v51 := Try.zeroValue119
  t53 := Try.underlying69
  a53 := Try.isAgg69
  z53 := Try.sizeOf69
  v53 := Try.zeroValue69
  t131 := Try.underlying116
  a131 := Try.isAgg116
  z131 := Try.sizeOf116
  v131 := Try.zeroValue116
  t182 := Try.underlying111
  a182 := Try.isAgg111
  z182 := Try.sizeOf111
  v182 := Try.zeroValue111
  t183 := Try.underlying112
  a183 := Try.isAgg112
  z183 := Try.sizeOf112
  v183 := Try.zeroValue112
  t218 := Try.underlying126
  a218 := Try.isAgg126
  z218 := Try.sizeOf126
  v218 := Try.zeroValue126
  t222 := Try.underlying130
  a222 := Try.isAgg130
  z222 := Try.sizeOf130
  v222 := Try.zeroValue130
  t228 := Try.underlying132
  a228 := Try.isAgg132
  z228 := Try.sizeOf132
  v228 := Try.zeroValue132
  t229 := Try.underlying133
  a229 := Try.isAgg133
  z229 := Try.sizeOf133
  v229 := Try.zeroValue133
def Try.laysCompact_ren : Go.Shelf.Ren := ⟨fun | 20 => 49 | n => n, fun | 22 => 33 | 3 => 3 | 4 => 4 | 0 => 0 | n => n, fun | n => n⟩
theorem Try.laysCompact : Go.Proofs.Lays2.n20 Try.prog Try.laysCompact_ren where
  mixed := by kernel_rfl
  f20 := Try.func49.trans (congrArg some (by kernel_rfl))
  t0 := Try.underlying0
  a0 := Try.isAgg0
  z0 := Try.sizeOf0
  v0 := Try.zeroValue0
  t3 := Try.underlying3
  a3 := Try.isAgg3
  z3 := Try.sizeOf3
  v3 := Try.zeroValue3
  t4 := Try.underlying4
  a4 := Try.isAgg4
  z4 := Try.sizeOf4
  v4 := Try.zeroValue4
  t22 := Try.underlying33
  a22 := Try.isAgg33
  z22 := Try.sizeOf33
  v22 := Try.zeroValue33
  i3 := by kernel_rfl
end Go.Proofs.Ytjjgmpmhfodmeaa
namespace Go.Proofs.Ytjjgmpmhfodmeaa
open Go Go.Sk
structure CE where
  kind : Int
  op : Int
  n : Int
  o : Int
  off : Int
  len : Int
  lo : Int
  hi : Int
  l : List CE
structure Place where
  kind : Int
  o : Int
  off : Int
  len : Int
  e : List CE
structure Spot where
  o : Int
  slot : Int
structure St where
  s : List (List Int)
  counts : List Int
structure Wk where
  st : St
  lets : List Int
structure P2 where
  e0 : CE
  e1 : CE
structure RSt where
  s : List (List Int)
  counts : List Int
  lets : List Int

mutual
def E26 : CE → List D
  | .mk kind op n o off len lo hi l => [.i .u8 kind, .i .u8 op, .i .i64 n, .i .i64 o, .i .i64 off, .i .i64 len, .i .i64 lo, .i .i64 hi, .sl (E26s l)]
def E26s : List CE → List (List D)
  | [] => []
  | e :: l => E26 e :: E26s l
end
abbrev R26 (x : CE) : List D := [.i .u8 x.kind, .i .u8 x.op, .i .i64 x.n, .i .i64 x.o, .i .i64 x.off, .i .i64 x.len, .i .i64 x.lo, .i .i64 x.hi, .sl (List.map E26 x.l)]
theorem E26s_eq : ∀ l, E26s l = List.map E26 l
  | [] => rfl
  | e :: l => by rw [E26s, E26s_eq l]; rfl
theorem E26_eq (x : CE) : E26 x = R26 x := by
  cases x; simp only [E26, E26s_eq]
abbrev R29 (x : Place) : List D := [.i .u8 x.kind, .i .i64 x.o, .i .i64 x.off, .i .i64 x.len, .sl (List.map E26 x.e)]
abbrev E29 (x : Place) : List D := R29 x
abbrev R48 (x : P2) : List D := [.i .u8 x.e0.kind, .i .u8 x.e0.op, .i .i64 x.e0.n, .i .i64 x.e0.o, .i .i64 x.e0.off, .i .i64 x.e0.len, .i .i64 x.e0.lo, .i .i64 x.e0.hi, .sl (List.map E26 x.e0.l), .i .u8 x.e1.kind, .i .u8 x.e1.op, .i .i64 x.e1.n, .i .i64 x.e1.o, .i .i64 x.e1.off, .i .i64 x.e1.len, .i .i64 x.e1.lo, .i .i64 x.e1.hi, .sl (List.map E26 x.e1.l)]
abbrev E48 (x : P2) : List D := R48 x
abbrev R52 (x : Spot) : List D := [.i .i64 x.o, .i .i64 x.slot]
abbrev E52 (x : Spot) : List D := R52 x
abbrev E2 (x : Int) : List D := [.i .i64 x]
theorem E2_eq (x : Int) : E2 x = [.i .i64 x] := rfl
abbrev E56 (x : List Int) : List D := [.sl (List.map E2 x)]
theorem E56_eq (x : List Int) : E56 x = [.sl (List.map E2 x)] := rfl
abbrev E3 (x : Int) : List D := [.i .i64 x]
theorem E3_eq (x : Int) : E3 x = [.i .i64 x] := rfl
abbrev R78 (x : St) : List D := [.sl (List.map E56 x.s), .sl (List.map E3 x.counts)]
abbrev E78 (x : St) : List D := R78 x
abbrev R82 (x : Wk) : List D := [.ifc 78 (.ag (R78 x.st)), .sl (List.map E2 x.lets)]
abbrev E82 (x : Wk) : List D := R82 x
abbrev R86 (x : RSt) : List D := [.sl (List.map E56 x.s), .sl (List.map E3 x.counts), .sl (List.map E2 x.lets)]
abbrev E86 (x : RSt) : List D := R86 x
abbrev E23 (x : Int) : List D := [.i .u8 x]
theorem E23_eq (x : Int) : E23 x = [.i .u8 x] := rfl

def f63 (v0 : Int) (lo1 : Int) (hi2 : Int) : Bool :=
  ((decide (v0 ≥ lo1)) && (decide (v0 ≤ hi2)))

def f83 (v0 : Int) (lo1 : Int) (hi2 : Int) : Bool :=
  ((decide (v0 ≥ lo1)) && (decide (v0 ≤ hi2)))

def f61 (v0 : Int) : Bool :=
  (f63 v0 (-2147483648) 2147483647)

def f81 (v0 : Int) : Bool :=
  (f83 v0 (-2147483648) 2147483647)

def f43 (o0 : Int) : Bool :=
  ((decide (o0 ≥ 0)) && (decide (o0 < 2048)))

def f45 (o0 : Int) : Bool :=
  ((decide (o0 ≥ 0)) && (decide (o0 < 2048)))

def f44 (off0 : Int) (long1 : Int) : Bool :=
  ((((decide (off0 ≥ 0)) && (decide (long1 ≥ 1))) && (decide (off0 < 16384))) && (decide (long1 ≤ (IntKind.i64.wrap (16384 - off0)))))

def f46 (off0 : Int) (long1 : Int) : Bool :=
  (((((decide (off0 ≥ 0)) && (decide (off0 < 16384))) && (decide (long1 ≥ 1))) && (decide (long1 ≤ 16384))) && (decide ((IntKind.i64.wrap (off0 + long1)) ≤ 16384)))

def f100 (is0 : Bool) : Int :=
  (bif is0 then 1 else 0)

def f101 (b0 : Bool) : Int :=
  (bif b0 then 1 else 0)

def f64 (k0 : Int) : Option Int :=
  (bif (decide ((IntKind.i64.wrap k0) ≥ 15)) then some (-1) else Option.bind (idx [(-1), 0, 0, 1, 1, 2, 2, 2, 3, 1, 2, 0, 0, 1, 0] k0) fun x13 =>
  some x13)

def f87_l1 (s0 : List Int) (v1 : Int) (k22 : Unit → Option (Int)) : Nat → Int → Option (Int)
  | 0, _ => none
  | n+1, t24 =>
  (bif (decide (t24 < (List.length s0 : Int))) then Option.bind (idx s0 t24) fun x26 =>
  (bif (decide (v1 = x26)) then some t24 else (f87_l1 s0 v1 k22 n (IntKind.i64.wrap (t24 + 1)))) else (k22 ()))
def f87 (s0 : List Int) (v1 : Int) : Option Int :=
  letk (fun (_ : Unit) =>
  some (-1)) fun k22 =>
  (f87_l1 s0 v1 k22 (Int.toNat ((List.length s0 : Int) - 0) + 1) 0)

def f62 (s0 : List Int) (v1 : Int) : Option Bool :=
  Option.bind (f87 s0 v1) fun r12 =>
  some (decide (r12 ≥ 0))

def f55 (s0 : List (List Int)) (o1 : Int) (slot2 : Int) : Option Bool :=
  Option.bind (bif (((decide (o1 ≥ 0)) && (decide (o1 < (List.length s0 : Int)))) && (decide (slot2 ≥ 0))) then (Option.bind (idx s0 o1) fun x33 => some (decide (slot2 < (List.length x33 : Int)))) else some false) fun b32 =>
  some b32

def f30 (s0 : List (List Int)) (o1 : Int) (slot2 : Int) : Option Bool :=
  Option.bind (bif (((decide (o1 ≥ 0)) && (decide (o1 < (List.length s0 : Int)))) && (decide (slot2 ≥ 0))) then (Option.bind (idx s0 o1) fun x33 => some (decide (slot2 < (List.length x33 : Int)))) else some false) fun b32 =>
  some b32

def f41 (e0 : CE) (lets1 : Int) : Option Bool :=
  letk (fun (ok153 : Bool) (c01154 : Int) (c02155 : Int) (c03156 : Int) (c04157 : Int) (c05158 : Int) (c06159 : Int) (c07160 : Int) =>
  Option.bind (bif ok153 then (Option.bind (f64 e0.kind) fun r164 => some (decide ((List.length e0.l : Int) = r164))) else some false) fun b163 =>
  some (((((((b163 && (decide (c01154 = 0))) && (decide (c02155 = 0))) && (decide (c03156 = 0))) && (decide (c04157 = 0))) && (decide (c05158 = 0))) && (decide (c06159 = 0))) && (decide (c07160 = 0)))) fun k161 =>
  (bif (decide (e0.kind = 1)) then (k161 (f61 e0.n) e0.op 0 e0.o e0.off e0.len e0.lo e0.hi) else (bif (decide (e0.kind = 2)) then (k161 ((f43 e0.o) && (f44 e0.off 1)) e0.op e0.n 0 0 e0.len e0.lo e0.hi) else (bif (decide (e0.kind = 3)) then (k161 ((f43 e0.o) && (f44 e0.off e0.len)) e0.op e0.n 0 0 0 e0.lo e0.hi) else (bif (decide (e0.kind = 4)) then Option.bind (f62 [16, 17, 18] e0.op) fun r162 =>
  (k161 r162 0 e0.n e0.o e0.off e0.len e0.lo e0.hi) else (bif (decide (e0.kind = 5)) then (k161 ((decide (e0.op ≥ 1)) && (decide (e0.op ≤ 15))) 0 e0.n e0.o e0.off e0.len e0.lo e0.hi) else (bif (decide (e0.kind = 9)) then (k161 (((f61 e0.lo) && (f61 e0.hi)) && (decide (e0.lo ≤ e0.hi))) e0.op e0.n e0.o e0.off e0.len 0 0) else (bif (decide (e0.kind = 11)) then (k161 ((decide (e0.n ≥ 0)) && (decide ((IntKind.u64.wrap e0.n) < lets1))) e0.op 0 e0.o e0.off e0.len e0.lo e0.hi) else (bif (decide (e0.kind = 12)) then (k161 (f43 e0.o) e0.op e0.n 0 e0.off e0.len e0.lo e0.hi) else (bif (decide (e0.kind = 14)) then (k161 (f63 e0.n 0 7) e0.op 0 e0.o e0.off e0.len e0.lo e0.hi) else (k161 true e0.op e0.n e0.o e0.off e0.len e0.lo e0.hi))))))))))

def f88 (e0 : CE) (op1 : Bool) (n2 : Bool) (o3 : Bool) (off4 : Bool) (long5 : Bool) (bounds6 : Bool) : Bool :=
  ((((((op1 || (decide (e0.op = 0))) && (n2 || (decide (e0.n = 0)))) && (o3 || (decide (e0.o = 0)))) && (off4 || (decide (e0.off = 0)))) && (long5 || (decide (e0.len = 0)))) && (bounds6 || ((decide (e0.lo = 0)) && (decide (e0.hi = 0)))))

def f65 (e0 : CE) (lets1 : Int) : Bool :=
  (bif (decide (e0.kind = 1)) then (((f88 e0 false true false false false false) && (decide ((List.length e0.l : Int) = 0))) && (f81 e0.n)) else (bif (decide (e0.kind = 2)) then ((((f88 e0 false false true true false false) && (decide ((List.length e0.l : Int) = 0))) && (f45 e0.o)) && (f46 e0.off 1)) else (bif (decide (e0.kind = 3)) then ((((f88 e0 false false true true true false) && (decide ((List.length e0.l : Int) = 1))) && (f45 e0.o)) && (f46 e0.off e0.len)) else (bif (decide (e0.kind = 4)) then (((f88 e0 true false false false false false) && (decide ((List.length e0.l : Int) = 1))) && (((decide (e0.op = 16)) || (decide (e0.op = 17))) || (decide (e0.op = 18)))) else (bif (decide (e0.kind = 5)) then ((((f88 e0 true false false false false false) && (decide ((List.length e0.l : Int) = 2))) && (decide (e0.op ≥ 1))) && (decide (e0.op ≤ 15))) else letk (fun (t208 : Bool) =>
  (bif t208 then ((f88 e0 false false false false false false) && (decide ((List.length e0.l : Int) = 2))) else (bif (decide (e0.kind = 8)) then ((f88 e0 false false false false false false) && (decide ((List.length e0.l : Int) = 3))) else (bif (decide (e0.kind = 9)) then (((((f88 e0 false false false false false true) && (decide ((List.length e0.l : Int) = 1))) && (f81 e0.lo)) && (f81 e0.hi)) && (decide (e0.lo ≤ e0.hi))) else (bif (decide (e0.kind = 11)) then ((((f88 e0 false true false false false false) && (decide ((List.length e0.l : Int) = 0))) && (decide (e0.n ≥ 0))) && (decide ((IntKind.u64.wrap e0.n) < lets1))) else (bif (decide (e0.kind = 12)) then (((f88 e0 false false true false false false) && (decide ((List.length e0.l : Int) = 0))) && (f45 e0.o)) else (bif (decide (e0.kind = 13)) then ((f88 e0 false false false false false false) && (decide ((List.length e0.l : Int) = 1))) else (bif (decide (e0.kind = 14)) then ((((f88 e0 false true false false false false) && (decide ((List.length e0.l : Int) = 0))) && (decide (e0.n ≥ 0))) && (decide (e0.n < 8))) else false)))))))) fun k209 =>
  (bif (decide (e0.kind = 6)) then (k209 (decide (e0.kind = 6))) else (bif (decide (e0.kind = 7)) then (k209 (decide (e0.kind = 7))) else (k209 (decide (e0.kind = 10))))))))))

def f124 (w0 : St) (n1 : Int) : Option (Int × Bool) :=
  (bif (decide (n1 ≥ (List.length w0.counts : Int))) then some (0, false) else Option.bind (idx w0.counts n1) fun x23 =>
  some (x23, (f61 x23)))

def f125 (w0 : St) (o1 : Int) (slot2 : Int) : Option (Int × Bool) :=
  Option.bind (f55 w0.s o1 slot2) fun r30 =>
  (bif (!r30) then some (0, false) else Option.bind (idx w0.s o1) fun x31 =>
  Option.bind (idx x31 slot2) fun x32 =>
  some (x32, (f61 x32)))

def f68 (w0 : Wk) (e1 : CE) : Int × Bool :=
  (bif (decide (e1.kind = 12)) then ((IntKind.i64.wrap (e1.o + 1)), true) else (e1.n, true))

def f69 (w0 : Wk) (e1 : CE) : Option (Int × Bool) :=
  Option.bind (f125 w0.st e1.o e1.off) fun r18 =>
  some (r18.1, r18.2)

def f77 (w0 : Wk) (e1 : CE) : Option (Int × Bool) :=
  Option.bind (idx w0.lets (IntKind.i64.wrap ((IntKind.i64.wrap ((List.length w0.lets : Int) - 1)) - e1.n))) fun x20 =>
  some (x20, true)

def f79 (w0 : Wk) (e1 : CE) : Option (Int × Bool) :=
  Option.bind (f124 w0.st e1.n) fun r16 =>
  some (r16.1, r16.2)

def f70 (val : Wk → CE → Option (Int × Bool)) (w0 : Wk) (e1 : CE) : Option (Int × Bool) :=
  Option.bind (idx e1.l 0) fun x43 =>
  Option.bind (val w0 x43) fun r44 =>
  (bif (((!r44.2) || (decide (r44.1 < 0))) || (decide (r44.1 ≥ e1.len))) then some (0, false) else Option.bind (f125 w0.st e1.o (IntKind.i64.wrap (e1.off + r44.1))) fun r45 =>
  some (r45.1, r45.2))

def f71 (val : Wk → CE → Option (Int × Bool)) (w0 : Wk) (e1 : CE) : Option (Int × Bool) :=
  Option.bind (idx e1.l 0) fun x45 =>
  Option.bind (val w0 x45) fun r46 =>
  letk (fun (v47 : Int) =>
  some (v47, (r46.2 && (f61 v47)))) fun k48 =>
  (bif (decide (e1.op = 18)) then some ((IntKind.i64.wrap (1 - r46.1)), (r46.2 && (f63 r46.1 0 1))) else (bif (decide (e1.op = 17)) then (k48 (if (IntKind.i64.wrap (0 - r46.1)) > r46.1 then (IntKind.i64.wrap (0 - r46.1)) else r46.1)) else (k48 (IntKind.i64.wrap (0 - r46.1)))))

def f73 (val : Wk → CE → Option (Int × Bool)) (w0 : Wk) (e1 : CE) : Option (Int × Bool) :=
  Option.bind (idx e1.l 0) fun x57 =>
  Option.bind (val w0 x57) fun r58 =>
  (bif (((!r58.2) || (!(f63 r58.1 0 1))) || (decide (r58.1 = (f100 (decide (e1.kind = 7)))))) then some (r58.1, (r58.2 && (f63 r58.1 0 1))) else Option.bind (idx e1.l 1) fun x59 =>
  Option.bind (val w0 x59) fun r60 =>
  some (r60.1, (r60.2 && (f63 r60.1 0 1))))

def f74 (val : Wk → CE → Option (Int × Bool)) (w0 : Wk) (e1 : CE) : Option (Int × Bool) :=
  Option.bind (idx e1.l 0) fun x37 =>
  Option.bind (val w0 x37) fun r38 =>
  (bif ((!r38.2) || (!(f63 r38.1 0 1))) then some (0, false) else Option.bind (idx e1.l (IntKind.i64.wrap (2 - r38.1))) fun x39 =>
  Option.bind (val w0 x39) fun r40 =>
  some (r40.1, r40.2))

def f75 (val : Wk → CE → Option (Int × Bool)) (w0 : Wk) (e1 : CE) : Option (Int × Bool) :=
  Option.bind (idx e1.l 0) fun x30 =>
  Option.bind (val w0 x30) fun r31 =>
  some (r31.1, (r31.2 && (f63 r31.1 e1.lo e1.hi)))

def f76 (val : Wk → CE → Option (Int × Bool)) (w0 : Wk) (e1 : CE) : Option (Int × Bool) :=
  Option.bind (idx e1.l 0) fun x44 =>
  Option.bind (val w0 x44) fun r45 =>
  (bif (!r45.2) then some (0, false) else guardB (sliceOk w0.lets 0 (List.length w0.lets : Int)) <|
  guardB (appOk 8 (sliceF w0.lets 0 (List.length w0.lets : Int)) [r45.1]) <|
  Option.bind (idx e1.l 1) fun x48 =>
  Option.bind (val (Wk.mk w0.st ((sliceF w0.lets 0 (List.length w0.lets : Int)) ++ [r45.1])) x48) fun r49 =>
  some (r49.1, r49.2))

def f78 (val : Wk → CE → Option (Int × Bool)) (w0 : Wk) (e1 : CE) : Option (Int × Bool) :=
  Option.bind (idx e1.l 0) fun x33 =>
  Option.bind (val w0 x33) fun r34 =>
  (bif ((!r34.2) || (decide (r34.1 < 1))) then some (0, false) else Option.bind (f125 w0.st (IntKind.i64.wrap (r34.1 - 1)) 0) fun r35 =>
  some (r35.1, r35.2))

def f72 (val : Wk → CE → Option (Int × Bool)) (w0 : Wk) (e1 : CE) : Option (Int × Bool) :=
  Option.bind (idx e1.l 0) fun x149 =>
  Option.bind (val w0 x149) fun r150 =>
  (bif (!r150.2) then some (0, false) else Option.bind (idx e1.l 1) fun x151 =>
  Option.bind (val w0 x151) fun r152 =>
  (bif ((!r152.2) || (((decide (r152.1 = 0)) && (decide (e1.op ≥ 4))) && (decide (e1.op ≤ 6)))) then some (0, false) else letk (fun (v153 : Int) =>
  some (v153, (f61 v153))) fun k154 =>
  (bif (decide (e1.op = 1)) then (k154 (IntKind.i64.wrap (r150.1 + r152.1))) else (bif (decide (e1.op = 2)) then (k154 (IntKind.i64.wrap (r150.1 - r152.1))) else (bif (decide (e1.op = 3)) then (k154 (IntKind.i64.wrap (r150.1 * r152.1))) else (bif (decide (e1.op = 4)) then guardB (nz r152.1) <|
  (k154 (IntKind.i64.wrap (Int.tdiv r150.1 r152.1))) else (bif (decide (e1.op = 5)) then guardB (nz r152.1) <|
  (k154 (Int.tmod r150.1 r152.1)) else (bif (decide (e1.op = 6)) then guardB (nz r152.1) <|
  (bif ((!decide ((Int.tmod r150.1 r152.1) = 0)) && (!((decide ((Int.tmod r150.1 r152.1) < 0)) == (decide (r152.1 < 0))))) then (k154 (IntKind.i64.wrap ((Int.tmod r150.1 r152.1) + r152.1))) else (k154 (Int.tmod r150.1 r152.1))) else letk (fun (t158 : Bool) =>
  (bif t158 then some ((Option.getD (mpGet (mpPut (mpPut (mpPut ([] : List (Int × Int)) 13 (IntKind.i64.wrap (BitVec.ofInt IntKind.i64.bits r150.1 &&& BitVec.ofInt IntKind.i64.bits r152.1).toNat)) 14 (IntKind.i64.wrap (BitVec.ofInt IntKind.i64.bits r150.1 ||| BitVec.ofInt IntKind.i64.bits r152.1).toNat)) 15 (IntKind.i64.wrap (BitVec.ofInt IntKind.i64.bits r150.1 ^^^ BitVec.ofInt IntKind.i64.bits r152.1).toNat)) e1.op) 0), ((f63 r150.1 0 1) && (f63 r152.1 0 1))) else Option.bind (idx [(decide (r150.1 = r152.1)), (!decide (r150.1 = r152.1)), (decide (r150.1 < r152.1)), (decide (r150.1 ≤ r152.1)), (decide (r150.1 > r152.1)), (decide (r150.1 ≥ r152.1))] (IntKind.u8.wrap (e1.op - 7))) fun x160 =>
  (k154 (f100 x160)))) fun k159 =>
  (bif (decide (e1.op = 13)) then (k159 (decide (e1.op = 13))) else (bif (decide (e1.op = 14)) then (k159 (decide (e1.op = 14))) else (k159 (decide (e1.op = 15)))))))))))))

def f53s (val : Wk → CE → Option (Int × Bool)) (w0 : Wk) (e1 : CE) : Option (Int × Bool) :=
  (bif decide (e1.kind = 1) then some ((f68 w0 e1).1, (f68 w0 e1).2) else (bif decide (e1.kind = 2) then Option.bind (f69 w0 e1) fun r22 =>
  some (r22.1, r22.2) else (bif decide (e1.kind = 3) then Option.bind (f70 val w0 e1) fun r24 =>
  some (r24.1, r24.2) else (bif decide (e1.kind = 4) then Option.bind (f71 val w0 e1) fun r26 =>
  some (r26.1, r26.2) else (bif decide (e1.kind = 5) then Option.bind (f72 val w0 e1) fun r28 =>
  some (r28.1, r28.2) else (bif decide (e1.kind = 6) then Option.bind (f73 val w0 e1) fun r30 =>
  some (r30.1, r30.2) else (bif decide (e1.kind = 7) then Option.bind (f73 val w0 e1) fun r32 =>
  some (r32.1, r32.2) else (bif decide (e1.kind = 8) then Option.bind (f74 val w0 e1) fun r34 =>
  some (r34.1, r34.2) else (bif decide (e1.kind = 9) then Option.bind (f75 val w0 e1) fun r36 =>
  some (r36.1, r36.2) else (bif decide (e1.kind = 10) then Option.bind (f76 val w0 e1) fun r38 =>
  some (r38.1, r38.2) else (bif decide (e1.kind = 11) then Option.bind (f77 w0 e1) fun r40 =>
  some (r40.1, r40.2) else (bif decide (e1.kind = 12) then some ((f68 w0 e1).1, (f68 w0 e1).2) else (bif decide (e1.kind = 13) then Option.bind (f78 val w0 e1) fun r43 =>
  some (r43.1, r43.2) else (bif decide (e1.kind = 14) then Option.bind (f79 w0 e1) fun r45 =>
  some (r45.1, r45.2) else none))))))))))))))

/-- With fuel. -/
def f53 : Nat → Wk → CE → Option (Int × Bool)
  | 0 => fun _ _ => none
  | n + 1 => f53s (f53 n)

def f40s_l1 (may : Int → CE → Int → Int → Option (Bool × Int)) (e0 : CE) (lets1 : Int) (depth2 : Int) (k59 : Int → Option (Bool × Int)) : Nat → Int → Int → Option (Bool × Int)
  | 0, _, _ => none
  | n+1, t62, c0063 =>
  (bif (decide (t62 < (List.length e0.l : Int))) then Option.bind (idx e0.l t62) fun x66 =>
  letk (fun (in67 : Int) =>
  Option.bind (may c0063 x66 in67 (IntKind.i64.wrap (depth2 + 1))) fun r69 =>
  (bif (!r69.1) then some (false, r69.2) else (f40s_l1 may e0 lets1 depth2 k59 n (IntKind.i64.wrap (t62 + 1)) r69.2))) fun k68 =>
  (bif ((decide (e0.kind = 10)) && (decide (t62 = 1))) then (k68 (IntKind.u64.wrap (lets1 + 1))) else (k68 lets1)) else (k59 c0063))
def f40s (may : Int → CE → Int → Int → Option (Bool × Int)) (left : Int) (e0 : CE) (lets1 : Int) (depth2 : Int) : Option (Bool × Int) :=
  Option.bind (bif ((decide ((IntKind.i64.wrap (left - 1)) < 0)) || (decide (depth2 > 64))) then some true else (Option.bind (f41 e0 lets1) fun r57 => some (!r57))) fun b56 =>
  (bif b56 then some (false, (IntKind.i64.wrap (left - 1))) else letk (fun (c0058 : Int) =>
  some (true, c0058)) fun k59 =>
  (f40s_l1 may e0 lets1 depth2 k59 (Int.toNat ((List.length e0.l : Int) - 0) + 1) 0 (IntKind.i64.wrap (left - 1))))

/-- May, with fuel. -/
def f40 : Nat → Int → CE → Int → Int → Option (Bool × Int)
  | 0 => fun _ _ _ _ => none
  | n + 1 => f40s (f40 n)

def f13 (e0 : CE) (lets1 : Int) : Option Bool :=
  Option.bind (bif (decide (lets1 ≥ 0)) then (Option.bind (f40 100 256 e0 (IntKind.u64.wrap lets1) 1) fun r21 => some r21.1) else some false) fun b20 =>
  some b20

def f21 (s0 : List (List Int)) (counts1 : List Int) (e2 : CE) : Option (Int × Bool) :=
  Option.bind (f13 e2 0) fun r30 =>
  (bif (!r30) then some (0, false) else Option.bind (f53 100 (Wk.mk (St.mk s0 counts1) []) e2) fun r31 =>
  (bif (!r31.2) then some (0, false) else some (r31.1, true)))

def f15 (p0 : Place) : Option Bool :=
  Option.bind (bif (decide ((List.length p0.e : Int) = 1)) then (Option.bind (idx p0.e 0) fun x77 => Option.bind (f13 x77 0) fun r78 => some r78) else some false) fun b76 =>
  (bif (decide (p0.kind = 1)) then some ((((f43 p0.o) && (f44 p0.off 1)) && (decide (p0.len = 0))) && (decide ((List.length p0.e : Int) = 0))) else (bif (decide (p0.kind = 2)) then some (((f43 p0.o) && (f44 p0.off p0.len)) && b76) else some (((((decide (p0.kind = 3)) && (decide (p0.o = 0))) && (decide (p0.off = 0))) && (decide (p0.len = 0))) && b76)))

def f29 (s0 : List (List Int)) (p1 : Place) : Option (Spot × Bool) :=
  Option.bind (f15 p1) fun r70 =>
  (bif (!r70) then some ((Spot.mk 0 0), false) else letk (fun (c1071 : Int) (c1172 : Int) =>
  Option.bind (f55 s0 c1071 c1172) fun r78 =>
  (bif (!r78) then some ((Spot.mk 0 0), false) else some ((Spot.mk c1071 c1172), true))) fun k73 =>
  (bif (decide ((List.length p1.e : Int) = 1)) then Option.bind (idx p1.e 0) fun x74 =>
  Option.bind (f21 s0 [] x74) fun r75 =>
  letk (fun (t76 : Bool) =>
  (bif t76 then some ((Spot.mk 0 0), false) else (bif (decide (p1.kind = 2)) then (k73 p1.o (IntKind.i64.wrap (p1.off + r75.1))) else (k73 (IntKind.i64.wrap (r75.1 - 1)) p1.off)))) fun k77 =>
  (bif (!r75.2) then (k77 (!r75.2)) else (bif (decide (r75.1 < 0)) then (k77 (decide (r75.1 < 0))) else (k77 ((decide (p1.kind = 2)) && (decide (r75.1 ≥ p1.len)))))) else (k73 p1.o p1.off)))

def f42s_l1 (rec42 : CE → Int → Int → Int → Option (Int)) (e0 : CE) (lets1 : Int) (depth2 : Int) (k63 : Int → Option (Int)) : Nat → Int → Int → Option (Int)
  | 0, _, _ => none
  | n+1, left66, iq67 =>
  (bif ((decide (iq67 < (List.length e0.l : Int))) && (decide (left66 ≥ 0))) then letk (fun (in70 : Int) =>
  Option.bind (idx e0.l iq67) fun x72 =>
  Option.bind (rec42 x72 in70 (IntKind.i64.wrap (depth2 + 1)) left66) fun r73 =>
  (f42s_l1 rec42 e0 lets1 depth2 k63 n r73 (IntKind.i64.wrap (iq67 + 1)))) fun k71 =>
  (bif ((decide (e0.kind = 10)) && (decide (iq67 = 1))) then (k71 (IntKind.u64.wrap (lets1 + 1))) else (k71 lets1)) else (k63 left66))
def f42s (rec42 : CE → Int → Int → Int → Option (Int)) (e0 : CE) (lets1 : Int) (depth2 : Int) (left3 : Int) : Option Int :=
  (bif (((decide (depth2 > 64)) || (decide (left3 = 0))) || (!(f65 e0 lets1))) then some (-1) else letk (fun (left62 : Int) =>
  some left62) fun k63 =>
  (f42s_l1 rec42 e0 lets1 depth2 k63 9223372036854775808 (IntKind.i64.wrap (left3 - 1)) 0))

/-- With fuel. -/
def f42 : Nat → CE → Int → Int → Int → Option (Int)
  | 0 => fun _ _ _ _ => none
  | n + 1 => f42s (f42 n)

def f14 (e0 : CE) (lets1 : Int) : Option Bool :=
  (bif (decide (lets1 < 0)) then some false else Option.bind (f42 100 e0 (IntKind.u64.wrap lets1) 1 256) fun r15 =>
  some (decide (r15 ≥ 0)))

def f16 (p0 : Place) : Option Bool :=
  (bif (decide (p0.kind = 1)) then some ((((f45 p0.o) && (f46 p0.off 1)) && (decide (p0.len = 0))) && (decide ((List.length p0.e : Int) = 0))) else (bif (decide (p0.kind = 2)) then Option.bind (bif (((f45 p0.o) && (f46 p0.off p0.len)) && (decide ((List.length p0.e : Int) = 1))) then (Option.bind (idx p0.e 0) fun x82 => Option.bind (f14 x82 0) fun r83 => some r83) else some false) fun b81 =>
  some b81 else (bif (decide (p0.kind = 3)) then Option.bind (bif ((((decide (p0.o = 0)) && (decide (p0.off = 0))) && (decide (p0.len = 0))) && (decide ((List.length p0.e : Int) = 1))) then (Option.bind (idx p0.e 0) fun x85 => Option.bind (f14 x85 0) fun r86 => some r86) else some false) fun b84 =>
  some b84 else some false)))

def f80 (s0 : List (List Int)) (o1 : Int) (slot2 : Int) : Option (Int × Bool) :=
  Option.bind (f30 s0 o1 slot2) fun r35 =>
  Option.bind (bif (!r35) then some true else (Option.bind (idx s0 o1) fun x37 => Option.bind (idx x37 slot2) fun x38 => some (!(f81 x38)))) fun b36 =>
  (bif b36 then some (0, false) else Option.bind (idx s0 o1) fun x39 =>
  Option.bind (idx x39 slot2) fun x40 =>
  some (x40, true))

def f82 (op0 : Int) (v1 : Int) : Int × Bool :=
  (bif (decide (op0 = 16)) then ((IntKind.i64.wrap (0 - v1)), (f81 (IntKind.i64.wrap (0 - v1)))) else (bif (decide (op0 = 17)) then ((if (IntKind.i64.wrap (0 - v1)) > v1 then (IntKind.i64.wrap (0 - v1)) else v1), (f81 (if (IntKind.i64.wrap (0 - v1)) > v1 then (IntKind.i64.wrap (0 - v1)) else v1))) else ((IntKind.i64.wrap (1 - v1)), (f83 v1 0 1))))

def f84 (op0 : Int) (a1 : Int) (b2 : Int) : Option (Int × Bool) :=
  letk (fun (v114 : Int) =>
  some (v114, (f81 v114))) fun k115 =>
  (bif (decide (op0 = 1)) then (k115 (IntKind.i64.wrap (a1 + b2))) else (bif (decide (op0 = 2)) then (k115 (IntKind.i64.wrap (a1 - b2))) else (bif (decide (op0 = 3)) then (k115 (IntKind.i64.wrap (a1 * b2))) else letk (fun (t116 : Bool) =>
  (bif t116 then (bif (decide (b2 = 0)) then some (0, false) else guardB (nz b2) <|
  letk (fun (v119 : Int) =>
  (bif (decide (op0 = 6)) then guardB (nz b2) <|
  guardB (nz b2) <|
  (k115 (Int.tmod (IntKind.i64.wrap ((Int.tmod a1 b2) + b2)) b2)) else (k115 v119))) fun k120 =>
  (bif (decide (op0 = 5)) then guardB (nz b2) <|
  (k120 (Int.tmod a1 b2)) else (k120 (IntKind.i64.wrap (Int.tdiv a1 b2))))) else (bif (decide (op0 = 7)) then (k115 (f101 (decide (a1 = b2)))) else (bif (decide (op0 = 8)) then (k115 (f101 (!decide (a1 = b2)))) else (bif (decide (op0 = 9)) then (k115 (f101 (decide (a1 < b2)))) else (bif (decide (op0 = 10)) then (k115 (f101 (decide (a1 ≤ b2)))) else (bif (decide (op0 = 11)) then (k115 (f101 (decide (a1 > b2)))) else (bif (decide (op0 = 12)) then (k115 (f101 (decide (a1 ≥ b2)))) else (bif ((!(f83 a1 0 1)) || (!(f83 b2 0 1))) then some (0, false) else (bif (decide (op0 = 13)) then (k115 (IntKind.i64.wrap (a1 * b2))) else (bif (decide (op0 = 14)) then (k115 (if b2 > a1 then b2 else a1)) else (k115 (f101 (!decide (a1 = b2))))))))))))))) fun k117 =>
  (bif (decide (op0 = 4)) then (k117 (decide (op0 = 4))) else (bif (decide (op0 = 5)) then (k117 (decide (op0 = 5))) else (k117 (decide (op0 = 6))))))))

def f54s (rec54 : RSt → CE → Option (Int × Bool)) (w0 : RSt) (e1 : CE) : Option (Int × Bool) :=
  (bif (decide (e1.kind = 1)) then some (e1.n, true) else (bif (decide (e1.kind = 2)) then Option.bind (f80 w0.s e1.o e1.off) fun r234 =>
  some (r234.1, r234.2) else (bif (decide (e1.kind = 12)) then some ((IntKind.i64.wrap (e1.o + 1)), true) else (bif (decide (e1.kind = 11)) then Option.bind (idx w0.lets (IntKind.i64.wrap ((IntKind.i64.wrap ((List.length w0.lets : Int) - 1)) - e1.n))) fun x235 =>
  some (x235, true) else (bif (decide (e1.kind = 14)) then Option.bind (bif (decide (e1.n ≥ (List.length w0.counts : Int))) then some true else (Option.bind (idx w0.counts e1.n) fun x237 => some (!(f81 x237)))) fun b236 =>
  (bif b236 then some (0, false) else Option.bind (idx w0.counts e1.n) fun x238 =>
  some (x238, true)) else Option.bind (idx e1.l 0) fun x239 =>
  Option.bind (rec54 w0 x239) fun r240 =>
  (bif (!r240.2) then some (0, false) else (bif (decide (e1.kind = 3)) then (bif ((decide (r240.1 < 0)) || (decide (r240.1 ≥ e1.len))) then some (0, false) else Option.bind (f80 w0.s e1.o (IntKind.i64.wrap (e1.off + r240.1))) fun r241 =>
  some (r241.1, r241.2)) else (bif (decide (e1.kind = 13)) then (bif (decide (r240.1 < 1)) then some (0, false) else Option.bind (f80 w0.s (IntKind.i64.wrap (r240.1 - 1)) 0) fun r242 =>
  some (r242.1, r242.2)) else (bif (decide (e1.kind = 4)) then some ((f82 e1.op r240.1).1, (f82 e1.op r240.1).2) else (bif (decide (e1.kind = 9)) then some (r240.1, (f83 r240.1 e1.lo e1.hi)) else (bif (decide (e1.kind = 5)) then Option.bind (idx e1.l 1) fun x243 =>
  Option.bind (rec54 w0 x243) fun r244 =>
  (bif (!r244.2) then some (0, false) else Option.bind (f84 e1.op r240.1 r244.1) fun r245 =>
  some (r245.1, r245.2)) else (bif (decide (e1.kind = 10)) then guardB (appOk 8 [] w0.lets) <|
  guardB (appOk 8 ([] ++ w0.lets) [r240.1]) <|
  Option.bind (idx e1.l 1) fun x248 =>
  Option.bind (rec54 (RSt.mk w0.s w0.counts (([] ++ w0.lets) ++ [r240.1])) x248) fun r249 =>
  some (r249.1, r249.2) else (bif (!(f83 r240.1 0 1)) then some (0, false) else (bif (decide (e1.kind = 8)) then (bif (decide (r240.1 = 1)) then Option.bind (idx e1.l 1) fun x250 =>
  Option.bind (rec54 w0 x250) fun r251 =>
  some (r251.1, r251.2) else Option.bind (idx e1.l 2) fun x252 =>
  Option.bind (rec54 w0 x252) fun r253 =>
  some (r253.1, r253.2)) else (bif (((decide (e1.kind = 6)) && (decide (r240.1 = 0))) || ((decide (e1.kind = 7)) && (decide (r240.1 = 1)))) then some (r240.1, true) else Option.bind (idx e1.l 1) fun x254 =>
  Option.bind (rec54 w0 x254) fun r255 =>
  some (r255.1, (r255.2 && (f83 r255.1 0 1))))))))))))))))))

/-- With fuel. -/
def f54 : Nat → RSt → CE → Option (Int × Bool)
  | 0 => fun _ _ => none
  | n + 1 => f54s (f54 n)

def f22 (s0 : List (List Int)) (counts1 : List Int) (e2 : CE) : Option (Int × Bool) :=
  Option.bind (f14 e2 0) fun r28 =>
  (bif (!r28) then some (0, false) else Option.bind (f54 100 (RSt.mk s0 counts1 []) e2) fun r29 =>
  (bif (!r29.2) then some (0, false) else some (r29.1, true)))

def f35 (s0 : List (List Int)) (p1 : Place) : Option (Spot × Bool) :=
  Option.bind (f16 p1) fun r77 =>
  (bif (!r77) then some ((Spot.mk 0 0), false) else letk (fun (o78 : Int) (slot79 : Int) =>
  Option.bind (f30 s0 o78 slot79) fun r83 =>
  (bif (!r83) then some ((Spot.mk 0 0), false) else some ((Spot.mk o78 slot79), true))) fun k80 =>
  (bif (!decide (p1.kind = 1)) then Option.bind (idx p1.e 0) fun x81 =>
  Option.bind (f22 s0 [] x81) fun r82 =>
  (bif (((!r82.2) || ((decide (p1.kind = 2)) && ((decide (r82.1 < 0)) || (decide (r82.1 ≥ p1.len))))) || ((decide (p1.kind = 3)) && (decide (r82.1 < 1)))) then some ((Spot.mk 0 0), false) else (bif (decide (p1.kind = 2)) then (k80 p1.o (IntKind.i64.wrap (p1.off + r82.1))) else (k80 (IntKind.i64.wrap (r82.1 - 1)) p1.off))) else (k80 p1.o p1.off)))

def f34_l2 (s0 : List (List Int)) (at1 : Spot) (v2 : Int) (iq65 : Int) (k78 : (List Int) → Option (List (List Int))) : Nat → Int → (List Int) → Option (List (List Int))
  | 0, _, _ => none
  | na+1, k82, l83 =>
  Option.bind (idx s0 iq65) fun x88 =>
  (bif (decide (k82 < (List.length x88 : Int))) then letk (fun (l89 : List Int) (l91 : List Int) =>
  (f34_l2 s0 at1 v2 iq65 k78 na (IntKind.i64.wrap (k82 + 1)) l89)) fun k93 =>
  (bif ((decide (iq65 = at1.o)) && (decide (k82 = at1.slot))) then guardB (appOk 8 l83 [v2]) <|
  (k93 (l83 ++ [v2]) [v2]) else Option.bind (idx s0 iq65) fun x95 =>
  Option.bind (idx x95 k82) fun x96 =>
  guardB (appOk 8 l83 [x96]) <|
  (k93 (l83 ++ [x96]) [x96])) else (k78 l83))
def f34_l1 (s0 : List (List Int)) (at1 : Spot) (v2 : Int) (k61 : (List (List Int)) → Option (List (List Int))) : Nat → Int → (List (List Int)) → Option (List (List Int))
  | 0, _, _ => none
  | n+1, iq65, l66 =>
  (bif (decide (iq65 < (List.length s0 : Int))) then letk (fun (l71 : List (List Int)) (l73 : List (List Int)) =>
  (f34_l1 s0 at1 v2 k61 n (IntKind.i64.wrap (iq65 + 1)) l71)) fun k75 =>
  letk (fun (l76 : List Int) =>
  guardB (appOk 24 l66 [l76]) <|
  (k75 (l66 ++ [l76]) [l76])) fun k78 =>
  (f34_l2 s0 at1 v2 iq65 k78 9223372036854775808 0 []) else (k61 l66))
def f34 (s0 : List (List Int)) (at1 : Spot) (v2 : Int) : Option (List (List Int)) :=
  letk (fun (l59 : List (List Int)) =>
  some l59) fun k61 =>
  (f34_l1 s0 at1 v2 k61 9223372036854775808 0 [])

def f37_l2 (a0 : List (List Int)) (b1 : List (List Int)) (iq58 : Int) (k60 : Unit → Option (Bool)) : Nat → Int → Option (Bool)
  | 0, _ => none
  | na+1, k64 =>
  Option.bind (idx a0 iq58) fun x66 =>
  (bif (decide (k64 < (List.length x66 : Int))) then Option.bind (idx a0 iq58) fun x67 =>
  Option.bind (idx x67 k64) fun x68 =>
  Option.bind (idx b1 iq58) fun x69 =>
  Option.bind (idx x69 k64) fun x70 =>
  (bif (!decide (x68 = x70)) then some false else (f37_l2 a0 b1 iq58 k60 na (IntKind.i64.wrap (k64 + 1)))) else (k60 ()))
def f37_l1 (a0 : List (List Int)) (b1 : List (List Int)) (k56 : Unit → Option (Bool)) : Nat → Int → Option (Bool)
  | 0, _ => none
  | n+1, iq58 =>
  (bif (decide (iq58 < (List.length a0 : Int))) then letk (fun (_ : Unit) =>
  (f37_l1 a0 b1 k56 n (IntKind.i64.wrap (iq58 + 1)))) fun k60 =>
  Option.bind (idx a0 iq58) fun x61 =>
  Option.bind (idx b1 iq58) fun x62 =>
  (bif (!decide ((List.length x61 : Int) = (List.length x62 : Int))) then some false else (f37_l2 a0 b1 iq58 k60 9223372036854775808 0)) else (k56 ()))
def f37 (a0 : List (List Int)) (b1 : List (List Int)) : Option Bool :=
  (bif (!decide ((List.length a0 : Int) = (List.length b1 : Int))) then some false else letk (fun (_ : Unit) =>
  some true) fun k56 =>
  (f37_l1 a0 b1 k56 9223372036854775808 0))

def f86_l1 (s0 : List CE) (cb1 : CE → Option (Bool)) (k22 : Unit → Option (Int)) : Nat → Int → Option (Int)
  | 0, _ => none
  | n+1, t24 =>
  (bif (decide (t24 < (List.length s0 : Int))) then Option.bind (idx s0 t24) fun x26 =>
  Option.bind (cb1 x26) fun r27 =>
  (bif r27 then some t24 else (f86_l1 s0 cb1 k22 n (IntKind.i64.wrap (t24 + 1)))) else (k22 ()))
def f86 (s0 : List CE) (cb1 : CE → Option (Bool)) : Option Int :=
  letk (fun (_ : Unit) =>
  some (-1)) fun k22 =>
  (f86_l1 s0 cb1 k22 (Int.toNat ((List.length s0 : Int) - 0) + 1) 0)

def f58 (s0 : List CE) (cb1 : CE → Option (Bool)) : Option Bool :=
  Option.bind (f86 s0 cb1) fun r12 =>
  some (decide (r12 ≥ 0))

def f85_l1 (s0 : List (List Int)) (cb1 : (List Int) → Option (Bool)) (k22 : Unit → Option (Int)) : Nat → Int → Option (Int)
  | 0, _ => none
  | n+1, t24 =>
  (bif (decide (t24 < (List.length s0 : Int))) then Option.bind (idx s0 t24) fun x26 =>
  Option.bind (cb1 x26) fun r27 =>
  (bif r27 then some t24 else (f85_l1 s0 cb1 k22 n (IntKind.i64.wrap (t24 + 1)))) else (k22 ()))
def f85 (s0 : List (List Int)) (cb1 : (List Int) → Option (Bool)) : Option Int :=
  letk (fun (_ : Unit) =>
  some (-1)) fun k22 =>
  (f85_l1 s0 cb1 k22 (Int.toNat ((List.length s0 : Int) - 0) + 1) 0)

def f57 (l0 : List Int) : Bool :=
  (decide ((List.length l0 : Int) > 100))

def f56 (s0 : List (List Int)) (cb1 : (List Int) → Option (Bool)) : Option Bool :=
  Option.bind (f85 s0 cb1) fun r12 =>
  some (decide (r12 ≥ 0))

def f31 (s0 : List (List Int)) : Option Bool :=
  Option.bind (bif (decide ((List.length s0 : Int) > 100)) then some true else (Option.bind (f56 s0 (fun z0 => some (f57 z0))) fun r13 => some r13)) fun b12 =>
  some b12

def f32s (rec32 : CE → Option (Bool)) (e0 : CE) : Option Bool :=
  Option.bind (bif (decide (e0.kind = 13)) then some true else (Option.bind (f58 e0.l rec32) fun r14 => some r14)) fun b13 =>
  some b13

/-- With fuel. -/
def f32 : Nat → CE → Option (Bool)
  | 0 => fun _ => none
  | n + 1 => f32s (f32 n)

def f50s_l1 (rec50 : CE → Option (List Int)) (e0 : CE) (k42 : (List Int) → Option (List Int)) : Nat → Int → (List Int) → Option (List Int)
  | 0, _, _ => none
  | n+1, iq46, l47 =>
  (bif (decide (iq46 < (List.length e0.l : Int))) then Option.bind (idx e0.l iq46) fun x52 =>
  Option.bind (rec50 x52) fun r53 =>
  guardB (appOk 8 l47 r53) <|
  (f50s_l1 rec50 e0 k42 n (IntKind.i64.wrap (iq46 + 1)) (l47 ++ r53)) else (k42 l47))
def f50s (rec50 : CE → Option (List Int)) (e0 : CE) : Option (List Int) :=
  letk (fun (l36 : List Int) =>
  letk (fun (l40 : List Int) =>
  some l40) fun k42 =>
  (f50s_l1 rec50 e0 k42 9223372036854775808 0 l36)) fun k38 =>
  (bif ((decide (e0.kind = 2)) || (decide (e0.kind = 3))) then guardB (appOk 8 [] [e0.o]) <|
  (k38 ([] ++ [e0.o])) else (k38 []))

/-- With fuel. -/
def f50 : Nat → CE → Option (List Int)
  | 0 => fun _ => none
  | n + 1 => f50s (f50 n)

def f19_l2 (r36 : List Int) (o43 : Int) (l44 : List Int) (k51 : (List Int) → Option (List Int)) : Nat → Int → Option (List Int)
  | 0, _ => none
  | na+1, iq53 =>
  (bif (decide (iq53 < (List.length r36 : Int))) then Option.bind (idx r36 iq53) fun x55 =>
  (bif (decide (x55 = o43)) then guardB (appOk 8 l44 [o43]) <|
  (k51 (l44 ++ [o43])) else (f19_l2 r36 o43 l44 k51 na (IntKind.i64.wrap (iq53 + 1)))) else (k51 l44))
def f19_l1 (r36 : List Int) (k39 : (List Int) → Option (List Int)) : Nat → Int → (List Int) → Option (List Int)
  | 0, _, _ => none
  | n+1, o43, l44 =>
  (bif (decide (o43 < 2048)) then letk (fun (l49 : List Int) =>
  (f19_l1 r36 k39 n (IntKind.i64.wrap (o43 + 1)) l49)) fun k51 =>
  (f19_l2 r36 o43 l44 k51 9223372036854775808 0) else (k39 l44))
def f19 (e0 : CE) : Option (List Int) :=
  Option.bind (f14 e0 64) fun r35 =>
  (bif (!r35) then some [] else Option.bind (f50 100 e0) fun r36 =>
  letk (fun (l37 : List Int) =>
  some l37) fun k39 =>
  (f19_l1 r36 k39 9223372036854775808 0 []))

def f17_l1 (s10 : List Int) (s21 : List Int) (k29 : Unit → Option (Bool)) : Nat → Int → Option (Bool)
  | 0, _ => none
  | n+1, t31 =>
  (bif (decide (t31 < (List.length s10 : Int))) then Option.bind (idx s10 t31) fun x33 =>
  Option.bind (idx s21 t31) fun x34 =>
  (bif (!decide (x33 = x34)) then some false else (f17_l1 s10 s21 k29 n (IntKind.i64.wrap (t31 + 1)))) else (k29 ()))
def f17 (s10 : List Int) (s21 : List Int) : Option Bool :=
  (bif (!decide ((List.length s10 : Int) = (List.length s21 : Int))) then some false else letk (fun (_ : Unit) =>
  some true) fun k29 =>
  (f17_l1 s10 s21 k29 (Int.toNat ((List.length s10 : Int) - 0) + 1) 0))

def f59_l1 (s0 : List Int) (v1 : Int) (k22 : Unit → Option (Int)) : Nat → Int → Option (Int)
  | 0, _ => none
  | n+1, t24 =>
  (bif (decide (t24 < (List.length s0 : Int))) then Option.bind (idx s0 t24) fun x26 =>
  (bif (decide (v1 = x26)) then some t24 else (f59_l1 s0 v1 k22 n (IntKind.i64.wrap (t24 + 1)))) else (k22 ()))
def f59 (s0 : List Int) (v1 : Int) : Option Int :=
  letk (fun (_ : Unit) =>
  some (-1)) fun k22 =>
  (f59_l1 s0 v1 k22 (Int.toNat ((List.length s0 : Int) - 0) + 1) 0)

def f33 (s0 : List Int) (v1 : Int) : Option Bool :=
  Option.bind (f59 s0 v1) fun r12 =>
  some (decide (r12 ≥ 0))

def f23 (k0 : Int) (l1 : List CE) : CE :=
  (CE.mk k0 0 0 0 0 0 0 0 l1)

def f24 (s0 : List (List Int)) (counts1 : List Int) (e2 : CE) : Option Bool :=
  Option.bind (f21 s0 counts1 e2) fun r26 =>
  some ((!r26.2) && (decide (r26.1 = 0)))

def f26 (n0 : Int) : CE :=
  (CE.mk 1 0 n0 0 0 0 0 0 [])

def f27 (o0 : Int) (a1 : CE) (b2 : CE) : CE :=
  (CE.mk 5 o0 0 0 0 0 0 0 [a1, b2])

def f28 (e0 : CE) : CE :=
  (CE.mk 4 18 0 0 0 0 0 0 [e0])

def f38 (s0 : List (List Int)) (counts1 : List Int) (e2 : CE) (v3 : Int) : Option Bool :=
  Option.bind (f21 s0 counts1 e2) fun r29 =>
  some (r29.2 && (decide (r29.1 = v3)))

def f39 (o0 : Int) (off1 : Int) : CE :=
  (CE.mk 2 0 0 o0 off1 0 0 0 [])

def f52 (n0 : Int) : CE :=
  (CE.mk 11 0 n0 0 0 0 0 0 [])

def f51 (i0 : Int) : CE :=
  (CE.mk 3 0 0 1 1 2 0 0 [(f26 i0)])

def f25s_l1 (rec25 : CE → Int → Int → Option (CE)) (e0 : CE) (lets1 : Int) (v2 : Int) (k59 : (List CE) → Option (CE)) : Nat → Int → (List CE) → Option (CE)
  | 0, _, _ => none
  | n+1, t64, l65 =>
  (bif (decide (t64 < (List.length e0.l : Int))) then Option.bind (idx e0.l t64) fun x70 =>
  letk (fun (in71 : Int) =>
  Option.bind (rec25 x70 in71 v2) fun r73 =>
  guardB (appOk 80 l65 [r73]) <|
  (f25s_l1 rec25 e0 lets1 v2 k59 n (IntKind.i64.wrap (t64 + 1)) (l65 ++ [r73]))) fun k72 =>
  (bif ((decide (e0.kind = 10)) && (decide (t64 = 1))) then (k72 (IntKind.i64.wrap (lets1 + 1))) else (k72 lets1)) else (k59 l65))
def f25s (rec25 : CE → Int → Int → Option (CE)) (e0 : CE) (lets1 : Int) (v2 : Int) : Option CE :=
  (bif ((decide (e0.kind = 11)) && (decide (e0.n = lets1))) then some (f26 v2) else letk (fun (l57 : List CE) =>
  some (CE.mk e0.kind e0.op e0.n e0.o e0.off e0.len e0.lo e0.hi l57)) fun k59 =>
  (f25s_l1 rec25 e0 lets1 v2 k59 (Int.toNat ((List.length e0.l : Int) - 0) + 1) 0 []))

/-- With fuel. -/
def f25 : Nat → CE → Int → Int → Option (CE)
  | 0 => fun _ _ _ => none
  | n + 1 => f25s (f25 n)

def f47s_l1 (rec47 : (List Int) → CE → Option (List Int)) (l : List Int) (e0 : CE) : Nat → Int → (List Int) → Option (List Int)
  | 0, _, _ => none
  | n+1, t39, l40 =>
  (bif (decide (t39 < (List.length e0.l : Int))) then Option.bind (idx e0.l t39) fun x45 =>
  Option.bind (rec47 l40 x45) fun r46 =>
  (f47s_l1 rec47 l e0 n (IntKind.i64.wrap (t39 + 1)) r46) else some l40)
def f47s (rec47 : (List Int) → CE → Option (List Int)) (l : List Int) (e0 : CE) : Option (List Int) :=
  letk (fun (l32 : List Int) =>
  (f47s_l1 rec47 l e0 (Int.toNat ((List.length e0.l : Int) - 0) + 1) 0 l32)) fun k34 =>
  (bif ((decide (e0.kind = 2)) || (decide (e0.kind = 3))) then guardB (appOk 8 l [e0.o]) <|
  (k34 (l ++ [e0.o])) else (k34 l))

/-- With fuel. -/
def f47 : Nat → (List Int) → CE → Option (List Int)
  | 0 => fun _ _ => none
  | n + 1 => f47s (f47 n)

def f60 (s0 : List Int) : Option (List Int) := guardB (appOk 8 [] s0) (some s0)

def f48 (l : List Int) : Option (List Int) := guardB (decide (l.length < 4611686018427387904)) (some (l.mergeSort fun x y => decide (x ≤ y)))

def f49 (l : List Int) : Option (List Int) := some (Lib.compact l)

def f18 (e0 : CE) : Option (List Int) :=
  letk (fun (l17 : List Int) =>
  Option.bind (f48 l17) fun r22 =>
  Option.bind (f49 r22) fun r23 =>
  some r23) fun k19 =>
  Option.bind (f13 e0 64) fun r20 =>
  (bif r20 then Option.bind (f47 100 [] e0) fun r21 =>
  (k19 r21) else (k19 []))

def f20  : Option Bool :=
  Option.bind (f38 [[7], [1, 2, 3], ([] : List Int)] [4] (f39 0 0) 7) fun r185 =>
  Option.bind (bif r185 then (Option.bind (f24 [[7], [1, 2, 3], ([] : List Int)] [4] (f39 2 0)) fun r187 => some r187) else some false) fun b186 =>
  Option.bind (bif b186 then (Option.bind (f38 [[7], [1, 2, 3], ([] : List Int)] [4] (f51 1) 3) fun r189 => some r189) else some false) fun b188 =>
  Option.bind (bif b188 then (Option.bind (f24 [[7], [1, 2, 3], ([] : List Int)] [4] (f51 2)) fun r191 => some r191) else some false) fun b190 =>
  Option.bind (bif b190 then (Option.bind (f38 [[7], [1, 2, 3], ([] : List Int)] [4] (f27 6 (f26 (-7)) (f26 2)) 1) fun r193 => some r193) else some false) fun b192 =>
  Option.bind (bif b192 then (Option.bind (f38 [[7], [1, 2, 3], ([] : List Int)] [4] (f27 5 (f26 (-7)) (f26 2)) (-1)) fun r195 => some r195) else some false) fun b194 =>
  Option.bind (f38 [[7], [1, 2, 3], ([] : List Int)] [4] (f23 10 [(f26 5), (f27 3 (f52 0) (f39 0 0))]) 35) fun r196 =>
  Option.bind (bif r196 then (Option.bind (f38 [[7], [1, 2, 3], ([] : List Int)] [4] (f23 10 [(f26 1), (f23 10 [(f26 2), (f27 2 (f52 1) (f52 0))])]) (-1)) fun r198 => some r198) else some false) fun b197 =>
  Option.bind (f38 [[7], [1, 2, 3], ([] : List Int)] [4] (f23 13 [(CE.mk 12 0 0 0 0 0 0 0 [])]) 7) fun r199 =>
  Option.bind (bif r199 then (Option.bind (f24 [[7], [1, 2, 3], ([] : List Int)] [4] (f23 13 [(f26 0)])) fun r201 => some r201) else some false) fun b200 =>
  Option.bind (bif b200 then (Option.bind (f38 [[7], [1, 2, 3], ([] : List Int)] [4] (CE.mk 14 0 0 0 0 0 0 0 []) 4) fun r203 => some r203) else some false) fun b202 =>
  Option.bind (bif b202 then (Option.bind (f24 [[7], [1, 2, 3], ([] : List Int)] [4] (CE.mk 14 0 1 0 0 0 0 0 [])) fun r205 => some r205) else some false) fun b204 =>
  letk (fun (four206 : Bool) =>
  Option.bind (f29 [[5, 6]] (Place.mk 1 0 1 0 [])) fun r212 =>
  Option.bind (bif (((((b194 && b197) && b204) && four206) && r212.2) && (((decide (r212.1.o = 0)) && ((decide (r212.1.slot = 1)) && true)))) then (Option.bind (f13 (f52 0) 0) fun r214 => some (!r214)) else some false) fun b213 =>
  Option.bind (bif b213 then (Option.bind (f13 (f52 0) 1) fun r216 => some r216) else some false) fun b215 =>
  Option.bind (bif b215 then (Option.bind (f18 (f27 1 (f39 3 0) (f39 1 0))) fun r218 => Option.bind (f17 r218 [1, 3]) fun r219 => some r219) else some false) fun b217 =>
  some b217) fun k207 =>
  Option.bind (f38 [[7], [1, 2, 3], ([] : List Int)] [4] (f23 6 [(f26 0), (f27 7 (f27 4 (f26 1) (f26 0)) (f26 1))]) 0) fun r208 =>
  (bif r208 then Option.bind (f24 [[7], [1, 2, 3], ([] : List Int)] [4] (f23 6 [(f26 1), (f27 7 (f27 4 (f26 1) (f26 0)) (f26 1))])) fun r209 =>
  (bif r209 then Option.bind (f24 [[7], [1, 2, 3], ([] : List Int)] [4] (CE.mk 9 0 0 0 0 0 0 6 [(f39 0 0)])) fun r210 =>
  (bif r210 then Option.bind (f24 [[7], [1, 2, 3], ([] : List Int)] [4] (f27 1 (f26 2147483647) (f26 1))) fun r211 =>
  (k207 r211) else (k207 false)) else (k207 false)) else (k207 false))

def f60o (s0 : List Int) : Option (List Int) := guardB (appOk 8 [] s0) (some s0)

def f36_l1 (s0 : List (List Int)) (k49 : (List (List Int)) → Option (List (List Int))) : Nat → Int → (List (List Int)) → Option (List (List Int))
  | 0, _, _ => none
  | n+1, t53, l54 =>
  (bif (decide (t53 < (List.length s0 : Int))) then Option.bind (idx s0 t53) fun x59 =>
  Option.bind (f60o x59) fun r60 =>
  Option.bind (idx l54 t53) fun x62 =>
  (f36_l1 s0 k49 n (IntKind.i64.wrap (t53 + 1)) (List.set l54 (Int.toNat t53) r60)) else (k49 l54))
def f36 (s0 : List (List Int)) (at1 : Spot) (v2 : Int) : Option (List (List Int)) :=
  guardB (mkOk 24 (List.length s0 : Int)) <|
  letk (fun (l47 : List (List Int)) =>
  letk (fun (l63 : List (List Int)) =>
  some l63) fun k65 =>
  Option.bind (f55 s0 at1.o at1.slot) fun r66 =>
  (bif r66 then Option.bind (idx l47 at1.o) fun x67 =>
  Option.bind (idx x67 at1.slot) fun x68 =>
  (k65 (List.set l47 (Int.toNat at1.o) (List.set x67 (Int.toNat at1.slot) v2))) else (k65 l47))) fun k49 =>
  (f36_l1 s0 k49 (Int.toNat ((List.length s0 : Int) - 0) + 1) 0 (List.replicate (Int.toNat (List.length s0 : Int)) ([] : List Int)))

def f34o_l2 (s0 : List (List Int)) (at1 : Spot) (v2 : Int) (iq65 : Int) (k78 : (List Int) → Option (List (List Int))) : Nat → Int → (List Int) → Option (List (List Int))
  | 0, _, _ => none
  | na+1, k82, l83 =>
  Option.bind (idx s0 iq65) fun x88 =>
  (bif (decide (k82 < (List.length x88 : Int))) then letk (fun (l89 : List Int) (l91 : List Int) =>
  (f34o_l2 s0 at1 v2 iq65 k78 na (IntKind.i64.wrap (k82 + 1)) l89)) fun k93 =>
  (bif ((decide (iq65 = at1.o)) && (decide (k82 = at1.slot))) then guardB (appOk 8 l83 [v2]) <|
  (k93 (l83 ++ [v2]) [v2]) else Option.bind (idx s0 iq65) fun x95 =>
  Option.bind (idx x95 k82) fun x96 =>
  guardB (appOk 8 l83 [x96]) <|
  (k93 (l83 ++ [x96]) [x96])) else (k78 l83))
def f34o_l1 (s0 : List (List Int)) (at1 : Spot) (v2 : Int) (k61 : (List (List Int)) → Option (List (List Int))) : Nat → Int → (List (List Int)) → Option (List (List Int))
  | 0, _, _ => none
  | n+1, iq65, l66 =>
  (bif (decide (iq65 < (List.length s0 : Int))) then letk (fun (l71 : List (List Int)) (l73 : List (List Int)) =>
  (f34o_l1 s0 at1 v2 k61 n (IntKind.i64.wrap (iq65 + 1)) l71)) fun k75 =>
  letk (fun (l76 : List Int) =>
  guardB (appOk 24 l66 [l76]) <|
  (k75 (l66 ++ [l76]) [l76])) fun k78 =>
  (f34o_l2 s0 at1 v2 iq65 k78 9223372036854775808 0 []) else (k61 l66))
def f34o (s0 : List (List Int)) (at1 : Spot) (v2 : Int) : Option (List (List Int)) :=
  letk (fun (l59 : List (List Int)) =>
  some l59) fun k61 =>
  (f34o_l1 s0 at1 v2 k61 9223372036854775808 0 [])

def f4 (s0 : List (List Int)) (counts1 : List Int) (e2 : CE) : Option Bool :=
  Option.bind (f21 s0 counts1 e2) fun r40 =>
  Option.bind (f22 s0 counts1 e2) fun r41 =>
  Option.bind (bif ((decide (r40.1 = r41.1)) && ((r40.2 == r41.2))) then (Option.bind (f20) fun r43 => some r43) else some false) fun b42 =>
  some b42

def f5 (s0 : List (List Int)) (counts1 : List Int) (e2 : CE) : Option Bool :=
  Option.bind (f21 s0 counts1 e2) fun r44 =>
  Option.bind (bif ((r44.2 && (decide (r44.1 ≥ (-2147483648)))) && (decide (r44.1 ≤ 2147483647))) then (Option.bind (f14 e2 0) fun r46 => some r46) else some false) fun b45 =>
  Option.bind (bif (b45 || ((!r44.2) && (decide (r44.1 = 0)))) then (Option.bind (f20) fun r48 => some r48) else some false) fun b47 =>
  some b47

def f6 (s0 : List (List Int)) (counts1 : List Int) (a2 : CE) (b3 : CE) : Option Bool :=
  Option.bind (f14 (f23 10 [a2, b3]) 0) fun r85 =>
  (bif (!r85) then Option.bind (f13 (f23 10 [a2, b3]) 0) fun r86 =>
  Option.bind (bif (!r86) then (Option.bind (f24 s0 counts1 (f23 10 [a2, b3])) fun r88 => some r88) else some false) fun b87 =>
  Option.bind (bif b87 then (Option.bind (f20) fun r90 => some r90) else some false) fun b89 =>
  some b89 else Option.bind (f21 s0 counts1 a2) fun r91 =>
  Option.bind (f21 s0 counts1 (f23 10 [a2, b3])) fun r92 =>
  (bif (!r91.2) then Option.bind (bif ((!r92.2) && (decide (r92.1 = 0))) then (Option.bind (f20) fun r94 => some r94) else some false) fun b93 =>
  some b93 else Option.bind (f25 100 b3 0 r91.1) fun r95 =>
  Option.bind (f21 s0 counts1 r95) fun r96 =>
  Option.bind (bif ((decide (r92.1 = r96.1)) && ((r92.2 == r96.2))) then (Option.bind (f20) fun r98 => some r98) else some false) fun b97 =>
  some b97))

def f7 (a0 : Int) (b1 : Int) : Option Bool :=
  Option.bind (f21 [] [] (f27 4 (f26 (IntKind.i64.wrap a0)) (f26 (IntKind.i64.wrap b1)))) fun r173 =>
  Option.bind (f21 [] [] (f27 5 (f26 (IntKind.i64.wrap a0)) (f26 (IntKind.i64.wrap b1)))) fun r174 =>
  Option.bind (f21 [] [] (f27 6 (f26 (IntKind.i64.wrap a0)) (f26 (IntKind.i64.wrap b1)))) fun r175 =>
  (bif (decide ((IntKind.i64.wrap b1) = 0)) then Option.bind (bif ((((((!r173.2) && (!r174.2)) && (!r175.2)) && (decide (r173.1 = 0))) && (decide (r174.1 = 0))) && (decide (r175.1 = 0))) then (Option.bind (f20) fun r177 => some r177) else some false) fun b176 =>
  some b176 else (bif ((decide ((IntKind.i64.wrap a0) = (-2147483648))) && (decide ((IntKind.i64.wrap b1) = (-1)))) then Option.bind (bif ((((((!r173.2) && (decide (r173.1 = 0))) && r174.2) && (decide (r174.1 = 0))) && r175.2) && (decide (r175.1 = 0))) then (Option.bind (f20) fun r179 => some r179) else some false) fun b178 =>
  some b178 else Option.bind (bif ((((((r173.2 && r174.2) && r175.2) && (decide ((IntKind.i64.wrap ((IntKind.i64.wrap (r173.1 * (IntKind.i64.wrap b1))) + r174.1)) = (IntKind.i64.wrap a0)))) && ((((decide ((IntKind.i64.wrap (0 - (if (IntKind.i64.wrap (0 - (IntKind.i64.wrap b1))) > (IntKind.i64.wrap b1) then (IntKind.i64.wrap (0 - (IntKind.i64.wrap b1))) else (IntKind.i64.wrap b1)))) < r174.1)) && (decide (r174.1 < (if (IntKind.i64.wrap (0 - (IntKind.i64.wrap b1))) > (IntKind.i64.wrap b1) then (IntKind.i64.wrap (0 - (IntKind.i64.wrap b1))) else (IntKind.i64.wrap b1))))) && (decide ((IntKind.i64.wrap (0 - (if (IntKind.i64.wrap (0 - (IntKind.i64.wrap b1))) > (IntKind.i64.wrap b1) then (IntKind.i64.wrap (0 - (IntKind.i64.wrap b1))) else (IntKind.i64.wrap b1)))) < r175.1))) && (decide (r175.1 < (if (IntKind.i64.wrap (0 - (IntKind.i64.wrap b1))) > (IntKind.i64.wrap b1) then (IntKind.i64.wrap (0 - (IntKind.i64.wrap b1))) else (IntKind.i64.wrap b1)))))) && (decide ((IntKind.i64.wrap (r174.1 * (IntKind.i64.wrap a0))) ≥ 0))) && (decide ((IntKind.i64.wrap (r175.1 * (IntKind.i64.wrap b1))) ≥ 0))) then (guardB (nz (IntKind.i64.wrap b1)) <| some (decide ((Int.tmod (IntKind.i64.wrap (r175.1 - r174.1)) (IntKind.i64.wrap b1)) = 0))) else some false) fun b180 =>
  Option.bind (bif b180 then (Option.bind (f20) fun r183 => some r183) else some false) fun b182 =>
  some b182))

def f8_l1 (s0 : List (List Int)) (counts1 : List Int) (a2 : CE) (b3 : CE) (c4 : CE) (k113 : Unit → Option (Bool)) : Nat → Int → Option (Bool)
  | 0, _ => none
  | n+1, t115 =>
  (bif (decide (t115 < (List.length [(P2.mk (f28 (f23 6 [a2, b3])) (f23 7 [(f28 a2), (f28 b3)])), (P2.mk (f28 (f23 7 [a2, b3])) (f23 6 [(f28 a2), (f28 b3)])), (P2.mk (f28 (f23 8 [a2, b3, c4])) (f23 8 [a2, (f28 b3), (f28 c4)]))] : Int))) then letk (fun (c00117 : Int) (c01118 : Int) (c02119 : Int) (c03120 : Int) (c04121 : Int) (c05122 : Int) (c06123 : Int) (c07124 : Int) (c08125 : List CE) (c09126 : Int) (c010127 : Int) (c011128 : Int) (c012129 : Int) (c013130 : Int) (c014131 : Int) (c015132 : Int) (c016133 : Int) (c017134 : List CE) =>
  (f8_l1 s0 counts1 a2 b3 c4 k113 n (IntKind.i64.wrap (t115 + 1)))) fun k135 =>
  Option.bind (idx [(P2.mk (f28 (f23 6 [a2, b3])) (f23 7 [(f28 a2), (f28 b3)])), (P2.mk (f28 (f23 7 [a2, b3])) (f23 6 [(f28 a2), (f28 b3)])), (P2.mk (f28 (f23 8 [a2, b3, c4])) (f23 8 [a2, (f28 b3), (f28 c4)]))] t115) fun x136 =>
  Option.bind (f14 x136.e0 0) fun r137 =>
  Option.bind (bif (!r137) then some true else (Option.bind (f14 x136.e1 0) fun r139 => some (!r139))) fun b138 =>
  (bif b138 then (k135 x136.e0.kind x136.e0.op x136.e0.n x136.e0.o x136.e0.off x136.e0.len x136.e0.lo x136.e0.hi x136.e0.l x136.e1.kind x136.e1.op x136.e1.n x136.e1.o x136.e1.off x136.e1.len x136.e1.lo x136.e1.hi x136.e1.l) else Option.bind (f21 s0 counts1 x136.e0) fun r140 =>
  Option.bind (f21 s0 counts1 x136.e1) fun r141 =>
  (bif ((!decide (r140.1 = r141.1)) || (!(r140.2 == r141.2))) then some false else (k135 x136.e0.kind x136.e0.op x136.e0.n x136.e0.o x136.e0.off x136.e0.len x136.e0.lo x136.e0.hi x136.e0.l x136.e1.kind x136.e1.op x136.e1.n x136.e1.o x136.e1.off x136.e1.len x136.e1.lo x136.e1.hi x136.e1.l))) else (k113 ()))
def f8 (s0 : List (List Int)) (counts1 : List Int) (a2 : CE) (b3 : CE) (c4 : CE) : Option Bool :=
  letk (fun (_ : Unit) =>
  Option.bind (f20) fun r142 =>
  some r142) fun k113 =>
  (f8_l1 s0 counts1 a2 b3 c4 k113 (Int.toNat ((List.length [(P2.mk (f28 (f23 6 [a2, b3])) (f23 7 [(f28 a2), (f28 b3)])), (P2.mk (f28 (f23 7 [a2, b3])) (f23 6 [(f28 a2), (f28 b3)])), (P2.mk (f28 (f23 8 [a2, b3, c4])) (f23 8 [a2, (f28 b3), (f28 c4)]))] : Int) - 0) + 1) 0)

def f9 (s0 : List (List Int)) (o1 : Int) (off2 : Int) (long3 : Int) (index4 : CE) : Option Bool :=
  Option.bind (f16 (Place.mk 2 o1 off2 long3 [index4])) fun r108 =>
  Option.bind (bif (!r108) then some true else (Option.bind (f14 (CE.mk 3 0 0 o1 off2 long3 0 0 [index4]) 0) fun r110 => some (!r110))) fun b109 =>
  (bif b109 then Option.bind (f20) fun r111 =>
  some r111 else Option.bind (f29 s0 (Place.mk 2 o1 off2 long3 [index4])) fun r112 =>
  Option.bind (f21 s0 [] (CE.mk 3 0 0 o1 off2 long3 0 0 [index4])) fun r113 =>
  (bif (!r112.2) then Option.bind (bif ((!r113.2) && (decide (r113.1 = 0))) then (Option.bind (f20) fun r115 => some r115) else some false) fun b114 =>
  some b114 else Option.bind (f30 s0 r112.1.o r112.1.slot) fun r116 =>
  (bif (!r116) then some false else Option.bind (idx s0 r112.1.o) fun x117 =>
  Option.bind (idx x117 r112.1.slot) fun x118 =>
  (bif ((decide (x118 < (-2147483648))) || (decide (x118 > 2147483647))) then Option.bind (bif ((!r113.2) && (decide (r113.1 = 0))) then (Option.bind (f20) fun r120 => some r120) else some false) fun b119 =>
  some b119 else Option.bind (bif (r113.2 && (decide (r113.1 = x118))) then (Option.bind (f20) fun r122 => some r122) else some false) fun b121 =>
  some b121))))

def f11 (s0 : List (List Int)) (p1 : Place) (at2 : Spot) (v3 : Int) : Option Bool :=
  Option.bind (f31 s0) fun r68 =>
  (bif r68 then Option.bind (f20) fun r69 =>
  some r69 else Option.bind (f34 s0 (Spot.mk (-1) 0) 0) fun r70 =>
  Option.bind (f29 r70 p1) fun r71 =>
  Option.bind (f35 s0 p1) fun r72 =>
  Option.bind (f36 r70 at2 v3) fun r73 =>
  Option.bind (f34 s0 at2 v3) fun r74 =>
  Option.bind (bif ((((decide (r71.1.o = r72.1.o)) && ((decide (r71.1.slot = r72.1.slot)) && true))) && ((r71.2 == r72.2))) then (Option.bind (f37 r73 r74) fun r76 => some r76) else some false) fun b75 =>
  Option.bind (bif b75 then (Option.bind (f37 r70 s0) fun r78 => some r78) else some false) fun b77 =>
  Option.bind (bif b77 then (Option.bind (f20) fun r80 => some r80) else some false) fun b79 =>
  some b79)

def f12 (s0 : List (List Int)) (p1 : Place) (n2 : Int) : Option Bool :=
  Option.bind (f31 s0) fun r103 =>
  Option.bind (bif r103 then some true else (Option.bind (f16 p1) fun r105 => some (!r105))) fun b104 =>
  (bif b104 then Option.bind (f20) fun r106 =>
  some r106 else Option.bind (f29 s0 p1) fun r107 =>
  (bif (!r107.2) then Option.bind (bif (((decide (r107.1.o = 0)) && ((decide (r107.1.slot = 0)) && true))) then (Option.bind (f20) fun r109 => some r109) else some false) fun b108 =>
  some b108 else Option.bind (f30 s0 r107.1.o r107.1.slot) fun r110 =>
  (bif (!r110) then some false else Option.bind (f36 s0 r107.1 (IntKind.i64.wrap n2)) fun r111 =>
  letk (fun (t112 : Bool) =>
  (bif t112 then some false else Option.bind (bif (!decide (r107.1.slot = 0)) then some true else (Option.bind (f38 r111 [] (f23 13 [(CE.mk 12 0 0 r107.1.o 0 0 0 0 [])]) (IntKind.i64.wrap n2)) fun r121 => some r121)) fun b120 =>
  Option.bind (bif b120 then (Option.bind (f20) fun r123 => some r123) else some false) fun b122 =>
  some b122)) fun k113 =>
  Option.bind (f30 r111 r107.1.o r107.1.slot) fun r114 =>
  (bif (!r114) then (k113 true) else Option.bind (idx s0 r107.1.o) fun x115 =>
  Option.bind (idx x115 r107.1.slot) fun x116 =>
  Option.bind (f36 r111 r107.1 x116) fun r117 =>
  Option.bind (f37 r117 s0) fun r118 =>
  (bif (!r118) then (k113 true) else Option.bind (f38 r111 [] (f39 r107.1.o r107.1.slot) (IntKind.i64.wrap n2)) fun r119 =>
  (k113 (!r119)))))))

def f10 (s0 : List (List Int)) (counts1 : List Int) (e2 : CE) (o3 : Int) (l4 : List Int) : Option Bool :=
  Option.bind (f31 s0) fun r88 =>
  Option.bind (bif (r88 || (decide ((List.length s0 : Int) = 0))) then some true else (Option.bind (f14 e2 0) fun r90 => some (!r90))) fun b89 =>
  Option.bind (bif b89 then some true else (Option.bind (f32 100 e2) fun r92 => some r92)) fun b91 =>
  (bif b91 then Option.bind (f20) fun r93 =>
  some r93 else guardB (nz (List.length s0 : Int)) <|
  Option.bind (f18 e2) fun r95 =>
  Option.bind (f33 r95 (Int.tmod (IntKind.i64.wrap o3) (List.length s0 : Int))) fun r96 =>
  (bif r96 then Option.bind (f19 e2) fun r97 =>
  Option.bind (f33 r97 (Int.tmod (IntKind.i64.wrap o3) (List.length s0 : Int))) fun r98 =>
  Option.bind (bif r98 then (Option.bind (f20) fun r100 => some r100) else some false) fun b99 =>
  some b99 else Option.bind (f34o s0 (Spot.mk (-1) 0) 0) fun r101 =>
  Option.bind (idx r101 (Int.tmod (IntKind.i64.wrap o3) (List.length s0 : Int))) fun x103 =>
  Option.bind (f21 s0 counts1 e2) fun r104 =>
  Option.bind (f21 (List.set r101 (Int.toNat (Int.tmod (IntKind.i64.wrap o3) (List.length s0 : Int))) l4) counts1 e2) fun r105 =>
  Option.bind (bif ((decide (r104.1 = r105.1)) && ((r104.2 == r105.2))) then (Option.bind (f20) fun r107 => some r107) else some false) fun b106 =>
  some b106))
end Go.Proofs.Ytjjgmpmhfodmeaa
