/- Layer 6: the functions as functions over data. -/
import Derived.Test.YteafckpdbmncfaaDoorT
namespace Go.Proofs.YteafckpdbmncfaaDoor
open Go Go.Sk
structure CompRow where
  name : ByteArray
  sub : Int
  has : Bool
  default_ : Int
  variant : Bool
  when : List Int
structure Ty where
  kind : Int
  name : ByteArray
  parent : Int
  first : Int
  lits : List ByteArray
  index : Int
  elem : Int
  disc : Int
  discName : ByteArray
  has : Bool
  default_ : Int
  comps : List CompRow
  target : Int
  formal : Int
  limited : Bool
  priv : Int
  full : Int
  level : Int
structure Subt where
  t : Int
  lo : Int
  hi : Int
structure Table where
  types : List Ty
  subs : List Subt
  ents : SlV
  gens : SlV
  insts : SlV
structure View where
  table : Table
structure Checker where
  view : View
  ty : Int
  y : Ty
  first : Subt

abbrev E9 (x : ByteArray) : List D := [.s x]
theorem E9_eq (x : ByteArray) : E9 x = [.s x] := rfl
abbrev E2 (x : Int) : List D := [.i .i64 x]
theorem E2_eq (x : Int) : E2 x = [.i .i64 x] := rfl
abbrev R56 (x : CompRow) : List D := [.s x.name, .i .i64 x.sub, .b x.has, .i .i64 x.default_, .b x.variant, .sl (List.map E2 x.when)]
abbrev E56 (x : CompRow) : List D := R56 x
theorem E56_eq (x : CompRow) : E56 x = R56 x := rfl
abbrev R54 (x : Ty) : List D := [.i .u8 x.kind, .s x.name, .i .i64 x.parent, .i .i64 x.first, .sl (List.map E9 x.lits), .i .i64 x.index, .i .i64 x.elem, .i .i64 x.disc, .s x.discName, .b x.has, .i .i64 x.default_, .sl (List.map E56 x.comps), .i .i64 x.target, .i .u8 x.formal, .b x.limited, .i .i64 x.priv, .i .i64 x.full, .i .i64 x.level]
abbrev E54 (x : Ty) : List D := R54 x
theorem E54_eq (x : Ty) : E54 x = R54 x := rfl
abbrev R40 (x : Subt) : List D := [.i .i64 x.t, .i .i64 x.lo, .i .i64 x.hi]
abbrev E40 (x : Subt) : List D := R40 x
theorem E40_eq (x : Subt) : E40 x = R40 x := rfl
abbrev R28 (x : Table) : List D := [.sl (List.map E54 x.types), .sl (List.map E40 x.subs), .v (SlV.v x.ents), .v (SlV.v x.gens), .v (SlV.v x.insts)]
abbrev E28 (x : Table) : List D := R28 x
abbrev R61 (x : View) : List D := [.sl (List.map E54 x.table.types), .sl (List.map E40 x.table.subs), .v (SlV.v x.table.ents), .v (SlV.v x.table.gens), .v (SlV.v x.table.insts)]
abbrev E61 (x : View) : List D := R61 x
abbrev R104 (x : Checker) : List D := [.sl (List.map E54 x.view.table.types), .sl (List.map E40 x.view.table.subs), .v (SlV.v x.view.table.ents), .v (SlV.v x.view.table.gens), .v (SlV.v x.view.table.insts), .i .i64 x.ty, .i .u8 x.y.kind, .s x.y.name, .i .i64 x.y.parent, .i .i64 x.y.first, .sl (List.map E9 x.y.lits), .i .i64 x.y.index, .i .i64 x.y.elem, .i .i64 x.y.disc, .s x.y.discName, .b x.y.has, .i .i64 x.y.default_, .sl (List.map E56 x.y.comps), .i .i64 x.y.target, .i .u8 x.y.formal, .b x.y.limited, .i .i64 x.y.priv, .i .i64 x.y.full, .i .i64 x.y.level, .i .i64 x.first.t, .i .i64 x.first.lo, .i .i64 x.first.hi]
abbrev E104 (x : Checker) : List D := R104 x
abbrev E3 (x : Int) : List D := [.i .i64 x]
theorem E3_eq (x : Int) : E3 x = [.i .i64 x] := rfl
abbrev E5 (x : Int) : List D := [.i .u8 x]
def f10_l1 (t0 : Table) (k77 : (List Ty) → Option (Table)) : Nat → Int → (List Ty) → Option (Table)
  | 0, _, _ => none
  | n+1, t81, l82 =>
  (bif (decide (t81 < (List.length (([] : List Ty) ++ (sliceF t0.types 0 (if 40 < (List.length t0.types : Int) then 40 else (List.length t0.types : Int)))) : Int))) then Option.bind (idx l82 t81) fun x87 =>
  Option.bind (idx l82 t81) fun x88 =>
  guardB (sliceOk x87.lits 0 (if 70 < (List.length x88.lits : Int) then 70 else (List.length x88.lits : Int))) <|
  Option.bind (idx l82 t81) fun x90 =>
  Option.bind (idx (List.set l82 (Int.toNat t81) (Ty.mk x90.kind x90.name x90.parent x90.first (sliceF x87.lits 0 (if 70 < (List.length x88.lits : Int) then 70 else (List.length x88.lits : Int))) x90.index x90.elem x90.disc x90.discName x90.has x90.default_ x90.comps x90.target x90.formal x90.limited x90.priv x90.full x90.level)) t81) fun x91 =>
  Option.bind (idx (List.set l82 (Int.toNat t81) (Ty.mk x90.kind x90.name x90.parent x90.first (sliceF x87.lits 0 (if 70 < (List.length x88.lits : Int) then 70 else (List.length x88.lits : Int))) x90.index x90.elem x90.disc x90.discName x90.has x90.default_ x90.comps x90.target x90.formal x90.limited x90.priv x90.full x90.level)) t81) fun x92 =>
  guardB (sliceOk x91.comps 0 (if 20 < (List.length x92.comps : Int) then 20 else (List.length x92.comps : Int))) <|
  Option.bind (idx (List.set l82 (Int.toNat t81) (Ty.mk x90.kind x90.name x90.parent x90.first (sliceF x87.lits 0 (if 70 < (List.length x88.lits : Int) then 70 else (List.length x88.lits : Int))) x90.index x90.elem x90.disc x90.discName x90.has x90.default_ x90.comps x90.target x90.formal x90.limited x90.priv x90.full x90.level)) t81) fun x94 =>
  (f10_l1 t0 k77 n (IntKind.i64.wrap (t81 + 1)) (List.set (List.set l82 (Int.toNat t81) (Ty.mk x90.kind x90.name x90.parent x90.first (sliceF x87.lits 0 (if 70 < (List.length x88.lits : Int) then 70 else (List.length x88.lits : Int))) x90.index x90.elem x90.disc x90.discName x90.has x90.default_ x90.comps x90.target x90.formal x90.limited x90.priv x90.full x90.level)) (Int.toNat t81) (Ty.mk x94.kind x94.name x94.parent x94.first x94.lits x94.index x94.elem x94.disc x94.discName x94.has x94.default_ (sliceF x91.comps 0 (if 20 < (List.length x92.comps : Int) then 20 else (List.length x92.comps : Int))) x94.target x94.formal x94.limited x94.priv x94.full x94.level))) else (k77 l82))
def f10 (t0 : Table) : Option Table :=
  guardB (sliceOk t0.types 0 (if 40 < (List.length t0.types : Int) then 40 else (List.length t0.types : Int))) <|
  guardB (appOk 184 ([] : List Ty) (sliceF t0.types 0 (if 40 < (List.length t0.types : Int) then 40 else (List.length t0.types : Int)))) <|
  guardB (sliceOk t0.subs 0 (if 60 < (List.length t0.subs : Int) then 60 else (List.length t0.subs : Int))) <|
  letk (fun (l75 : List Ty) =>
  some (Table.mk l75 (sliceF t0.subs 0 (if 60 < (List.length t0.subs : Int) then 60 else (List.length t0.subs : Int))) (SlV.mk none 0 0) (SlV.mk none 0 0) (SlV.mk none 0 0))) fun k77 =>
  (f10_l1 t0 k77 (Int.toNat ((List.length (([] : List Ty) ++ (sliceF t0.types 0 (if 40 < (List.length t0.types : Int) then 40 else (List.length t0.types : Int)))) : Int) - 0) + 1) 0 (([] : List Ty) ++ (sliceF t0.types 0 (if 40 < (List.length t0.types : Int) then 40 else (List.length t0.types : Int)))))

def f49 (l0 : List Ty) (i1 : Int) : Option (Ty × Bool) :=
  (bif ((decide (i1 < 0)) || (decide (i1 ≥ (List.length l0 : Int)))) then some ((Ty.mk 0 ByteArray.empty 0 0 [] 0 0 0 ByteArray.empty false 0 [] 0 0 false 0 0 0), false) else Option.bind (idx l0 i1) fun x22 =>
  some (x22, true))

def f52 (l0 : List Subt) (i1 : Int) : Option (Subt × Bool) :=
  (bif ((decide (i1 < 0)) || (decide (i1 ≥ (List.length l0 : Int)))) then some ((Subt.mk 0 0 0), false) else Option.bind (idx l0 i1) fun x22 =>
  some (x22, true))

def f40 (t0 : View) (sub1 : Int) : Option (Ty × Subt × Bool) :=
  Option.bind (f52 t0.table.subs sub1) fun r37 =>
  (bif (!r37.2) then some ((Ty.mk 0 ByteArray.empty 0 0 [] 0 0 0 ByteArray.empty false 0 [] 0 0 false 0 0 0), r37.1, false) else Option.bind (f49 t0.table.types r37.1.t) fun r38 =>
  some (r38.1, r37.1, r38.2))

def f43 (t0 : View) (sub1 : Int) : Option (Int × Int × Bool) :=
  Option.bind (f40 t0 sub1) fun r32 =>
  (bif ((!decide (r32.1.kind = 2)) && (!decide (r32.1.kind = 3))) then some (0, 0, false) else some (r32.2.1.lo, r32.2.1.hi, true))

def f41 (t0 : View) (sub1 : Int) (most2 : Int) : Option Int :=
  Option.bind (f43 t0 sub1) fun r42 =>
  (bif (((!r42.2.2) || (decide (r42.1 > r42.2.1))) || (decide ((IntKind.u64.wrap ((IntKind.u64.wrap r42.2.1) - (IntKind.u64.wrap r42.1))) ≥ (IntKind.u64.wrap most2)))) then some 0 else some (IntKind.i64.wrap ((IntKind.i64.wrap (r42.2.1 - r42.1)) + 1)))

def f42 (t0 : View) (sub1 : Int) (v2 : Int) : Option Bool :=
  Option.bind (f43 t0 sub1) fun r32 =>
  some ((r32.2.2 && (decide (v2 ≥ r32.1))) && (decide (v2 ≤ r32.2.1)))

def f11 (t0 : Table) (sub1 : Int) (index2 : Int) : Option (Int × Bool) :=
  Option.bind (f40 (View.mk t0) sub1) fun r57 =>
  Option.bind (bif (!decide (r57.1.kind = 4)) then some true else (Option.bind (f41 (View.mk t0) r57.1.index 64) fun r59 => some (decide (r59 = 0)))) fun b58 =>
  Option.bind (bif b58 then some true else (Option.bind (f42 (View.mk t0) r57.1.index index2) fun r61 => some (!r61))) fun b60 =>
  (bif b60 then some (0, false) else Option.bind (f43 (View.mk t0) r57.1.index) fun r62 =>
  some ((IntKind.i64.wrap (index2 - r62.1)), true))

def f51 (i0 : Int) (n1 : Int) : Bool :=
  ((decide (i0 ≥ 0)) && (decide (i0 < n1)))

def f44 (t0 : Table) (sub1 : Int) : Option Int :=
  Option.bind (bif (!(f51 sub1 (List.length t0.subs : Int))) then some true else (Option.bind (idx t0.subs sub1) fun x39 => some (!(f51 x39.t (List.length t0.types : Int))))) fun b38 =>
  (bif b38 then some 0 else Option.bind (idx t0.subs sub1) fun x40 =>
  Option.bind (idx t0.types x40.t) fun x41 =>
  some x41.kind)

def f56 (t0 : Table) (sub1 : Int) : Option Bool :=
  Option.bind (f44 t0 sub1) fun r18 =>
  Option.bind (bif (decide (r18 = 2)) then some true else (Option.bind (f44 t0 sub1) fun r20 => some (decide (r20 = 3)))) fun b19 =>
  some b19

def f26 (t0 : Table) (sub1 : Int) : Option (Int × Int × Bool) :=
  Option.bind (f56 t0 sub1) fun r26 =>
  (bif (!r26) then some (0, 0, false) else Option.bind (idx t0.subs sub1) fun x27 =>
  Option.bind (idx t0.subs sub1) fun x28 =>
  some (x27.lo, x28.hi, true))

def f78 (t0 : Table) (sub1 : Int) (most2 : Int) : Option Bool :=
  Option.bind (f26 t0 sub1) fun r37 =>
  some ((r37.2.2 && (decide (r37.1 ≤ r37.2.1))) && (decide ((IntKind.u64.wrap ((IntKind.u64.wrap r37.2.1) - (IntKind.u64.wrap r37.1))) < (IntKind.u64.wrap most2))))

def f59_l1 (k115 : (List Int) → Option (List Int)) (x117 : Ty) (r119 : Int × Int × Bool) : Nat → Int → (List Int) → Option (List Int)
  | 0, _, _ => none
  | n+1, iq123, l124 =>
  (bif (decide (iq123 ≤ (IntKind.u64.wrap ((IntKind.u64.wrap r119.2.1) - (IntKind.u64.wrap r119.1))))) then guardB (appOk 8 l124 [x117.elem]) <|
  (f59_l1 k115 x117 r119 n (IntKind.u64.wrap (iq123 + 1)) (l124 ++ [x117.elem])) else (k115 l124))
def f59_l2 (k132 : (List Int) → Option (List Int)) (x134 : Ty) : Nat → Int → (List Int) → Option (List Int)
  | 0, _, _ => none
  | n+1, iq142, l143 =>
  (bif (decide (iq142 < (List.length x134.comps : Int))) then Option.bind (idx x134.comps iq142) fun x148 =>
  guardB (appOk 8 l143 [x148.sub]) <|
  (f59_l2 k132 x134 n (IntKind.i64.wrap (iq142 + 1)) (l143 ++ [x148.sub])) else (k132 l143))
def f59 (t0 : Table) (sub1 : Int) : Option (List Int) :=
  Option.bind (f44 t0 sub1) fun r112 =>
  (bif ((((decide (r112 = 2)) || (decide (r112 = 3))) || (decide (r112 = 6))) || (decide (r112 = 7))) then some [sub1] else letk (fun (l113 : List Int) =>
  letk (fun (l130 : List Int) =>
  some l130) fun k132 =>
  (bif (decide (r112 = 5)) then Option.bind (idx t0.subs sub1) fun x133 =>
  Option.bind (idx t0.types x133.t) fun x134 =>
  letk (fun (l135 : List Int) =>
  (f59_l2 k132 x134 9223372036854775808 0 l135)) fun k137 =>
  (bif (!decide (x134.disc = (-1))) then guardB (appOk 8 l113 [x134.disc]) <|
  (k137 (l113 ++ [x134.disc])) else (k137 l113)) else (k132 l113))) fun k115 =>
  (bif (decide (r112 = 4)) then Option.bind (idx t0.subs sub1) fun x116 =>
  Option.bind (idx t0.types x116.t) fun x117 =>
  Option.bind (f78 t0 x117.index 64) fun r118 =>
  (bif (!r118) then some [] else Option.bind (f26 t0 x117.index) fun r119 =>
  (f59_l1 k115 x117 r119 9223372036854775808 0 [])) else (k115 [])))

def f30 (t0 : Table) (sub1 : Int) : Option Int :=
  Option.bind (f59 t0 sub1) fun r12 =>
  some (List.length r12 : Int)

def f45 (t0 : Table) (sub1 : Int) (v2 : Int) : Option Bool :=
  Option.bind (f26 t0 sub1) fun r32 =>
  some ((r32.2.2 && (decide (v2 ≥ r32.1))) && (decide (v2 ≤ r32.2.1)))

def f12 (t0 : Table) (sub1 : Int) (index2 : Int) : Option (Int × Bool) :=
  Option.bind (f44 t0 sub1) fun r62 =>
  Option.bind (bif (!decide (r62 = 4)) then some true else (Option.bind (f30 t0 sub1) fun r64 => some (decide (r64 = 0)))) fun b63 =>
  Option.bind (bif b63 then some true else (Option.bind (idx t0.subs sub1) fun x66 => Option.bind (idx t0.types x66.t) fun x67 => Option.bind (f45 t0 x67.index index2) fun r68 => some (!r68))) fun b65 =>
  (bif b65 then some (0, false) else Option.bind (idx t0.subs sub1) fun x69 =>
  Option.bind (idx t0.types x69.t) fun x70 =>
  Option.bind (f26 t0 x70.index) fun r71 =>
  some ((IntKind.i64.wrap (index2 - r71.1)), true))

def f69_l1 (s0 : List CompRow) (cb1 : CompRow → Option (Bool)) (k22 : Unit → Option (Int)) : Nat → Int → Option (Int)
  | 0, _ => none
  | n+1, t24 =>
  (bif (decide (t24 < (List.length s0 : Int))) then Option.bind (idx s0 t24) fun x26 =>
  Option.bind (cb1 x26) fun r27 =>
  (bif r27 then some t24 else (f69_l1 s0 cb1 k22 n (IntKind.i64.wrap (t24 + 1)))) else (k22 ()))
def f69 (s0 : List CompRow) (cb1 : CompRow → Option (Bool)) : Option Int :=
  letk (fun (_ : Unit) =>
  some (-1)) fun k22 =>
  (f69_l1 s0 cb1 k22 (Int.toNat ((List.length s0 : Int) - 0) + 1) 0)

def f70 (c0 : CompRow) (cap1 : ByteArray) : Bool :=
  ((c0.name.toList == cap1.toList))

def f46 (t0 : View) (sub1 : Int) (name2 : ByteArray) : Option (Int × (Option CompRow) × Bool) :=
  Option.bind (f40 t0 sub1) fun r47 =>
  (bif (!decide (r47.1.kind = 5)) then some (0, none, false) else letk (fun (slot48 : Int) =>
  Option.bind (f69 r47.1.comps (fun z0 => some (f70 z0 name2))) fun r50 =>
  (bif (decide (r50 < 0)) then some (0, none, false) else Option.bind (idx r47.1.comps r50) fun x51 =>
  some ((IntKind.i64.wrap (slot48 + r50)), (some x51), true))) fun k49 =>
  (bif (!decide (r47.1.disc = (-1))) then (bif ((r47.1.discName.toList == name2.toList)) then some (0, none, true) else (k49 1)) else (k49 0)))

def f13 (t0 : Table) (sub1 : Int) (name2 : ByteArray) : Option (Int × Bool) :=
  Option.bind (f46 (View.mk t0) sub1 name2) fun r26 =>
  some (r26.1, r26.2.2)

def f14_l1 (name2 : ByteArray) (x56 : Ty) (first57 : Int) (k59 : Unit → Option (Int × Bool)) : Nat → Int → Option (Int × Bool)
  | 0, _ => none
  | n+1, iq61 =>
  (bif (decide (iq61 < (List.length x56.comps : Int))) then Option.bind (idx x56.comps iq61) fun x63 =>
  (bif ((x63.name.toList == name2.toList)) then some ((IntKind.i64.wrap (first57 + iq61)), true) else (f14_l1 name2 x56 first57 k59 n (IntKind.i64.wrap (iq61 + 1)))) else (k59 ()))
def f14 (t0 : Table) (sub1 : Int) (name2 : ByteArray) : Option (Int × Bool) :=
  Option.bind (f44 t0 sub1) fun r54 =>
  (bif (!decide (r54 = 5)) then some (0, false) else Option.bind (idx t0.subs sub1) fun x55 =>
  Option.bind (idx t0.types x55.t) fun x56 =>
  letk (fun (first57 : Int) =>
  letk (fun (_ : Unit) =>
  some (0, false)) fun k59 =>
  (f14_l1 name2 x56 first57 k59 9223372036854775808 0)) fun k58 =>
  (bif (!decide (x56.disc = (-1))) then (bif ((x56.discName.toList == name2.toList)) then some (0, true) else (k58 1)) else (k58 0)))

def f71_l1 (s0 : List Int) (v1 : Int) (k22 : Unit → Option (Int)) : Nat → Int → Option (Int)
  | 0, _ => none
  | n+1, t24 =>
  (bif (decide (t24 < (List.length s0 : Int))) then Option.bind (idx s0 t24) fun x26 =>
  (bif (decide (v1 = x26)) then some t24 else (f71_l1 s0 v1 k22 n (IntKind.i64.wrap (t24 + 1)))) else (k22 ()))
def f71 (s0 : List Int) (v1 : Int) : Option Int :=
  letk (fun (_ : Unit) =>
  some (-1)) fun k22 =>
  (f71_l1 s0 v1 k22 (Int.toNat ((List.length s0 : Int) - 0) + 1) 0)

def f47 (s0 : List Int) (v1 : Int) : Option Bool :=
  Option.bind (f71 s0 v1) fun r12 =>
  some (decide (r12 ≥ 0))

def f15 (t0 : Table) (sub1 : Int) (name2 : ByteArray) (disc3 : Int) : Option Bool :=
  Option.bind (f46 (View.mk t0) sub1 name2) fun r46 =>
  Option.bind (bif r46.2.2 then (Option.bind (bif (Option.isNone r46.2.1) then some true else (Option.bind (r46.2.1) fun p49 => some (!p49.variant))) fun b48 => Option.bind (bif b48 then some true else (Option.bind (r46.2.1) fun p51 => Option.bind (f47 p51.when disc3) fun r52 => some r52)) fun b50 => some b50) else some false) fun b47 =>
  some b47

def f48_l1 (l0 : List Int) (v1 : Int) (k21 : Unit → Option (Bool)) : Nat → Int → Option (Bool)
  | 0, _ => none
  | n+1, iq23 =>
  (bif (decide (iq23 < (List.length l0 : Int))) then Option.bind (idx l0 iq23) fun x25 =>
  (bif (decide (x25 = v1)) then some true else (f48_l1 l0 v1 k21 n (IntKind.i64.wrap (iq23 + 1)))) else (k21 ()))
def f48 (l0 : List Int) (v1 : Int) : Option Bool :=
  letk (fun (_ : Unit) =>
  some false) fun k21 =>
  (f48_l1 l0 v1 k21 9223372036854775808 0)

def f16 (t0 : Table) (sub1 : Int) (name2 : ByteArray) (disc3 : Int) : Option Bool :=
  Option.bind (f14 t0 sub1 name2) fun r60 =>
  (bif (!r60.2) then some false else Option.bind (idx t0.subs sub1) fun x61 =>
  Option.bind (idx t0.types x61.t) fun x62 =>
  letk (fun (iq63 : Int) =>
  Option.bind (idx x62.comps iq63) fun x65 =>
  Option.bind (bif (!x65.variant) then some true else (Option.bind (idx x62.comps iq63) fun x67 => Option.bind (f48 x67.when disc3) fun r68 => some r68)) fun b66 =>
  some b66) fun k64 =>
  (bif (!decide (x62.disc = (-1))) then (bif (decide (r60.1 = 0)) then some true else (k64 (IntKind.i64.wrap (r60.1 - 1)))) else (k64 r60.1)))

def f20 (t0 : Table) (a1 : Int) (b2 : Int) : Option Bool :=
  Option.bind (f52 t0.subs a1) fun r38 =>
  Option.bind (f52 t0.subs b2) fun r39 =>
  some ((r38.2 && r39.2) && (((decide (r38.1.t = r39.1.t)) && ((decide (r38.1.lo = r39.1.lo)) && ((decide (r38.1.hi = r39.1.hi)) && true)))))

def f22_l1 (t0 : Table) (k43 : Int → Option (Int)) : Nat → Int → Int → Option (Int)
  | 0, _, _ => none
  | n+1, ty47, p48 =>
  (bif ((decide (p48 ≥ 0)) && (decide (p48 < ty47))) then Option.bind (idx t0.types p48) fun x51 =>
  (f22_l1 t0 k43 n p48 x51.parent) else (k43 ty47))
def f22 (t0 : Table) (ty1 : Int) : Option Int :=
  Option.bind (f49 t0.types ty1) fun r41 =>
  (bif (!r41.2) then some (-1) else letk (fun (ty42 : Int) =>
  some ty42) fun k43 =>
  Option.bind (idx t0.types ty1) fun x44 =>
  (f22_l1 t0 k43 9223372036854775808 ty1 x44.parent))

def f50 (k0 : Int) : Bool :=
  ((decide (k0 = 1)) || (decide (k0 = 2)))

def f18 (t0 : Table) (from1 : Int) (to2 : Int) : Option Bool :=
  Option.bind (f49 t0.types from1) fun r82 =>
  Option.bind (f49 t0.types to2) fun r83 =>
  (bif ((!r82.2) || (!r83.2)) then some false else (bif (decide (from1 = to2)) then some true else (bif ((decide (r82.1.kind = 3)) && (decide (r83.1.kind = 3))) then Option.bind (f22 t0 from1) fun r84 =>
  Option.bind (f22 t0 to2) fun r85 =>
  some (decide (r84 = r85)) else (bif ((decide (r82.1.kind = 6)) && (decide (r83.1.kind = 6))) then Option.bind (f20 t0 r82.1.target r83.1.target) fun r86 =>
  some r86 else some ((f50 r82.1.kind) && (f50 r83.1.kind))))))

def f107 (x0 : Int) (y1 : Int) : Int × Int :=
  ((IntKind.u32.wrap (Int.fdiv (IntKind.u64.wrap ((IntKind.u64.wrap x0) * (IntKind.u64.wrap y1))) (2 ^ min (Int.toNat 32) IntKind.u64.bits))), (IntKind.u32.wrap (IntKind.u64.wrap ((IntKind.u64.wrap x0) * (IntKind.u64.wrap y1)))))

def f108 (x0 : Int) (y1 : Int) : Int × Int :=
  ((IntKind.u64.wrap ((IntKind.u64.wrap ((IntKind.u64.wrap ((Int.fdiv x0 (2 ^ min (Int.toNat 32) IntKind.u64.bits)) * (Int.fdiv y1 (2 ^ min (Int.toNat 32) IntKind.u64.bits)))) + (Int.fdiv (IntKind.u64.wrap ((IntKind.u64.wrap ((Int.fdiv x0 (2 ^ min (Int.toNat 32) IntKind.u64.bits)) * (IntKind.u64.wrap (BitVec.ofInt IntKind.u64.bits y1 &&& BitVec.ofInt IntKind.u64.bits 4294967295).toNat))) + (Int.fdiv (IntKind.u64.wrap ((IntKind.u64.wrap (BitVec.ofInt IntKind.u64.bits x0 &&& BitVec.ofInt IntKind.u64.bits 4294967295).toNat) * (IntKind.u64.wrap (BitVec.ofInt IntKind.u64.bits y1 &&& BitVec.ofInt IntKind.u64.bits 4294967295).toNat))) (2 ^ min (Int.toNat 32) IntKind.u64.bits)))) (2 ^ min (Int.toNat 32) IntKind.u64.bits)))) + (Int.fdiv (IntKind.u64.wrap ((IntKind.u64.wrap (BitVec.ofInt IntKind.u64.bits (IntKind.u64.wrap ((IntKind.u64.wrap ((Int.fdiv x0 (2 ^ min (Int.toNat 32) IntKind.u64.bits)) * (IntKind.u64.wrap (BitVec.ofInt IntKind.u64.bits y1 &&& BitVec.ofInt IntKind.u64.bits 4294967295).toNat))) + (Int.fdiv (IntKind.u64.wrap ((IntKind.u64.wrap (BitVec.ofInt IntKind.u64.bits x0 &&& BitVec.ofInt IntKind.u64.bits 4294967295).toNat) * (IntKind.u64.wrap (BitVec.ofInt IntKind.u64.bits y1 &&& BitVec.ofInt IntKind.u64.bits 4294967295).toNat))) (2 ^ min (Int.toNat 32) IntKind.u64.bits)))) &&& BitVec.ofInt IntKind.u64.bits 4294967295).toNat) + (IntKind.u64.wrap ((IntKind.u64.wrap (BitVec.ofInt IntKind.u64.bits x0 &&& BitVec.ofInt IntKind.u64.bits 4294967295).toNat) * (Int.fdiv y1 (2 ^ min (Int.toNat 32) IntKind.u64.bits)))))) (2 ^ min (Int.toNat 32) IntKind.u64.bits)))), (IntKind.u64.wrap (x0 * y1)))

def f95 (x0 : Int) (y1 : Int) : Int × Int :=
  ((f108 x0 y1).1, (f108 x0 y1).2)

def f77_l1 (k54 : (List Int) → Option (List Int)) : Nat → Int → (List Int) → Option (List Int)
  | 0, _, _ => none
  | n+1, n58, l59 =>
  (bif (decide (n58 < (List.length l59 : Int))) then guardB (sliceOk l59 n58 (List.length l59 : Int)) <|
  guardB (sliceOk l59 0 n58) <|
  guardB (pieceOk l59 (Int.toNat 0) (Int.toNat n58 - Int.toNat 0)) <|
  guardB (pieceOk l59 (Int.toNat n58) (Int.toNat (List.length l59 : Int) - Int.toNat n58)) <|
  (f77_l1 k54 n (IntKind.i64.wrap (n58 + ((Nat.min (List.length (List.take (Int.toNat n58 - Int.toNat 0) (List.drop (Int.toNat 0) l59))) (Int.toNat (List.length l59 : Int) - Int.toNat n58) : Nat) : Int))) (copyF l59 (Int.toNat n58) (Int.toNat (List.length l59 : Int) - Int.toNat n58) (List.take (Int.toNat n58 - Int.toNat 0) (List.drop (Int.toNat 0) l59)))) else (k54 l59))
def f77 (x0 : List Int) (count1 : Int) : Option (List Int) :=
  (bif (decide (count1 < 0)) then none else (bif ((decide (((f95 (IntKind.u64.wrap (List.length x0 : Int)) (IntKind.u64.wrap count1)).1) > 0)) || (decide (((f95 (IntKind.u64.wrap (List.length x0 : Int)) (IntKind.u64.wrap count1)).2) > 9223372036854775807))) then none else guardB (mkOk 8 (IntKind.i64.wrap ((f95 (IntKind.u64.wrap (List.length x0 : Int)) (IntKind.u64.wrap count1)).2))) <|
  letk (fun (l52 : List Int) =>
  some l52) fun k54 =>
  (f77_l1 k54 9223372036854775808 ((Nat.min (List.length x0) (List.length (List.replicate (Int.toNat (IntKind.i64.wrap ((f95 (IntKind.u64.wrap (List.length x0 : Int)) (IntKind.u64.wrap count1)).2))) (0 : Int))) : Nat) : Int) (copyF (List.replicate (Int.toNat (IntKind.i64.wrap ((f95 (IntKind.u64.wrap (List.length x0 : Int)) (IntKind.u64.wrap count1)).2))) (0 : Int)) 0 (List.length (List.replicate (Int.toNat (IntKind.i64.wrap ((f95 (IntKind.u64.wrap (List.length x0 : Int)) (IntKind.u64.wrap count1)).2))) (0 : Int))) x0))))

def f58_l1 (r64 : Ty × Subt × Bool) (k76 : (List Int) → Option (List Int)) : Nat → Int → (List Int) → Option (List Int)
  | 0, _, _ => none
  | n+1, t80, l81 =>
  (bif (decide (t80 < (List.length r64.1.comps : Int))) then Option.bind (idx r64.1.comps t80) fun x86 =>
  guardB (appOk 8 l81 [x86.sub]) <|
  (f58_l1 r64 k76 n (IntKind.i64.wrap (t80 + 1)) (l81 ++ [x86.sub])) else (k76 l81))
def f58 (t0 : View) (sub1 : Int) : Option (List Int) :=
  Option.bind (f40 t0 sub1) fun r64 =>
  letk (fun (_ : Unit) =>
  some []) fun k65 =>
  letk (fun (t66 : Bool) =>
  (bif t66 then some [sub1] else (bif (decide (r64.1.kind = 4)) then Option.bind (f41 t0 r64.1.index 64) fun r68 =>
  Option.bind (f77 [r64.1.elem] r68) fun r69 =>
  some r69 else (bif (decide (r64.1.kind = 5)) then letk (fun (l70 : List Int) =>
  letk (fun (l74 : List Int) =>
  some l74) fun k76 =>
  (f58_l1 r64 k76 (Int.toNat ((List.length r64.1.comps : Int) - 0) + 1) 0 l70)) fun k72 =>
  (bif (!decide (r64.1.disc = (-1))) then guardB (appOk 8 [] [r64.1.disc]) <|
  (k72 ([] ++ [r64.1.disc])) else (k72 [])) else (k65 ()))))) fun k67 =>
  (bif (decide (r64.1.kind = 2)) then (k67 (decide (r64.1.kind = 2))) else (bif (decide (r64.1.kind = 3)) then (k67 (decide (r64.1.kind = 3))) else (bif (decide (r64.1.kind = 6)) then (k67 (decide (r64.1.kind = 6))) else (k67 (decide (r64.1.kind = 7))))))

def f29 (t0 : Table) (sub1 : Int) : Option Int :=
  Option.bind (f58 (View.mk t0) sub1) fun r13 =>
  some (List.length r13 : Int)

def f64 (t0 : View) (sub1 : Int) : Option Int :=
  Option.bind (f40 t0 sub1) fun r20 =>
  some r20.1.kind

def f60 (t0 : View) (sub1 : Int) (v2 : Int) : Option Bool :=
  Option.bind (f64 t0 sub1) fun r31 =>
  letk (fun (t32 : Bool) =>
  (bif t32 then Option.bind (f42 t0 sub1 v2) fun r34 =>
  some r34 else (bif (decide (r31 = 6)) then some ((decide (v2 ≥ 0)) && (decide (v2 ≤ 2048))) else (bif (decide (r31 = 7)) then some true else some false)))) fun k33 =>
  (bif (decide (r31 = 2)) then (k33 (decide (r31 = 2))) else (k33 (decide (r31 = 3))))

def f61 (t0 : View) (sub1 : Int) : Option (Int × Bool) :=
  Option.bind (f40 t0 sub1) fun r36 =>
  some (r36.2.1.lo, (((decide (r36.1.kind = 5)) && (!decide (r36.1.disc = (-1)))) && (decide (r36.2.1.lo = r36.2.1.hi))))

def f31_l1 (t0 : Table) (v2 : List Int) (r63 : List Int) (k64 : Unit → Option (Bool)) : Nat → Int → Option (Bool)
  | 0, _ => none
  | n+1, t66 =>
  (bif (decide (t66 < (List.length r63 : Int))) then Option.bind (idx r63 t66) fun x68 =>
  Option.bind (idx v2 t66) fun x69 =>
  Option.bind (f60 (View.mk t0) x68 x69) fun r70 =>
  (bif (!r70) then some false else (f31_l1 t0 v2 r63 k64 n (IntKind.i64.wrap (t66 + 1)))) else (k64 ()))
def f31 (t0 : Table) (sub1 : Int) (v2 : List Int) : Option Bool :=
  Option.bind (f58 (View.mk t0) sub1) fun r63 =>
  (bif ((decide ((List.length r63 : Int) = 0)) || (!decide ((List.length r63 : Int) = (List.length v2 : Int)))) then some false else letk (fun (_ : Unit) =>
  Option.bind (f61 (View.mk t0) sub1) fun r71 =>
  Option.bind (bif (!r71.2) then some true else (Option.bind (idx v2 0) fun x73 => some (decide (x73 = r71.1)))) fun b72 =>
  some b72) fun k64 =>
  (f31_l1 t0 v2 r63 k64 (Int.toNat ((List.length r63 : Int) - 0) + 1) 0))

def f33_l1 (a0 : List Int) (b1 : List Int) (k29 : Unit → Option (Bool)) : Nat → Int → Option (Bool)
  | 0, _ => none
  | n+1, iq31 =>
  (bif (decide (iq31 < (List.length a0 : Int))) then Option.bind (idx a0 iq31) fun x33 =>
  Option.bind (idx b1 iq31) fun x34 =>
  (bif (!decide (x33 = x34)) then some false else (f33_l1 a0 b1 k29 n (IntKind.i64.wrap (iq31 + 1)))) else (k29 ()))
def f33 (a0 : List Int) (b1 : List Int) : Option Bool :=
  (bif (!decide ((List.length a0 : Int) = (List.length b1 : Int))) then some false else letk (fun (_ : Unit) =>
  some true) fun k29 =>
  (f33_l1 a0 b1 k29 9223372036854775808 0))

def f34_l1 (t0 : Table) (r137 : List Int) (k141 : (List Int) → Option (List Int)) : Nat → Int → (List Int) → Option (List Int)
  | 0, _, _ => none
  | n+1, t145, l146 =>
  (bif (decide (t145 < (List.length r137 : Int))) then letk (fun (l151 : List Int) =>
  (f34_l1 t0 r137 k141 n (IntKind.i64.wrap (t145 + 1)) l151)) fun k153 =>
  Option.bind (idx r137 t145) fun x154 =>
  Option.bind (f43 (View.mk t0) x154) fun r155 =>
  Option.bind (f64 (View.mk t0) x154) fun r156 =>
  letk (fun (t157 : Bool) =>
  (bif t157 then some [] else (bif (r155.2.2 && ((decide (r155.1 > 0)) || (decide (r155.2.1 < 0)))) then Option.bind (idx l146 t145) fun x159 =>
  (k153 (List.set l146 (Int.toNat t145) r155.1)) else (k153 l146)))) fun k158 =>
  (bif (r155.2.2 && (decide (r155.1 > r155.2.1))) then (k158 (r155.2.2 && (decide (r155.1 > r155.2.1)))) else (k158 (((!r155.2.2) && (!decide (r156 = 6))) && (!decide (r156 = 7))))) else (k141 l146))
def f34_l2 (r160 : Ty × Subt × Bool) (k169 : (List Int) → Option (List Int)) : Nat → Int → (List Int) → Option (List Int)
  | 0, _, _ => none
  | n+1, t173, l174 =>
  (bif (decide (t173 < (List.length r160.1.comps : Int))) then letk (fun (l179 : List Int) (c40181 : ByteArray) (c41182 : Int) (c42183 : Bool) (c43184 : Int) (c44185 : Bool) (c45186 : List Int) =>
  (f34_l2 r160 k169 n (IntKind.i64.wrap (t173 + 1)) l179)) fun k187 =>
  Option.bind (idx r160.1.comps t173) fun x188 =>
  (bif x188.has then Option.bind (idx l174 (IntKind.i64.wrap ((IntKind.i64.wrap ((List.length l174 : Int) - (List.length r160.1.comps : Int))) + t173))) fun x189 =>
  (k187 (List.set l174 (Int.toNat (IntKind.i64.wrap ((IntKind.i64.wrap ((List.length l174 : Int) - (List.length r160.1.comps : Int))) + t173))) x188.default_) x188.name x188.sub x188.has x188.default_ x188.variant x188.when) else (k187 l174 x188.name x188.sub x188.has x188.default_ x188.variant x188.when)) else (k169 l174))
def f34 (t0 : Table) (sub1 : Int) : Option (List Int) :=
  Option.bind (f58 (View.mk t0) sub1) fun r137 =>
  guardB (mkOk 8 (List.length r137 : Int)) <|
  letk (fun (l139 : List Int) =>
  Option.bind (f40 (View.mk t0) sub1) fun r160 =>
  (bif (!decide (r160.1.kind = 5)) then some l139 else letk (fun (l161 : List Int) =>
  letk (fun (l167 : List Int) =>
  some l167) fun k169 =>
  (f34_l2 r160 k169 (Int.toNat ((List.length r160.1.comps : Int) - 0) + 1) 0 l161)) fun k163 =>
  Option.bind (f61 (View.mk t0) sub1) fun r164 =>
  (bif r164.2 then Option.bind (idx l139 0) fun x165 =>
  (k163 (List.set l139 (Int.toNat 0) r164.1)) else (bif ((!decide (r160.1.disc = (-1))) && r160.1.has) then Option.bind (idx l139 0) fun x166 =>
  (k163 (List.set l139 (Int.toNat 0) r160.1.default_)) else (k163 l139))))) fun k141 =>
  (f34_l1 t0 r137 k141 (Int.toNat ((List.length r137 : Int) - 0) + 1) 0 (List.replicate (Int.toNat (List.length r137 : Int)) (0 : Int)))

def f79 (y0 : Ty) : Ty :=
  (Ty.mk y0.kind y0.name (-1) y0.first [] (-1) (-1) (-1) ByteArray.empty false 0 [] (-1) 0 y0.limited y0.priv y0.full y0.level)

def f66 (y0 : Ty) : Bool :=
  letk (fun (lits139 : Bool) (comps140 : Bool) (c02141 : Int) (c05142 : Int) (c06143 : Int) (c07144 : Int) (c08145 : ByteArray) (c09146 : Bool) (c010147 : Int) (c012148 : Int) (c013149 : Int) =>
  (((((((((((decide (c02141 = y0.parent)) && (decide (c05142 = y0.index))) && (decide (c06143 = y0.elem))) && (decide (c07144 = y0.disc))) && ((c08145.toList == y0.discName.toList))) && ((c09146 == y0.has))) && (decide (c010147 = y0.default_))) && (decide (c012148 = y0.target))) && (decide (c013149 = y0.formal))) && (!lits139)) && (!comps140))) fun k150 =>
  (bif (decide (y0.kind = 2)) then (k150 (decide ((List.length y0.lits : Int) > 0)) (decide ((List.length y0.comps : Int) > 0)) y0.parent ((f79 y0).index) ((f79 y0).elem) ((f79 y0).disc) ((f79 y0).discName) ((f79 y0).has) ((f79 y0).default_) ((f79 y0).target) y0.formal) else (bif (decide (y0.kind = 3)) then (k150 false (decide ((List.length y0.comps : Int) > 0)) y0.parent ((f79 y0).index) ((f79 y0).elem) ((f79 y0).disc) ((f79 y0).discName) ((f79 y0).has) ((f79 y0).default_) ((f79 y0).target) y0.formal) else (bif (decide (y0.kind = 4)) then (k150 (decide ((List.length y0.lits : Int) > 0)) (decide ((List.length y0.comps : Int) > 0)) ((f79 y0).parent) y0.index y0.elem ((f79 y0).disc) ((f79 y0).discName) ((f79 y0).has) ((f79 y0).default_) ((f79 y0).target) ((f79 y0).formal)) else (bif (decide (y0.kind = 5)) then (k150 (decide ((List.length y0.lits : Int) > 0)) false ((f79 y0).parent) ((f79 y0).index) ((f79 y0).elem) y0.disc y0.discName y0.has y0.default_ ((f79 y0).target) ((f79 y0).formal)) else (bif (decide (y0.kind = 6)) then (k150 (decide ((List.length y0.lits : Int) > 0)) (decide ((List.length y0.comps : Int) > 0)) ((f79 y0).parent) ((f79 y0).index) ((f79 y0).elem) ((f79 y0).disc) ((f79 y0).discName) ((f79 y0).has) ((f79 y0).default_) y0.target ((f79 y0).formal)) else (bif (decide (y0.kind = 7)) then (k150 (decide ((List.length y0.lits : Int) > 0)) (decide ((List.length y0.comps : Int) > 0)) ((f79 y0).parent) ((f79 y0).index) ((f79 y0).elem) ((f79 y0).disc) ((f79 y0).discName) ((f79 y0).has) ((f79 y0).default_) ((f79 y0).target) y0.formal) else (k150 (decide ((List.length y0.lits : Int) > 0)) (decide ((List.length y0.comps : Int) > 0)) ((f79 y0).parent) ((f79 y0).index) ((f79 y0).elem) ((f79 y0).disc) ((f79 y0).discName) ((f79 y0).has) ((f79 y0).default_) ((f79 y0).target) ((f79 y0).formal))))))))

def f80 (lo0 : Int) (hi1 : Int) (cap2 : Subt) : Bool :=
  ((((decide (cap2.lo ≥ lo0)) && (decide (cap2.lo ≤ hi1))) && (decide (cap2.hi ≥ lo0))) && (decide (cap2.hi ≤ hi1)))

def f67 (t0 : View) (s1 : Subt) : Option Bool :=
  Option.bind (f49 t0.table.types s1.t) fun r101 =>
  (bif ((!r101.2) || (decide (s1.t = 0))) then some false else (bif (decide (r101.1.kind = 2)) then some (f80 (-2147483648) 2147483647 s1) else (bif (decide (r101.1.kind = 3)) then letk (fun (n102 : Int) =>
  some ((f80 (-1) n102 s1) && ((decide (s1.lo > s1.hi)) || (f80 0 (IntKind.i64.wrap (n102 - 1)) s1)))) fun k103 =>
  (bif (decide (r101.1.formal = 9)) then (k103 1) else (k103 (List.length r101.1.lits : Int))) else (bif ((decide (r101.1.kind = 5)) && (!decide (r101.1.disc = (-1)))) then Option.bind (bif ((decide (s1.lo = 0)) && (decide (s1.hi = (-1)))) then some true else (Option.bind (bif (decide (s1.lo = s1.hi)) then (Option.bind (f42 t0 r101.1.disc s1.lo) fun r106 => some r106) else some false) fun b105 => some b105)) fun b104 =>
  some b104 else some ((decide (s1.lo = 0)) && (decide (s1.hi = 0)))))))

def f96 (c0 : Int) : Bool :=
  ((decide ((IntKind.u8.wrap (BitVec.ofInt IntKind.u8.bits c0 ||| BitVec.ofInt IntKind.u8.bits 32).toNat) ≥ 97)) && (decide ((IntKind.u8.wrap (BitVec.ofInt IntKind.u8.bits c0 ||| BitVec.ofInt IntKind.u8.bits 32).toNat) ≤ 122)))

def f109 (c0 : Int) : Bool :=
  ((decide (c0 ≥ 48)) && (decide (c0 ≤ 57)))

def f97_l1 (s0 : ByteArray) (k36 : Nat → Option (ByteArray)) : Nat → Nat → Option (ByteArray)
  | 0, _ => none
  | n+1, pos38 =>
  (bif decide (pos38 < s0.size) then (bif ((decide (((Utf8.decode s0 pos38).1 : Int) > 126)) || (((!(f96 (IntKind.u8.wrap ((Utf8.decode s0 pos38).1 : Int)))) && (!(f109 (IntKind.u8.wrap ((Utf8.decode s0 pos38).1 : Int))))) && (!decide (((Utf8.decode s0 pos38).1 : Int) = 95)))) then Option.bind (sCut s0 0 (pos38 : Int)) fun s40 =>
  some s40 else (f97_l1 s0 k36 n (pos38 + (Utf8.decode s0 pos38).2))) else (k36 pos38))
def f97 (s0 : ByteArray) : Option ByteArray :=
  letk (fun (pos35 : Nat) =>
  some s0) fun k36 =>
  (f97_l1 s0 k36 9223372036854775808 0)

def f118 (x0 : ByteArray) : Bool :=
  (!(x0.toList == x0.toList))

def f114 (x0 : ByteArray) (y1 : ByteArray) : Bool :=
  (((f118 x0) && (!(f118 y1))) || (Op.bytesLess x0.toList y1.toList))

def f115 (x0 : ByteArray) : Bool :=
  (!(x0.toList == x0.toList))

def f110_l1 (x0 : List ByteArray) (target1 : ByteArray) (k58 : Int → Option (Int × Bool)) : Nat → Int → Int → Option (Int × Bool)
  | 0, _, _ => none
  | n+1, iq61, j62 =>
  (bif (decide (iq61 < j62)) then Option.bind (idx x0 (IntKind.i64.wrap (Int.fdiv (IntKind.u64.wrap (IntKind.i64.wrap (iq61 + j62))) (2 ^ min (Int.toNat 1) IntKind.u64.bits)))) fun x65 =>
  (bif (f114 x65 target1) then (f110_l1 x0 target1 k58 n (IntKind.i64.wrap ((IntKind.i64.wrap (Int.fdiv (IntKind.u64.wrap (IntKind.i64.wrap (iq61 + j62))) (2 ^ min (Int.toNat 1) IntKind.u64.bits))) + 1)) j62) else (f110_l1 x0 target1 k58 n iq61 (IntKind.i64.wrap (Int.fdiv (IntKind.u64.wrap (IntKind.i64.wrap (iq61 + j62))) (2 ^ min (Int.toNat 1) IntKind.u64.bits))))) else (k58 iq61))
def f110 (x0 : List ByteArray) (target1 : ByteArray) : Option (Int × Bool) :=
  letk (fun (iq57 : Int) =>
  Option.bind (bif (decide (iq57 < (List.length x0 : Int))) then (Option.bind (idx x0 iq57) fun x67 => Option.bind (bif ((x67.toList == target1.toList)) then some true else (Option.bind (idx x0 iq57) fun x69 => some ((f115 x69) && (f115 target1)))) fun b68 => some b68) else some false) fun b66 =>
  some (iq57, b66)) fun k58 =>
  (f110_l1 x0 target1 k58 9223372036854775808 0 (List.length x0 : Int))

def f116_l1 (s0 : ByteArray) (k110 : Int → Int → Option (List ByteArray)) : Nat → Int → Int → Int → Int → Option (List ByteArray)
  | 0, _, _, _, _ => none
  | n+1, n115, wasSpace116, setBits117, iq118 =>
  (bif (decide (iq118 < (s0.size : Int))) then Option.bind (sIdx s0 iq118) fun x123 =>
  Option.bind (idx asciiTab x123) fun x124 =>
  (f116_l1 s0 k110 n (IntKind.i64.wrap (n115 + (IntKind.i64.wrap (BitVec.ofInt IntKind.i64.bits wasSpace116 &&& BitVec.ofInt IntKind.i64.bits (IntKind.i64.wrap (BitVec.ofInt IntKind.i64.bits (-1) ^^^ BitVec.ofInt IntKind.i64.bits (IntKind.i64.wrap x124)).toNat)).toNat))) (IntKind.i64.wrap x124) (IntKind.u8.wrap (BitVec.ofInt IntKind.u8.bits setBits117 ||| BitVec.ofInt IntKind.u8.bits x123).toNat) (IntKind.i64.wrap (iq118 + 1))) else (k110 n115 setBits117))
def f116_l2 (s0 : ByteArray) (k127 : Int → Option (List ByteArray)) : Nat → Int → Option (List ByteArray)
  | 0, _ => none
  | n+1, iq129 =>
  Option.bind (bif (decide (iq129 < (s0.size : Int))) then (Option.bind (sIdx s0 iq129) fun x132 => Option.bind (idx asciiTab x132) fun x133 => some (!decide (x133 = 0))) else some false) fun b131 =>
  (bif b131 then (f116_l2 s0 k127 n (IntKind.i64.wrap (iq129 + 1))) else (k127 iq129))
def f116_l4 (s0 : ByteArray) (k159 : Int → Option (List ByteArray)) : Nat → Int → Option (List ByteArray)
  | 0, _ => none
  | na+1, iq161 =>
  Option.bind (bif (decide (iq161 < (s0.size : Int))) then (Option.bind (sIdx s0 iq161) fun x164 => Option.bind (idx asciiTab x164) fun x165 => some (!decide (x165 = 0))) else some false) fun b163 =>
  (bif b163 then (f116_l4 s0 k159 na (IntKind.i64.wrap (iq161 + 1))) else (k159 iq161))
def f116_l3 (s0 : ByteArray) (k138 : Int → Int → (List ByteArray) → Option (List ByteArray)) : Nat → Int → Int → Int → (List ByteArray) → Option (List ByteArray)
  | 0, _, _, _, _ => none
  | n+1, na144, fieldStart145, iq146, l147 =>
  (bif (decide (iq146 < (s0.size : Int))) then Option.bind (sIdx s0 iq146) fun x154 =>
  Option.bind (idx asciiTab x154) fun x155 =>
  (bif (decide (x155 = 0)) then (f116_l3 s0 k138 n na144 fieldStart145 (IntKind.i64.wrap (iq146 + 1)) l147) else Option.bind (sCut s0 fieldStart145 iq146) fun s156 =>
  Option.bind (idx l147 na144) fun x157 =>
  letk (fun (iq158 : Int) =>
  (f116_l3 s0 k138 n (IntKind.i64.wrap (na144 + 1)) iq158 iq158 (List.set l147 (Int.toNat na144) s156))) fun k159 =>
  (f116_l4 s0 k159 9223372036854775808 (IntKind.i64.wrap (iq146 + 1)))) else (k138 na144 fieldStart145 l147))
def f116 (s0 : ByteArray) : Option (List ByteArray) :=
  letk (fun (n108 : Int) (setBits109 : Int) =>
  (bif (decide (setBits109 ≥ 128)) then none else guardB (mkOk 16 n108) <|
  letk (fun (iq126 : Int) =>
  letk (fun (na134 : Int) (fieldStart135 : Int) (l136 : List ByteArray) =>
  letk (fun (l166 : List ByteArray) =>
  some l166) fun k168 =>
  (bif (decide (fieldStart135 < (s0.size : Int))) then Option.bind (sCut s0 fieldStart135 (s0.size : Int)) fun s169 =>
  Option.bind (idx l136 na134) fun x170 =>
  (k168 (List.set l136 (Int.toNat na134) s169)) else (k168 l136))) fun k138 =>
  (f116_l3 s0 k138 9223372036854775808 0 iq126 iq126 (List.replicate (Int.toNat n108) (ByteArray.empty : ByteArray)))) fun k127 =>
  (f116_l2 s0 k127 9223372036854775808 0))) fun k110 =>
  (f116_l1 s0 k110 9223372036854775808 0 1 0 0)

def f111  : Option (List ByteArray) :=
  Option.bind (f116 (ByteArray.mk #[97, 98, 111, 114, 116, 32, 97, 98, 115, 32, 97, 99, 99, 101, 112, 116, 32, 97, 99, 99, 101, 115, 115, 32, 97, 108, 105, 97, 115, 101, 100, 32, 97, 108, 108, 32, 97, 110, 100, 32, 97, 114, 114, 97, 121, 32, 98, 101, 103, 105, 110, 32, 98, 111, 100, 121, 32, 99, 97, 115, 101, 32, 99, 111, 110, 115, 116, 97, 110, 116, 32, 100, 101, 99, 108, 97, 114, 101, 32, 100, 101, 108, 97, 121, 32, 100, 111, 32, 101, 108, 115, 101, 32, 101, 108, 115, 105, 102, 32, 101, 110, 100, 32, 101, 110, 116, 114, 121, 32, 101, 120, 99, 101, 112, 116, 105, 111, 110, 32, 101, 120, 105, 116, 32, 102, 111, 114, 32, 102, 117, 110, 99, 116, 105, 111, 110, 32, 103, 101, 110, 101, 114, 105, 99, 32, 105, 102, 32, 105, 110, 32, 105, 115, 32, 108, 105, 109, 105, 116, 101, 100, 32, 108, 111, 111, 112, 32, 109, 111, 100, 32, 110, 101, 119, 32, 110, 111, 116, 32, 110, 117, 108, 108, 32, 111, 102, 32, 111, 114, 32, 111, 116, 104, 101, 114, 115, 32, 111, 117, 116, 32, 112, 97, 99, 107, 97, 103, 101, 32, 112, 114, 97, 103, 109, 97, 32, 112, 114, 105, 118, 97, 116, 101, 32, 112, 114, 111, 99, 101, 100, 117, 114, 101, 32, 112, 114, 111, 116, 101, 99, 116, 101, 100, 32, 114, 97, 105, 115, 101, 32, 114, 97, 110, 103, 101, 32, 114, 101, 99, 111, 114, 100, 32, 114, 101, 109, 32, 114, 101, 110, 97, 109, 101, 115, 32, 114, 101, 113, 117, 101, 117, 101, 32, 114, 101, 116, 117, 114, 110, 32, 114, 101, 118, 101, 114, 115, 101, 32, 115, 101, 108, 101, 99, 116, 32, 115, 101, 112, 97, 114, 97, 116, 101, 32, 115, 117, 98, 116, 121, 112, 101, 32, 116, 97, 115, 107, 32, 116, 101, 114, 109, 105, 110, 97, 116, 101, 32, 116, 104, 101, 110, 32, 116, 121, 112, 101, 32, 117, 110, 116, 105, 108, 32, 117, 115, 101, 32, 119, 104, 101, 110, 32, 119, 104, 105, 108, 101, 32, 119, 105, 116, 104, 32, 120, 111, 114])) fun r3 =>
  some r3

def f98 (s0 : ByteArray) : Option Bool :=
  Option.bind (f111) fun r14 =>
  Option.bind (f110 r14 s0) fun r15 =>
  some r15.2

def f81 (s0 : ByteArray) : Option Bool :=
  Option.bind (bif ((!(s0.toList == (ByteArray.mk #[]).toList)) && (decide ((s0.size : Int) ≤ 32))) then (Option.bind (sIdx s0 0) fun x29 => some (f96 x29)) else some false) fun b28 =>
  Option.bind (bif b28 then (Option.bind (f97 s0) fun r31 => some ((r31.toList == s0.toList))) else some false) fun b30 =>
  Option.bind (bif b30 then (Option.bind (f98 s0) fun r33 => some (!r33)) else some false) fun b32 =>
  some b32

def f112_l1 (s10 : List ByteArray) (s21 : List ByteArray) (k29 : Unit → Option (Bool)) : Nat → Int → Option (Bool)
  | 0, _ => none
  | n+1, t31 =>
  (bif (decide (t31 < (List.length s10 : Int))) then Option.bind (idx s10 t31) fun x33 =>
  Option.bind (idx s21 t31) fun x34 =>
  (bif (!(x33.toList == x34.toList)) then some false else (f112_l1 s10 s21 k29 n (IntKind.i64.wrap (t31 + 1)))) else (k29 ()))
def f112 (s10 : List ByteArray) (s21 : List ByteArray) : Option Bool :=
  (bif (!decide ((List.length s10 : Int) = (List.length s21 : Int))) then some false else letk (fun (_ : Unit) =>
  some true) fun k29 =>
  (f112_l1 s10 s21 k29 (Int.toNat ((List.length s10 : Int) - 0) + 1) 0))

def f99 (c0 : Checker) : Option Bool :=
  (bif (decide (c0.y.parent = (-1))) then some true else guardB (sliceOk c0.view.table.types 0 c0.ty) <|
  Option.bind (f49 (sliceF c0.view.table.types 0 c0.ty) c0.y.parent) fun r68 =>
  Option.bind (bif (((r68.2 && (decide (r68.1.kind = c0.y.kind))) && (decide (r68.1.formal = 0))) && (decide (c0.y.formal = 0))) then (Option.bind (f112 r68.1.lits c0.y.lits) fun r70 => some r70) else some false) fun b69 =>
  some b69)

def f82 (c0 : Checker) : Option Bool :=
  Option.bind (f99 c0) fun r54 =>
  some ((r54 && (decide (c0.first.lo ≤ c0.first.hi))) && ((decide (c0.y.formal = 0)) || ((decide (c0.y.formal = 10)) && ((decide (c0.first.lo = 0)) && (decide (c0.first.hi = 0))))))

def f117_l1 (s0 : List ByteArray) (v1 : ByteArray) (k22 : Unit → Option (Int)) : Nat → Int → Option (Int)
  | 0, _ => none
  | n+1, t24 =>
  (bif (decide (t24 < (List.length s0 : Int))) then Option.bind (idx s0 t24) fun x26 =>
  (bif ((v1.toList == x26.toList)) then some t24 else (f117_l1 s0 v1 k22 n (IntKind.i64.wrap (t24 + 1)))) else (k22 ()))
def f117 (s0 : List ByteArray) (v1 : ByteArray) : Option Int :=
  letk (fun (_ : Unit) =>
  some (-1)) fun k22 =>
  (f117_l1 s0 v1 k22 (Int.toNat ((List.length s0 : Int) - 0) + 1) 0)

def f113 (s0 : List ByteArray) (v1 : ByteArray) : Option Bool :=
  Option.bind (f117 s0 v1) fun r12 =>
  some (decide (r12 ≥ 0))

def f100_l1 (l0 : List ByteArray) (k25 : Unit → Option (Bool)) : Nat → Int → Option (Bool)
  | 0, _ => none
  | n+1, t27 =>
  (bif (decide (t27 < (List.length l0 : Int))) then Option.bind (idx l0 t27) fun x29 =>
  Option.bind (f81 x29) fun r30 =>
  Option.bind (bif (!r30) then some true else (guardB (sliceOk l0 0 t27) <| Option.bind (f113 (sliceF l0 0 t27) x29) fun r33 => some r33)) fun b31 =>
  (bif b31 then some false else (f100_l1 l0 k25 n (IntKind.i64.wrap (t27 + 1)))) else (k25 ()))
def f100 (l0 : List ByteArray) : Option Bool :=
  letk (fun (_ : Unit) =>
  some true) fun k25 =>
  (f100_l1 l0 k25 (Int.toNat ((List.length l0 : Int) - 0) + 1) 0)

def f83 (c0 : Checker) : Option Bool :=
  (bif (decide (c0.y.formal = 9)) then Option.bind (f99 c0) fun r94 =>
  some (((r94 && (decide ((List.length c0.y.lits : Int) = 0))) && (decide (c0.first.lo = 0))) && (decide (c0.first.hi = 0))) else Option.bind (f99 c0) fun r95 =>
  Option.bind (bif (((r95 && (decide (c0.y.formal = 0))) && (decide ((List.length c0.y.lits : Int) ≥ 1))) && (decide ((List.length c0.y.lits : Int) ≤ 64))) then (Option.bind (f100 c0.y.lits) fun r97 => some r97) else some false) fun b96 =>
  some ((b96 && (decide (c0.first.lo ≤ c0.first.hi))) && ((!decide (c0.y.parent = (-1))) || ((decide (c0.first.lo = 0)) && (decide (c0.first.hi = (IntKind.i64.wrap ((List.length c0.y.lits : Int) - 1))))))))

def f101 (t0 : View) (sub1 : Int) : Option Bool :=
  Option.bind (f43 t0 sub1) fun r30 =>
  Option.bind (bif (r30.2.2 && (decide (r30.1 ≤ r30.2.1))) then some true else (Option.bind (f64 t0 sub1) fun r32 => some (decide (r32 = 6)))) fun b31 =>
  some b31

def f84 (c0 : Checker) : Option Bool :=
  Option.bind (f41 c0.view c0.y.index 64) fun r28 =>
  Option.bind (bif (decide (r28 > 0)) then (Option.bind (f101 c0.view c0.y.elem) fun r30 => some r30) else some false) fun b29 =>
  some b29

def f102_l1 (c0 : Checker) (x1 : CompRow) (k100 : Unit → Option (Bool)) : Nat → Int → Option (Bool)
  | 0, _ => none
  | n+1, t102 =>
  (bif (decide (t102 < (List.length x1.when : Int))) then Option.bind (idx x1.when t102) fun x104 =>
  Option.bind (bif (decide (c0.y.disc = (-1))) then some true else (Option.bind (f42 c0.view c0.y.disc x104) fun r106 => some (!r106))) fun b105 =>
  Option.bind (bif b105 then some true else (Option.bind (bif (decide (t102 > 0)) then (Option.bind (idx x1.when (IntKind.i64.wrap (t102 - 1))) fun x109 => some (decide (x104 ≤ x109))) else some false) fun b108 => some b108)) fun b107 =>
  (bif b107 then some false else (f102_l1 c0 x1 k100 n (IntKind.i64.wrap (t102 + 1)))) else (k100 ()))
def f102 (c0 : Checker) (x1 : CompRow) : Option Bool :=
  Option.bind (f101 c0.view x1.sub) fun r96 =>
  Option.bind (bif (!r96) then some true else (Option.bind (bif x1.has then (Option.bind (f42 c0.view x1.sub x1.default_) fun r99 => some (!r99)) else some false) fun b98 => some b98)) fun b97 =>
  (bif ((b97 || ((!x1.has) && (!decide (x1.default_ = 0)))) || (!(x1.variant == (decide ((List.length x1.when : Int) > 0))))) then some false else letk (fun (_ : Unit) =>
  some true) fun k100 =>
  (f102_l1 c0 x1 k100 (Int.toNat ((List.length x1.when : Int) - 0) + 1) 0))

def f85_l1 (c0 : Checker) (k117 : (List ByteArray) → Option (Bool)) : Nat → Int → (List ByteArray) → Option (Bool)
  | 0, _, _ => none
  | n+1, t121, l122 =>
  (bif (decide (t121 < (List.length c0.y.comps : Int))) then Option.bind (idx c0.y.comps t121) fun x127 =>
  guardB (appOk 16 l122 [x127.name]) <|
  Option.bind (f102 c0 x127) fun r129 =>
  (bif (!r129) then some false else (f85_l1 c0 k117 n (IntKind.i64.wrap (t121 + 1)) (l122 ++ [x127.name]))) else (k117 l122))
def f85 (c0 : Checker) : Option Bool :=
  letk (fun (l107 : List ByteArray) =>
  letk (fun (l115 : List ByteArray) =>
  Option.bind (bif ((decide ((List.length l115 : Int) > 0)) && (decide ((List.length c0.y.comps : Int) ≤ 16))) then (Option.bind (f100 l115) fun r131 => some r131) else some false) fun b130 =>
  some (b130 && (c0.y.has || (decide (c0.y.default_ = 0))))) fun k117 =>
  (f85_l1 c0 k117 (Int.toNat ((List.length c0.y.comps : Int) - 0) + 1) 0 l107)) fun k109 =>
  (bif (!decide (c0.y.disc = (-1))) then guardB (appOk 16 [] [c0.y.discName]) <|
  Option.bind (f41 c0.view c0.y.disc 64) fun r111 =>
  Option.bind (bif (decide (r111 = 0)) then some true else (Option.bind (bif c0.y.has then (Option.bind (f42 c0.view c0.y.disc c0.y.default_) fun r114 => some (!r114)) else some false) fun b113 => some b113)) fun b112 =>
  (bif ((b112 || (!decide (c0.first.lo = 0))) || (!decide (c0.first.hi = (-1)))) then some false else (k109 ([] ++ [c0.y.discName]))) else (bif ((!(c0.y.discName.toList == (ByteArray.mk #[]).toList)) || c0.y.has) then some false else (k109 [])))

def f86 (c0 : Checker) : Option Bool :=
  Option.bind (f43 c0.view c0.y.target) fun r35 =>
  Option.bind (bif r35.2.2 then (Option.bind (f101 c0.view c0.y.target) fun r37 => some r37) else some false) fun b36 =>
  some b36

def f87 (c0 : Checker) : Bool :=
  (decide (c0.y.formal = 8))

def f68 (t0 : View) (ty1 : Int) : Option Bool :=
  Option.bind (idx t0.table.types ty1) fun x113 =>
  Option.bind (f52 t0.table.subs x113.first) fun r114 =>
  Option.bind (bif (((!r114.2) || (!decide (r114.1.t = ty1))) || (!(f66 x113))) then some true else (Option.bind (f81 x113.name) fun r116 => some (!r116))) fun b115 =>
  (bif (((b115 || (decide (x113.level < 0))) || (decide (x113.priv < (-1)))) || (decide (x113.full < 0))) then some false else (bif ((decide (x113.priv = (-1))) && ((!decide (x113.full = 0)) || (x113.limited && (!decide (x113.kind = 7))))) then some false else (bif decide (x113.kind = 2) then Option.bind (f82 (Checker.mk t0 ty1 x113 r114.1)) fun r119 =>
  some r119 else (bif decide (x113.kind = 3) then Option.bind (f83 (Checker.mk t0 ty1 x113 r114.1)) fun r122 =>
  some r122 else (bif decide (x113.kind = 4) then Option.bind (f84 (Checker.mk t0 ty1 x113 r114.1)) fun r125 =>
  some r125 else (bif decide (x113.kind = 5) then Option.bind (f85 (Checker.mk t0 ty1 x113 r114.1)) fun r128 =>
  some r128 else (bif decide (x113.kind = 6) then Option.bind (f86 (Checker.mk t0 ty1 x113 r114.1)) fun r131 =>
  some r131 else (bif decide (x113.kind = 7) then some (f87 (Checker.mk t0 ty1 x113 r114.1)) else some false))))))))

def f36_l1 (t0 : Table) (k93 : Unit → Option (Bool)) : Nat → Int → Option (Bool)
  | 0, _ => none
  | n+1, t95 =>
  (bif (decide (t95 < (List.length t0.subs : Int))) then Option.bind (idx t0.subs t95) fun x97 =>
  Option.bind (f67 (View.mk t0) x97) fun r98 =>
  (bif (!r98) then some false else (f36_l1 t0 k93 n (IntKind.i64.wrap (t95 + 1)))) else (k93 ()))
def f36_l2 (t0 : Table) (k99 : Unit → Option (Bool)) : Nat → Int → Option (Bool)
  | 0, _ => none
  | n+1, ty101 =>
  (bif (decide (ty101 < (List.length t0.types : Int))) then Option.bind (f68 (View.mk t0) ty101) fun r103 =>
  (bif (!r103) then some false else (f36_l2 t0 k99 n (IntKind.i64.wrap (ty101 + 1)))) else (k99 ()))
def f36 (t0 : Table) : Option Bool :=
  (bif (((decide ((List.length t0.types : Int) < 1)) || (decide ((List.length t0.types : Int) > 256))) || (decide ((List.length t0.subs : Int) > 512))) then some false else Option.bind (idx t0.types 0) fun x92 =>
  (bif ((((((((!decide (x92.kind = 1)) || (!(x92.name.toList == (ByteArray.mk #[]).toList))) || (!decide (x92.first = (-1)))) || x92.limited) || (!decide (x92.priv = (-1)))) || (!decide (x92.full = 0))) || (!decide (x92.level = 0))) || (!(f66 x92))) then some false else letk (fun (_ : Unit) =>
  letk (fun (_ : Unit) =>
  some true) fun k99 =>
  (f36_l2 t0 k99 9223372036854775808 1)) fun k93 =>
  (f36_l1 t0 k93 (Int.toNat ((List.length t0.subs : Int) - 0) + 1) 0)))

def f37 (kind0 : Int) : Ty :=
  (Ty.mk kind0 ByteArray.empty (-1) (-1) [] (-1) (-1) (-1) ByteArray.empty false 0 [] (-1) 0 false (-1) 0 0)

def f39 (kind0 : Int) (name1 : ByteArray) (first2 : Int) : Ty :=
  (Ty.mk ((f37 kind0).kind) name1 ((f37 kind0).parent) first2 ((f37 kind0).lits) ((f37 kind0).index) ((f37 kind0).elem) ((f37 kind0).disc) ((f37 kind0).discName) ((f37 kind0).has) ((f37 kind0).default_) ((f37 kind0).comps) ((f37 kind0).target) ((f37 kind0).formal) ((f37 kind0).limited) ((f37 kind0).priv) ((f37 kind0).full) ((f37 kind0).level))

def f38  : Table :=
  (Table.mk [(f37 1), (f39 2 (ByteArray.mk #[73, 110, 116, 101, 103, 101, 114]) 0), (Ty.mk ((f39 3 (ByteArray.mk #[67, 111, 108, 111, 114]) 1).kind) ((f39 3 (ByteArray.mk #[67, 111, 108, 111, 114]) 1).name) ((f39 3 (ByteArray.mk #[67, 111, 108, 111, 114]) 1).parent) ((f39 3 (ByteArray.mk #[67, 111, 108, 111, 114]) 1).first) [(ByteArray.mk #[82, 101, 100]), (ByteArray.mk #[71, 114, 101, 101, 110])] ((f39 3 (ByteArray.mk #[67, 111, 108, 111, 114]) 1).index) ((f39 3 (ByteArray.mk #[67, 111, 108, 111, 114]) 1).elem) ((f39 3 (ByteArray.mk #[67, 111, 108, 111, 114]) 1).disc) ((f39 3 (ByteArray.mk #[67, 111, 108, 111, 114]) 1).discName) ((f39 3 (ByteArray.mk #[67, 111, 108, 111, 114]) 1).has) ((f39 3 (ByteArray.mk #[67, 111, 108, 111, 114]) 1).default_) ((f39 3 (ByteArray.mk #[67, 111, 108, 111, 114]) 1).comps) ((f39 3 (ByteArray.mk #[67, 111, 108, 111, 114]) 1).target) ((f39 3 (ByteArray.mk #[67, 111, 108, 111, 114]) 1).formal) ((f39 3 (ByteArray.mk #[67, 111, 108, 111, 114]) 1).limited) ((f39 3 (ByteArray.mk #[67, 111, 108, 111, 114]) 1).priv) ((f39 3 (ByteArray.mk #[67, 111, 108, 111, 114]) 1).full) ((f39 3 (ByteArray.mk #[67, 111, 108, 111, 114]) 1).level)), (Ty.mk ((f39 4 (ByteArray.mk #[82, 111, 119]) 3).kind) ((f39 4 (ByteArray.mk #[82, 111, 119]) 3).name) ((f39 4 (ByteArray.mk #[82, 111, 119]) 3).parent) ((f39 4 (ByteArray.mk #[82, 111, 119]) 3).first) ((f39 4 (ByteArray.mk #[82, 111, 119]) 3).lits) 2 0 ((f39 4 (ByteArray.mk #[82, 111, 119]) 3).disc) ((f39 4 (ByteArray.mk #[82, 111, 119]) 3).discName) ((f39 4 (ByteArray.mk #[82, 111, 119]) 3).has) ((f39 4 (ByteArray.mk #[82, 111, 119]) 3).default_) ((f39 4 (ByteArray.mk #[82, 111, 119]) 3).comps) ((f39 4 (ByteArray.mk #[82, 111, 119]) 3).target) ((f39 4 (ByteArray.mk #[82, 111, 119]) 3).formal) ((f39 4 (ByteArray.mk #[82, 111, 119]) 3).limited) ((f39 4 (ByteArray.mk #[82, 111, 119]) 3).priv) ((f39 4 (ByteArray.mk #[82, 111, 119]) 3).full) ((f39 4 (ByteArray.mk #[82, 111, 119]) 3).level)), (Ty.mk ((f39 5 (ByteArray.mk #[82, 101, 99]) 4).kind) ((f39 5 (ByteArray.mk #[82, 101, 99]) 4).name) ((f39 5 (ByteArray.mk #[82, 101, 99]) 4).parent) ((f39 5 (ByteArray.mk #[82, 101, 99]) 4).first) ((f39 5 (ByteArray.mk #[82, 101, 99]) 4).lits) ((f39 5 (ByteArray.mk #[82, 101, 99]) 4).index) ((f39 5 (ByteArray.mk #[82, 101, 99]) 4).elem) 1 (ByteArray.mk #[68]) true 1 [(CompRow.mk (ByteArray.mk #[120]) 0 false 0 false []), (CompRow.mk (ByteArray.mk #[121]) 2 true 7 true [1])] ((f39 5 (ByteArray.mk #[82, 101, 99]) 4).target) ((f39 5 (ByteArray.mk #[82, 101, 99]) 4).formal) ((f39 5 (ByteArray.mk #[82, 101, 99]) 4).limited) ((f39 5 (ByteArray.mk #[82, 101, 99]) 4).priv) ((f39 5 (ByteArray.mk #[82, 101, 99]) 4).full) ((f39 5 (ByteArray.mk #[82, 101, 99]) 4).level))] [(Subt.mk 1 (-2147483648) 2147483647), (Subt.mk 2 0 1), (Subt.mk 1 5 9), (Subt.mk 3 0 0), (Subt.mk 4 0 (-1)), (Subt.mk 4 0 0)] (SlV.mk none 0 0) (SlV.mk none 0 0) (SlV.mk none 0 0))

def f17  : Option Bool :=
  Option.bind (f11 f38 3 9) fun r124 =>
  Option.bind (f11 f38 3 10) fun r125 =>
  Option.bind (f13 f38 4 (ByteArray.mk #[121])) fun r126 =>
  Option.bind (f29 f38 2) fun r127 =>
  Option.bind (bif (decide (r127 = 1)) then (Option.bind (f29 f38 3) fun r129 => some (decide (r129 = 5))) else some false) fun b128 =>
  Option.bind (bif b128 then (Option.bind (f29 f38 4) fun r131 => some (decide (r131 = 3))) else some false) fun b130 =>
  Option.bind (bif b130 then (Option.bind (f29 f38 6) fun r133 => some (decide (r133 = 0))) else some false) fun b132 =>
  Option.bind (f34 f38 2) fun r134 =>
  Option.bind (f33 r134 [5]) fun r135 =>
  Option.bind (bif r135 then (Option.bind (f34 f38 4) fun r137 => Option.bind (f33 r137 [1, 0, 7]) fun r138 => some r138) else some false) fun b136 =>
  Option.bind (bif b136 then (Option.bind (f34 f38 5) fun r140 => Option.bind (f33 r140 [0, 0, 7]) fun r141 => some r141) else some false) fun b139 =>
  Option.bind (f31 f38 5 [1, 0, 7]) fun r142 =>
  Option.bind (bif (!r142) then (Option.bind (f31 f38 4 [1, 0, 4]) fun r144 => some (!r144)) else some false) fun b143 =>
  Option.bind (bif b143 then (Option.bind (f31 f38 5 [0, 3, 9]) fun r146 => some r146) else some false) fun b145 =>
  Option.bind (f36 f38) fun r147 =>
  Option.bind (bif ((((((((r147 && b132) && b139) && b145) && (decide (r124.1 = 4))) && r124.2) && (!r125.2)) && (decide (r126.1 = 2))) && r126.2) then (Option.bind (f15 f38 4 (ByteArray.mk #[121]) 0) fun r149 => some (!r149)) else some false) fun b148 =>
  Option.bind (bif b148 then (Option.bind (f15 f38 4 (ByteArray.mk #[121]) 1) fun r151 => some r151) else some false) fun b150 =>
  Option.bind (bif b150 then (Option.bind (f18 f38 1 0) fun r153 => some r153) else some false) fun b152 =>
  Option.bind (bif b152 then (Option.bind (f18 f38 2 1) fun r155 => some (!r155)) else some false) fun b154 =>
  some b154

def f3_l1 (sub1 : Int) (index2 : Int) (name3 : ByteArray) (disc4 : Int) (r100 : Table) (k101 : Unit → Option (Bool)) : Nat → Int → Option (Bool)
  | 0, _ => none
  | n+1, iq103 =>
  (bif (decide (iq103 ≤ (List.length r100.subs : Int))) then letk (fun (s105 : Int) =>
  Option.bind (f11 r100 s105 index2) fun r107 =>
  Option.bind (f12 r100 s105 index2) fun r108 =>
  Option.bind (f13 r100 s105 name3) fun r109 =>
  Option.bind (f14 r100 s105 name3) fun r110 =>
  Option.bind (bif ((((!decide (r107.1 = r108.1)) || (!(r107.2 == r108.2))) || (!decide (r109.1 = r110.1))) || (!(r109.2 == r110.2))) then some true else (Option.bind (f15 r100 s105 name3 disc4) fun r112 => Option.bind (f16 r100 s105 name3 disc4) fun r113 => some (!(r112 == r113)))) fun b111 =>
  (bif b111 then some false else (f3_l1 sub1 index2 name3 disc4 r100 k101 n (IntKind.i64.wrap (iq103 + 1))))) fun k106 =>
  (bif (decide (iq103 < 0)) then (k106 sub1) else (k106 iq103)) else (k101 ()))
def f3 (t0 : Table) (sub1 : Int) (index2 : Int) (name3 : ByteArray) (disc4 : Int) : Option Bool :=
  Option.bind (f10 t0) fun r100 =>
  letk (fun (_ : Unit) =>
  Option.bind (f17) fun r114 =>
  some r114) fun k101 =>
  (f3_l1 sub1 index2 name3 disc4 r100 k101 9223372036854775808 (-1))

def f21 (t0 : Table) (a1 : Int) (b2 : Int) : Option Bool :=
  Option.bind (bif ((f51 a1 (List.length t0.subs : Int)) && (f51 b2 (List.length t0.subs : Int))) then (Option.bind (idx t0.subs a1) fun x37 => Option.bind (idx t0.subs b2) fun x38 => some (((decide (x37.t = x38.t)) && ((decide (x37.lo = x38.lo)) && ((decide (x37.hi = x38.hi)) && true))))) else some false) fun b36 =>
  some b36

def f23_l1 (t0 : Table) (k30 : Int → Option (Int)) : Nat → Int → Option (Int)
  | 0, _ => none
  | n+1, ty32 =>
  Option.bind (idx t0.types ty32) fun x34 =>
  (bif (f51 x34.parent ty32) then Option.bind (idx t0.types ty32) fun x35 =>
  (f23_l1 t0 k30 n x35.parent) else (k30 ty32))
def f23 (t0 : Table) (ty1 : Int) : Option Int :=
  (bif (!(f51 ty1 (List.length t0.types : Int))) then some (-1) else letk (fun (ty29 : Int) =>
  some ty29) fun k30 =>
  (f23_l1 t0 k30 9223372036854775808 ty1))

def f19 (t0 : Table) (from1 : Int) (to2 : Int) : Option Bool :=
  (bif ((!(f51 from1 (List.length t0.types : Int))) || (!(f51 to2 (List.length t0.types : Int)))) then some false else Option.bind (idx t0.types from1) fun x101 =>
  Option.bind (idx t0.types to2) fun x102 =>
  Option.bind (bif ((decide (x101.kind = 3)) && (decide (x102.kind = 3))) then (Option.bind (f23 t0 from1) fun r104 => Option.bind (f23 t0 to2) fun r105 => some (decide (r104 = r105))) else some false) fun b103 =>
  Option.bind (bif (((decide (from1 = to2)) || (((decide (x101.kind = 1)) || (decide (x101.kind = 2))) && ((decide (x102.kind = 1)) || (decide (x102.kind = 2))))) || b103) then some true else (Option.bind (bif ((decide (x101.kind = 6)) && (decide (x102.kind = 6))) then (Option.bind (f21 t0 x101.target x102.target) fun r108 => some r108) else some false) fun b107 => some b107)) fun b106 =>
  some b106)

def f4_l2 (r90 : Table) (x101 : Int) (k104 : Unit → Option (Bool)) : Nat → Int → Option (Bool)
  | 0, _ => none
  | na+1, y106 =>
  (bif (decide (y106 ≤ (if (List.length r90.subs : Int) > (List.length r90.types : Int) then (List.length r90.subs : Int) else (List.length r90.types : Int)))) then Option.bind (f18 r90 x101 y106) fun r108 =>
  Option.bind (f19 r90 x101 y106) fun r109 =>
  Option.bind (bif (!(r108 == r109)) then some true else (Option.bind (f20 r90 x101 y106) fun r111 => Option.bind (f21 r90 x101 y106) fun r112 => some (!(r111 == r112)))) fun b110 =>
  (bif b110 then some false else (f4_l2 r90 x101 k104 na (IntKind.i64.wrap (y106 + 1)))) else (k104 ()))
def f4_l1 (r90 : Table) (k99 : Unit → Option (Bool)) : Nat → Int → Option (Bool)
  | 0, _ => none
  | n+1, x101 =>
  (bif (decide (x101 ≤ (if (List.length r90.subs : Int) > (List.length r90.types : Int) then (List.length r90.subs : Int) else (List.length r90.types : Int)))) then letk (fun (_ : Unit) =>
  (f4_l1 r90 k99 n (IntKind.i64.wrap (x101 + 1)))) fun k103 =>
  letk (fun (_ : Unit) =>
  Option.bind (f22 r90 x101) fun r113 =>
  Option.bind (f23 r90 x101) fun r114 =>
  (bif (!decide (r113 = r114)) then some false else (k103 ()))) fun k104 =>
  (f4_l2 r90 x101 k104 9223372036854775808 (-1)) else (k99 ()))
def f4 (t0 : Table) (a1 : Int) (b2 : Int) : Option Bool :=
  Option.bind (f10 t0) fun r90 =>
  Option.bind (f18 r90 a1 b2) fun r91 =>
  Option.bind (f19 r90 a1 b2) fun r92 =>
  Option.bind (bif (!(r91 == r92)) then some true else (Option.bind (f20 r90 a1 b2) fun r94 => Option.bind (f21 r90 a1 b2) fun r95 => some (!(r94 == r95)))) fun b93 =>
  Option.bind (bif b93 then some true else (Option.bind (f22 r90 a1) fun r97 => Option.bind (f23 r90 a1) fun r98 => some (!decide (r97 = r98)))) fun b96 =>
  (bif b96 then some false else letk (fun (_ : Unit) =>
  Option.bind (f17) fun r115 =>
  some r115) fun k99 =>
  (f4_l1 r90 k99 9223372036854775808 (-1)))

def f72_l1 (a0 : List ByteArray) (b1 : List ByteArray) (k29 : Unit → Option (Bool)) : Nat → Int → Option (Bool)
  | 0, _ => none
  | n+1, iq31 =>
  (bif (decide (iq31 < (List.length a0 : Int))) then Option.bind (idx a0 iq31) fun x33 =>
  Option.bind (idx b1 iq31) fun x34 =>
  (bif (!(x33.toList == x34.toList)) then some false else (f72_l1 a0 b1 k29 n (IntKind.i64.wrap (iq31 + 1)))) else (k29 ()))
def f72 (a0 : List ByteArray) (b1 : List ByteArray) : Option Bool :=
  (bif (!decide ((List.length a0 : Int) = (List.length b1 : Int))) then some false else letk (fun (_ : Unit) =>
  some true) fun k29 =>
  (f72_l1 a0 b1 k29 9223372036854775808 0))

def f73_l1 (a0 : List CompRow) (b1 : List CompRow) (k71 : Unit → Option (Bool)) : Nat → Int → Option (Bool)
  | 0, _ => none
  | n+1, iq73 =>
  (bif (decide (iq73 < (List.length a0 : Int))) then Option.bind (idx a0 iq73) fun x75 =>
  Option.bind (idx b1 iq73) fun x76 =>
  Option.bind (bif (((((!(x75.name.toList == x76.name.toList)) || (!decide (x75.sub = x76.sub))) || (!(x75.has == x76.has))) || (!decide (x75.default_ = x76.default_))) || (!(x75.variant == x76.variant))) then some true else (Option.bind (f33 x75.when x76.when) fun r78 => some (!r78))) fun b77 =>
  (bif b77 then some false else (f73_l1 a0 b1 k71 n (IntKind.i64.wrap (iq73 + 1)))) else (k71 ()))
def f73 (a0 : List CompRow) (b1 : List CompRow) : Option Bool :=
  (bif (!decide ((List.length a0 : Int) = (List.length b1 : Int))) then some false else letk (fun (_ : Unit) =>
  some true) fun k71 =>
  (f73_l1 a0 b1 k71 9223372036854775808 0))

def f53 (a0 : Ty) (b1 : Ty) : Option Bool :=
  Option.bind (bif ((((decide (a0.kind = b1.kind)) && ((a0.name.toList == b1.name.toList))) && (decide (a0.parent = b1.parent))) && (decide (a0.first = b1.first))) then (Option.bind (f72 a0.lits b1.lits) fun r137 => some r137) else some false) fun b136 =>
  Option.bind (bif ((((decide (a0.disc = b1.disc)) && ((a0.discName.toList == b1.discName.toList))) && ((a0.has == b1.has))) && (decide (a0.default_ = b1.default_))) then (Option.bind (f73 a0.comps b1.comps) fun r139 => some r139) else some false) fun b138 =>
  some ((((((((b136 && (decide (a0.index = b1.index))) && (decide (a0.elem = b1.elem))) && (b138 && (decide (a0.target = b1.target)))) && (decide (a0.formal = b1.formal))) && ((a0.limited == b1.limited))) && (decide (a0.priv = b1.priv))) && (decide (a0.full = b1.full))) && (decide (a0.level = b1.level)))

def f54 (t0 : Table) (sub1 : Int) : Option Bool :=
  Option.bind (idx t0.subs sub1) fun x138 =>
  (bif ((!(f51 x138.t (List.length t0.types : Int))) || (decide (x138.t = 0))) then some false else Option.bind (idx t0.types x138.t) fun x139 =>
  letk (fun (_ : Unit) =>
  some ((decide (x138.lo = 0)) && (decide (x138.hi = 0)))) fun k140 =>
  (bif (decide (x139.kind = 2)) then some ((((decide (x138.lo ≥ (-2147483648))) && (decide (x138.lo ≤ 2147483647))) && (decide (x138.hi ≥ (-2147483648)))) && (decide (x138.hi ≤ 2147483647))) else (bif (decide (x139.kind = 3)) then letk (fun (n141 : Int) =>
  some (((((decide (x138.lo ≥ (-1))) && (decide (x138.lo ≤ n141))) && (decide (x138.hi ≥ (-1)))) && (decide (x138.hi ≤ n141))) && ((decide (x138.lo > x138.hi)) || ((decide (x138.lo ≥ 0)) && (decide (x138.hi < n141)))))) fun k142 =>
  (bif (decide (x139.formal = 9)) then (k142 1) else (k142 (List.length x139.lits : Int))) else (bif (decide (x139.kind = 5)) then (bif (!decide (x139.disc = (-1))) then Option.bind (bif ((decide (x138.lo = 0)) && (decide (x138.hi = (-1)))) then some true else (Option.bind (bif (decide (x138.lo = x138.hi)) then (Option.bind (f45 t0 x139.disc x138.lo) fun r145 => some r145) else some false) fun b144 => some b144)) fun b143 =>
  some b143 else (k140 ())) else (k140 ())))))

def f74 (y0 : Ty) : Ty :=
  letk (fun (c1284 : Int) (c1485 : List ByteArray) (c1586 : Int) (c1687 : Int) (c1788 : Int) (c1889 : ByteArray) (c1990 : Bool) (c11091 : Int) (c11192 : List CompRow) (c11293 : Int) (c11394 : Int) =>
  (Ty.mk ((f37 y0.kind).kind) y0.name c1284 y0.first c1485 c1586 c1687 c1788 c1889 c1990 c11091 c11192 c11293 c11394 y0.limited y0.priv y0.full y0.level)) fun k95 =>
  (bif (decide (y0.kind = 2)) then (k95 y0.parent ((f37 y0.kind).lits) ((f37 y0.kind).index) ((f37 y0.kind).elem) ((f37 y0.kind).disc) ((f37 y0.kind).discName) ((f37 y0.kind).has) ((f37 y0.kind).default_) ((f37 y0.kind).comps) ((f37 y0.kind).target) y0.formal) else (bif (decide (y0.kind = 3)) then (k95 y0.parent y0.lits ((f37 y0.kind).index) ((f37 y0.kind).elem) ((f37 y0.kind).disc) ((f37 y0.kind).discName) ((f37 y0.kind).has) ((f37 y0.kind).default_) ((f37 y0.kind).comps) ((f37 y0.kind).target) y0.formal) else (bif (decide (y0.kind = 4)) then (k95 ((f37 y0.kind).parent) ((f37 y0.kind).lits) y0.index y0.elem ((f37 y0.kind).disc) ((f37 y0.kind).discName) ((f37 y0.kind).has) ((f37 y0.kind).default_) ((f37 y0.kind).comps) ((f37 y0.kind).target) ((f37 y0.kind).formal)) else (bif (decide (y0.kind = 5)) then (k95 ((f37 y0.kind).parent) ((f37 y0.kind).lits) ((f37 y0.kind).index) ((f37 y0.kind).elem) y0.disc y0.discName y0.has y0.default_ y0.comps ((f37 y0.kind).target) ((f37 y0.kind).formal)) else (bif (decide (y0.kind = 6)) then (k95 ((f37 y0.kind).parent) ((f37 y0.kind).lits) ((f37 y0.kind).index) ((f37 y0.kind).elem) ((f37 y0.kind).disc) ((f37 y0.kind).discName) ((f37 y0.kind).has) ((f37 y0.kind).default_) ((f37 y0.kind).comps) y0.target ((f37 y0.kind).formal)) else (bif (decide (y0.kind = 7)) then (k95 ((f37 y0.kind).parent) ((f37 y0.kind).lits) ((f37 y0.kind).index) ((f37 y0.kind).elem) ((f37 y0.kind).disc) ((f37 y0.kind).discName) ((f37 y0.kind).has) ((f37 y0.kind).default_) ((f37 y0.kind).comps) ((f37 y0.kind).target) y0.formal) else (k95 ((f37 y0.kind).parent) ((f37 y0.kind).lits) ((f37 y0.kind).index) ((f37 y0.kind).elem) ((f37 y0.kind).disc) ((f37 y0.kind).discName) ((f37 y0.kind).has) ((f37 y0.kind).default_) ((f37 y0.kind).comps) ((f37 y0.kind).target) ((f37 y0.kind).formal))))))))

def f88 (c0 : Int) : Bool :=
  (((decide (c0 ≥ 65)) && (decide (c0 ≤ 90))) || ((decide (c0 ≥ 97)) && (decide (c0 ≤ 122))))

def f103_l1 (l0 : List ByteArray) (s1 : ByteArray) (k21 : Unit → Option (Bool)) : Nat → Int → Option (Bool)
  | 0, _ => none
  | n+1, iq23 =>
  (bif (decide (iq23 < (List.length l0 : Int))) then Option.bind (idx l0 iq23) fun x25 =>
  (bif ((x25.toList == s1.toList)) then some true else (f103_l1 l0 s1 k21 n (IntKind.i64.wrap (iq23 + 1)))) else (k21 ()))
def f103 (l0 : List ByteArray) (s1 : ByteArray) : Option Bool :=
  letk (fun (_ : Unit) =>
  some false) fun k21 =>
  (f103_l1 l0 s1 k21 9223372036854775808 0)

def f104  : List ByteArray :=
  [(ByteArray.mk #[97, 98, 111, 114, 116]), (ByteArray.mk #[97, 98, 115]), (ByteArray.mk #[97, 99, 99, 101, 112, 116]), (ByteArray.mk #[97, 99, 99, 101, 115, 115]), (ByteArray.mk #[97, 108, 105, 97, 115, 101, 100]), (ByteArray.mk #[97, 108, 108]), (ByteArray.mk #[97, 110, 100]), (ByteArray.mk #[97, 114, 114, 97, 121]), (ByteArray.mk #[98, 101, 103, 105, 110]), (ByteArray.mk #[98, 111, 100, 121]), (ByteArray.mk #[99, 97, 115, 101]), (ByteArray.mk #[99, 111, 110, 115, 116, 97, 110, 116]), (ByteArray.mk #[100, 101, 99, 108, 97, 114, 101]), (ByteArray.mk #[100, 101, 108, 97, 121]), (ByteArray.mk #[100, 111]), (ByteArray.mk #[101, 108, 115, 101]), (ByteArray.mk #[101, 108, 115, 105, 102]), (ByteArray.mk #[101, 110, 100]), (ByteArray.mk #[101, 110, 116, 114, 121]), (ByteArray.mk #[101, 120, 99, 101, 112, 116, 105, 111, 110]), (ByteArray.mk #[101, 120, 105, 116]), (ByteArray.mk #[102, 111, 114]), (ByteArray.mk #[102, 117, 110, 99, 116, 105, 111, 110]), (ByteArray.mk #[103, 101, 110, 101, 114, 105, 99]), (ByteArray.mk #[105, 102]), (ByteArray.mk #[105, 110]), (ByteArray.mk #[105, 115]), (ByteArray.mk #[108, 105, 109, 105, 116, 101, 100]), (ByteArray.mk #[108, 111, 111, 112]), (ByteArray.mk #[109, 111, 100]), (ByteArray.mk #[110, 101, 119]), (ByteArray.mk #[110, 111, 116]), (ByteArray.mk #[110, 117, 108, 108]), (ByteArray.mk #[111, 102]), (ByteArray.mk #[111, 114]), (ByteArray.mk #[111, 116, 104, 101, 114, 115]), (ByteArray.mk #[111, 117, 116]), (ByteArray.mk #[112, 97, 99, 107, 97, 103, 101]), (ByteArray.mk #[112, 114, 97, 103, 109, 97]), (ByteArray.mk #[112, 114, 105, 118, 97, 116, 101]), (ByteArray.mk #[112, 114, 111, 99, 101, 100, 117, 114, 101]), (ByteArray.mk #[112, 114, 111, 116, 101, 99, 116, 101, 100]), (ByteArray.mk #[114, 97, 105, 115, 101]), (ByteArray.mk #[114, 97, 110, 103, 101]), (ByteArray.mk #[114, 101, 99, 111, 114, 100]), (ByteArray.mk #[114, 101, 109]), (ByteArray.mk #[114, 101, 110, 97, 109, 101, 115]), (ByteArray.mk #[114, 101, 113, 117, 101, 117, 101]), (ByteArray.mk #[114, 101, 116, 117, 114, 110]), (ByteArray.mk #[114, 101, 118, 101, 114, 115, 101]), (ByteArray.mk #[115, 101, 108, 101, 99, 116]), (ByteArray.mk #[115, 101, 112, 97, 114, 97, 116, 101]), (ByteArray.mk #[115, 117, 98, 116, 121, 112, 101]), (ByteArray.mk #[116, 97, 115, 107]), (ByteArray.mk #[116, 101, 114, 109, 105, 110, 97, 116, 101]), (ByteArray.mk #[116, 104, 101, 110]), (ByteArray.mk #[116, 121, 112, 101]), (ByteArray.mk #[117, 110, 116, 105, 108]), (ByteArray.mk #[117, 115, 101]), (ByteArray.mk #[119, 104, 101, 110]), (ByteArray.mk #[119, 104, 105, 108, 101]), (ByteArray.mk #[119, 105, 116, 104]), (ByteArray.mk #[120, 111, 114])]

def f89 (s0 : ByteArray) : Option Bool :=
  Option.bind (f103 f104 s0) fun r8 =>
  some r8

def f105 (c0 : Int) : Bool :=
  ((decide (c0 ≥ 48)) && (decide (c0 ≤ 57)))

def f90 (c0 : Int) : Bool :=
  (((f88 c0) || (f105 c0)) || (decide (c0 = 95)))

def f75_l1 (s0 : ByteArray) (k39 : Unit → Option (Bool)) : Nat → Int → Option (Bool)
  | 0, _ => none
  | n+1, iq41 =>
  (bif (decide (iq41 < (s0.size : Int))) then Option.bind (sIdx s0 iq41) fun x43 =>
  (bif (!(f90 x43)) then some false else (f75_l1 s0 k39 n (IntKind.i64.wrap (iq41 + 1)))) else (k39 ()))
def f75 (s0 : ByteArray) : Option Bool :=
  Option.bind (bif ((decide ((s0.size : Int) < 1)) || (decide ((s0.size : Int) > 32))) then some true else (Option.bind (sIdx s0 0) fun x36 => some (!(f88 x36)))) fun b35 =>
  Option.bind (bif b35 then some true else (Option.bind (f89 s0) fun r38 => some r38)) fun b37 =>
  (bif b37 then some false else letk (fun (_ : Unit) =>
  some true) fun k39 =>
  (f75_l1 s0 k39 9223372036854775808 0))

def f91 (t0 : Table) (ty1 : Int) : Option Bool :=
  Option.bind (idx t0.types ty1) fun x51 =>
  (bif (decide (x51.parent = (-1))) then some true else (bif (!(f51 x51.parent ty1)) then some false else Option.bind (idx t0.types x51.parent) fun x52 =>
  Option.bind (bif (((decide (x52.kind = x51.kind)) && (decide (x52.formal = 0))) && (decide (x51.formal = 0))) then (Option.bind (f72 x52.lits x51.lits) fun r54 => some r54) else some false) fun b53 =>
  some b53))

def f92_l2 (l0 : List ByteArray) (iq35 : Int) (k37 : Unit → Option (Bool)) : Nat → Int → Option (Bool)
  | 0, _ => none
  | na+1, k41 =>
  (bif (decide (k41 < iq35)) then Option.bind (idx l0 k41) fun x43 =>
  Option.bind (idx l0 iq35) fun x44 =>
  (bif ((x43.toList == x44.toList)) then some false else (f92_l2 l0 iq35 k37 na (IntKind.i64.wrap (k41 + 1)))) else (k37 ()))
def f92_l1 (l0 : List ByteArray) (k33 : Unit → Option (Bool)) : Nat → Int → Option (Bool)
  | 0, _ => none
  | n+1, iq35 =>
  (bif (decide (iq35 < (List.length l0 : Int))) then letk (fun (_ : Unit) =>
  (f92_l1 l0 k33 n (IntKind.i64.wrap (iq35 + 1)))) fun k37 =>
  Option.bind (idx l0 iq35) fun x38 =>
  Option.bind (f75 x38) fun r39 =>
  (bif (!r39) then some false else (f92_l2 l0 iq35 k37 9223372036854775808 0)) else (k33 ()))
def f92 (l0 : List ByteArray) : Option Bool :=
  letk (fun (_ : Unit) =>
  some true) fun k33 =>
  (f92_l1 l0 k33 9223372036854775808 0)

def f93 (t0 : Table) (sub1 : Int) : Option Bool :=
  Option.bind (f26 t0 sub1) fun r30 =>
  Option.bind (bif (r30.2.2 && (decide (r30.1 ≤ r30.2.1))) then some true else (Option.bind (f44 t0 sub1) fun r32 => some (decide (r32 = 6)))) fun b31 =>
  some b31

def f106_l1 (t0 : Table) (c2 : CompRow) (x100 : Ty) (k101 : Unit → Option (Bool)) : Nat → Int → Option (Bool)
  | 0, _ => none
  | n+1, iq103 =>
  (bif (decide (iq103 < (List.length c2.when : Int))) then Option.bind (idx c2.when iq103) fun x105 =>
  Option.bind (f45 t0 x100.disc x105) fun r106 =>
  Option.bind (bif (!r106) then some true else (Option.bind (bif (decide (iq103 > 0)) then (Option.bind (idx c2.when iq103) fun x109 => Option.bind (idx c2.when (IntKind.i64.wrap (iq103 - 1))) fun x110 => some (decide (x109 ≤ x110))) else some false) fun b108 => some b108)) fun b107 =>
  (bif b107 then some false else (f106_l1 t0 c2 x100 k101 n (IntKind.i64.wrap (iq103 + 1)))) else (k101 ()))
def f106 (t0 : Table) (ty1 : Int) (c2 : CompRow) : Option Bool :=
  Option.bind (f93 t0 c2.sub) fun r96 =>
  Option.bind (bif (!r96) then some true else (Option.bind (bif c2.has then (Option.bind (f45 t0 c2.sub c2.default_) fun r99 => some (!r99)) else some false) fun b98 => some b98)) fun b97 =>
  (bif (b97 || ((!c2.has) && (!decide (c2.default_ = 0)))) then some false else (bif (!c2.variant) then some (decide ((List.length c2.when : Int) = 0)) else Option.bind (idx t0.types ty1) fun x100 =>
  letk (fun (_ : Unit) =>
  some ((!decide (x100.disc = (-1))) && (decide ((List.length c2.when : Int) > 0)))) fun k101 =>
  (f106_l1 t0 c2 x100 k101 9223372036854775808 0)))

def f94_l1 (t0 : Table) (ty1 : Int) (x96 : Ty) (k107 : (List ByteArray) → Option (Bool)) : Nat → Int → (List ByteArray) → Option (Bool)
  | 0, _, _ => none
  | n+1, iq111, l112 =>
  (bif (decide (iq111 < (List.length x96.comps : Int))) then Option.bind (idx x96.comps iq111) fun x117 =>
  Option.bind (f106 t0 ty1 x117) fun r118 =>
  (bif (!r118) then some false else Option.bind (idx x96.comps iq111) fun x119 =>
  guardB (appOk 16 l112 [x119.name]) <|
  (f94_l1 t0 ty1 x96 k107 n (IntKind.i64.wrap (iq111 + 1)) (l112 ++ [x119.name]))) else (k107 l112))
def f94 (t0 : Table) (ty1 : Int) : Option Bool :=
  Option.bind (idx t0.types ty1) fun x96 =>
  letk (fun (l97 : List ByteArray) =>
  letk (fun (l105 : List ByteArray) =>
  Option.bind (bif ((decide ((List.length l105 : Int) ≥ 1)) && (decide ((List.length x96.comps : Int) ≤ 16))) then (Option.bind (f92 l105) fun r122 => some r122) else some false) fun b121 =>
  some (b121 && (x96.has || (decide (x96.default_ = 0))))) fun k107 =>
  (f94_l1 t0 ty1 x96 k107 9223372036854775808 0 l97)) fun k99 =>
  (bif (!decide (x96.disc = (-1))) then Option.bind (f78 t0 x96.disc 64) fun r100 =>
  Option.bind (bif (!r100) then some true else (Option.bind (bif x96.has then (Option.bind (f45 t0 x96.disc x96.default_) fun r103 => some (!r103)) else some false) fun b102 => some b102)) fun b101 =>
  (bif b101 then some false else guardB (appOk 16 [] [x96.discName]) <|
  (k99 ([] ++ [x96.discName]))) else (bif ((!(x96.discName.toList == (ByteArray.mk #[]).toList)) || x96.has) then some false else (k99 [])))

def f76 (t0 : Table) (ty1 : Int) : Option Bool :=
  Option.bind (idx t0.types ty1) fun x172 =>
  Option.bind (idx t0.subs x172.first) fun x173 =>
  (bif (decide (x172.kind = 2)) then Option.bind (f91 t0 ty1) fun r174 =>
  some ((r174 && (decide (x173.lo ≤ x173.hi))) && ((decide (x172.formal = 0)) || ((decide (x172.formal = 10)) && ((decide (x173.lo = 0)) && (decide (x173.hi = 0)))))) else (bif (decide (x172.kind = 3)) then (bif (decide (x172.formal = 9)) then Option.bind (f91 t0 ty1) fun r175 =>
  some ((r175 && (decide ((List.length x172.lits : Int) = 0))) && ((decide (x173.lo = 0)) && (decide (x173.hi = 0)))) else Option.bind (f91 t0 ty1) fun r176 =>
  Option.bind (bif (((r176 && (decide (x172.formal = 0))) && (decide ((List.length x172.lits : Int) ≥ 1))) && (decide ((List.length x172.lits : Int) ≤ 64))) then (Option.bind (f92 x172.lits) fun r178 => some r178) else some false) fun b177 =>
  some ((b177 && (decide (x173.lo ≤ x173.hi))) && ((!decide (x172.parent = (-1))) || ((decide (x173.lo = 0)) && (decide (x173.hi = (IntKind.i64.wrap ((List.length x172.lits : Int) - 1)))))))) else (bif (decide (x172.kind = 4)) then Option.bind (f78 t0 x172.index 64) fun r179 =>
  Option.bind (bif r179 then (Option.bind (f93 t0 x172.elem) fun r181 => some r181) else some false) fun b180 =>
  some b180 else (bif (decide (x172.kind = 5)) then Option.bind (f94 t0 ty1) fun r182 =>
  some (r182 && ((decide (x172.disc = (-1))) || ((decide (x173.lo = 0)) && (decide (x173.hi = (-1)))))) else (bif (decide (x172.kind = 6)) then Option.bind (f93 t0 x172.target) fun r183 =>
  Option.bind (bif r183 then (Option.bind (f56 t0 x172.target) fun r185 => some r185) else some false) fun b184 =>
  some b184 else (bif (decide (x172.kind = 7)) then some (decide (x172.formal = 8)) else some false))))))

def f55 (t0 : Table) (ty1 : Int) : Option Bool :=
  Option.bind (idx t0.types ty1) fun x84 =>
  letk (fun (t85 : Bool) =>
  (bif t85 then some false else (bif ((decide (x84.priv = (-1))) && ((!decide (x84.full = 0)) || (x84.limited && (!decide (x84.kind = 7))))) then some false else Option.bind (bif (f51 x84.first (List.length t0.subs : Int)) then (Option.bind (idx t0.subs x84.first) fun x90 => some (decide (x90.t = ty1))) else some false) fun b89 =>
  Option.bind (bif b89 then (Option.bind (f76 t0 ty1) fun r92 => some r92) else some false) fun b91 =>
  some b91))) fun k86 =>
  (bif (decide (x84.kind = 1)) then (k86 true) else Option.bind (f53 x84 (f74 x84)) fun r87 =>
  (bif (!r87) then (k86 true) else Option.bind (f75 x84.name) fun r88 =>
  (bif (!r88) then (k86 true) else (bif (decide (x84.level < 0)) then (k86 true) else (bif (decide (x84.priv < (-1))) then (k86 true) else (k86 (decide (x84.full < 0))))))))

def f24_l1 (t0 : Table) (k58 : Unit → Option (Bool)) : Nat → Int → Option (Bool)
  | 0, _ => none
  | n+1, iq60 =>
  (bif (decide (iq60 < (List.length t0.subs : Int))) then Option.bind (f54 t0 iq60) fun r62 =>
  (bif (!r62) then some false else (f24_l1 t0 k58 n (IntKind.i64.wrap (iq60 + 1)))) else (k58 ()))
def f24_l2 (t0 : Table) (k63 : Unit → Option (Bool)) : Nat → Int → Option (Bool)
  | 0, _ => none
  | n+1, iq65 =>
  (bif (decide (iq65 < (List.length t0.types : Int))) then Option.bind (f55 t0 iq65) fun r67 =>
  (bif (!r67) then some false else (f24_l2 t0 k63 n (IntKind.i64.wrap (iq65 + 1)))) else (k63 ()))
def f24 (t0 : Table) : Option Bool :=
  letk (fun (t54 : Bool) =>
  (bif t54 then some false else letk (fun (_ : Unit) =>
  letk (fun (_ : Unit) =>
  some true) fun k63 =>
  (f24_l2 t0 k63 9223372036854775808 1)) fun k58 =>
  (f24_l1 t0 k58 9223372036854775808 0))) fun k55 =>
  (bif (decide ((List.length t0.types : Int) < 1)) then (k55 true) else (bif (decide ((List.length t0.types : Int) > 256)) then (k55 true) else (bif (decide ((List.length t0.subs : Int) > 512)) then (k55 true) else Option.bind (idx t0.types 0) fun x56 =>
  Option.bind (f53 x56 (f37 1)) fun r57 =>
  (k55 (!r57)))))

def f5_l3 (r116 : Table) (a119 : Int) (b131 : Int) (k133 : Unit → Option (Bool)) : Nat → Int → Option (Bool)
  | 0, _ => none
  | nb+1, c137 =>
  (bif (decide (c137 < (if 12 < (List.length r116.types : Int) then 12 else (List.length r116.types : Int)))) then Option.bind (f18 r116 a119 b131) fun r139 =>
  Option.bind (bif r139 then (Option.bind (f18 r116 b131 c137) fun r141 => some r141) else some false) fun b140 =>
  Option.bind (bif b140 then (Option.bind (f18 r116 a119 c137) fun r143 => some (!r143)) else some false) fun b142 =>
  (bif b142 then some false else (f5_l3 r116 a119 b131 k133 nb (IntKind.i64.wrap (c137 + 1)))) else (k133 ()))
def f5_l2 (r116 : Table) (a119 : Int) (k121 : Unit → Option (Bool)) : Nat → Int → Option (Bool)
  | 0, _ => none
  | na+1, b131 =>
  (bif (decide (b131 < (if 12 < (List.length r116.types : Int) then 12 else (List.length r116.types : Int)))) then letk (fun (_ : Unit) =>
  (f5_l2 r116 a119 k121 na (IntKind.i64.wrap (b131 + 1)))) fun k133 =>
  Option.bind (f18 r116 a119 b131) fun r134 =>
  Option.bind (f18 r116 b131 a119) fun r135 =>
  (bif (!(r134 == r135)) then some false else (f5_l3 r116 a119 b131 k133 9223372036854775808 0)) else (k121 ()))
def f5_l1 (r116 : Table) (k117 : Unit → Option (Bool)) : Nat → Int → Option (Bool)
  | 0, _ => none
  | n+1, a119 =>
  (bif (decide (a119 < (if 12 < (List.length r116.types : Int) then 12 else (List.length r116.types : Int)))) then letk (fun (_ : Unit) =>
  (f5_l1 r116 k117 n (IntKind.i64.wrap (a119 + 1)))) fun k121 =>
  Option.bind (f22 r116 a119) fun r122 =>
  Option.bind (f18 r116 a119 a119) fun r123 =>
  Option.bind (bif (!r123) then some true else (Option.bind (f24 r116) fun r125 => Option.bind (bif r125 then (Option.bind (f18 r116 a119 r122) fun r127 => some (!r127)) else some false) fun b126 => some b126)) fun b124 =>
  Option.bind (bif b124 then some true else (Option.bind (f22 r116 r122) fun r129 => some (!decide (r129 = r122)))) fun b128 =>
  (bif b128 then some false else (f5_l2 r116 a119 k121 9223372036854775808 0)) else (k117 ()))
def f5_l5 (r116 : Table) (t146 : Int) (k148 : Unit → Option (Bool)) : Nat → Int → Option (Bool)
  | 0, _ => none
  | na+1, t150 =>
  (bif (decide (t150 < (List.length r116.subs : Int))) then Option.bind (f20 r116 t146 t150) fun r152 =>
  Option.bind (idx r116.subs t146) fun x153 =>
  Option.bind (idx r116.subs t150) fun x154 =>
  (bif (!(r152 == (((decide (x153.t = x154.t)) && ((decide (x153.lo = x154.lo)) && ((decide (x153.hi = x154.hi)) && true)))))) then some false else (f5_l5 r116 t146 k148 na (IntKind.i64.wrap (t150 + 1)))) else (k148 ()))
def f5_l4 (r116 : Table) (k144 : Unit → Option (Bool)) : Nat → Int → Option (Bool)
  | 0, _ => none
  | n+1, t146 =>
  (bif (decide (t146 < (List.length r116.subs : Int))) then letk (fun (_ : Unit) =>
  (f5_l4 r116 k144 n (IntKind.i64.wrap (t146 + 1)))) fun k148 =>
  (f5_l5 r116 t146 k148 (Int.toNat ((List.length r116.subs : Int) - 0) + 1) 0) else (k144 ()))
def f5 (t0 : Table) : Option Bool :=
  Option.bind (f10 t0) fun r116 =>
  letk (fun (_ : Unit) =>
  letk (fun (_ : Unit) =>
  Option.bind (f17) fun r155 =>
  some r155) fun k144 =>
  (f5_l4 r116 k144 (Int.toNat ((List.length r116.subs : Int) - 0) + 1) 0)) fun k117 =>
  (f5_l1 r116 k117 9223372036854775808 0)

def f25 (t0 : Table) (sub1 : Int) : Option (Int × Int × Bool) :=
  Option.bind (f43 (View.mk t0) sub1) fun r17 =>
  some (r17.1, r17.2.1, r17.2.2)

def f57 (l0 : List Int) (i1 : Int) : Option (Int × Bool) :=
  (bif ((decide (i1 < 0)) || (decide (i1 ≥ (List.length l0 : Int)))) then some (0, false) else Option.bind (idx l0 i1) fun x22 =>
  some (x22, true))

def f27 (t0 : Table) (sub1 : Int) (slot2 : Int) : Option (Int × Bool) :=
  Option.bind (f58 (View.mk t0) sub1) fun r20 =>
  Option.bind (f57 r20 slot2) fun r21 =>
  some (r21.1, r21.2)

def f28 (t0 : Table) (sub1 : Int) (slot2 : Int) : Option (Int × Bool) :=
  Option.bind (f59 t0 sub1) fun r25 =>
  (bif (!(f51 slot2 (List.length r25 : Int))) then some (0, false) else Option.bind (idx r25 slot2) fun x26 =>
  some (x26, true))

def f62 (t0 : Table) (sub1 : Int) (v2 : Int) : Option Bool :=
  Option.bind (f44 t0 sub1) fun r31 =>
  letk (fun (t32 : Bool) =>
  (bif t32 then Option.bind (f45 t0 sub1 v2) fun r34 =>
  some r34 else (bif (decide (r31 = 6)) then some ((decide (v2 ≥ 0)) && (decide (v2 ≤ 2048))) else (bif (decide (r31 = 7)) then some true else some false)))) fun k33 =>
  (bif (decide (r31 = 2)) then (k33 (decide (r31 = 2))) else (k33 (decide (r31 = 3))))

def f63 (t0 : Table) (sub1 : Int) : Option Bool :=
  Option.bind (f44 t0 sub1) fun r41 =>
  Option.bind (bif (decide (r41 = 5)) then (Option.bind (idx t0.subs sub1) fun x43 => Option.bind (idx t0.types x43.t) fun x44 => some (!decide (x44.disc = (-1)))) else some false) fun b42 =>
  Option.bind (bif b42 then (Option.bind (idx t0.subs sub1) fun x46 => Option.bind (idx t0.subs sub1) fun x47 => some (decide (x46.lo = x47.hi))) else some false) fun b45 =>
  some b45

def f32_l1 (t0 : Table) (v2 : List Int) (r59 : List Int) (k60 : Unit → Option (Bool)) : Nat → Int → Option (Bool)
  | 0, _ => none
  | n+1, iq62 =>
  (bif (decide (iq62 < (List.length r59 : Int))) then Option.bind (idx r59 iq62) fun x64 =>
  Option.bind (idx v2 iq62) fun x65 =>
  Option.bind (f62 t0 x64 x65) fun r66 =>
  (bif (!r66) then some false else (f32_l1 t0 v2 r59 k60 n (IntKind.i64.wrap (iq62 + 1)))) else (k60 ()))
def f32 (t0 : Table) (sub1 : Int) (v2 : List Int) : Option Bool :=
  Option.bind (f59 t0 sub1) fun r59 =>
  (bif ((!decide ((List.length r59 : Int) = (List.length v2 : Int))) || (decide ((List.length r59 : Int) = 0))) then some false else letk (fun (_ : Unit) =>
  Option.bind (f63 t0 sub1) fun r67 =>
  Option.bind (bif (!r67) then some true else (Option.bind (idx v2 0) fun x69 => Option.bind (idx t0.subs sub1) fun x70 => some (decide (x69 = x70.lo)))) fun b68 =>
  some b68) fun k60 =>
  (f32_l1 t0 v2 r59 k60 9223372036854775808 0))

def f65 (t0 : Table) (sub1 : Int) : Option (Int × Bool) :=
  Option.bind (f26 t0 sub1) fun r41 =>
  (bif (!r41.2.2) then Option.bind (f44 t0 sub1) fun r42 =>
  Option.bind (bif (decide (r42 = 6)) then some true else (Option.bind (f44 t0 sub1) fun r44 => some (decide (r44 = 7)))) fun b43 =>
  some (0, b43) else (bif (decide (r41.1 > r41.2.1)) then some (0, false) else (bif ((decide (r41.1 ≤ 0)) && (decide (r41.2.1 ≥ 0))) then some (0, true) else some (r41.1, true))))

def f35_l1 (t0 : Table) (r100 : List Int) (k103 : (List Int) → Option (List Int)) : Nat → Int → (List Int) → Option (List Int)
  | 0, _, _ => none
  | n+1, iq107, l108 =>
  (bif (decide (iq107 < (List.length r100 : Int))) then Option.bind (idx r100 iq107) fun x113 =>
  Option.bind (f65 t0 x113) fun r114 =>
  (bif (!r114.2) then some [] else guardB (appOk 8 l108 [r114.1]) <|
  (f35_l1 t0 r100 k103 n (IntKind.i64.wrap (iq107 + 1)) (l108 ++ [r114.1]))) else (k103 l108))
def f35_l2 (x118 : Ty) (first119 : Int) (k129 : (List Int) → Option (List Int)) : Nat → Int → (List Int) → Option (List Int)
  | 0, _, _ => none
  | n+1, iq133, l134 =>
  (bif (decide (iq133 < (List.length x118.comps : Int))) then letk (fun (l139 : List Int) =>
  (f35_l2 x118 first119 k129 n (IntKind.i64.wrap (iq133 + 1)) l139)) fun k141 =>
  Option.bind (idx x118.comps iq133) fun x142 =>
  (bif x142.has then Option.bind (idx x118.comps iq133) fun x143 =>
  Option.bind (idx l134 (IntKind.i64.wrap (first119 + iq133))) fun x144 =>
  (k141 (List.set l134 (Int.toNat (IntKind.i64.wrap (first119 + iq133))) x143.default_)) else (k141 l134)) else (k129 l134))
def f35 (t0 : Table) (sub1 : Int) : Option (List Int) :=
  Option.bind (f59 t0 sub1) fun r100 =>
  letk (fun (l101 : List Int) =>
  Option.bind (f44 t0 sub1) fun r116 =>
  (bif (!decide (r116 = 5)) then some l101 else Option.bind (idx t0.subs sub1) fun x117 =>
  Option.bind (idx t0.types x117.t) fun x118 =>
  letk (fun (first119 : Int) (l120 : List Int) =>
  letk (fun (l127 : List Int) =>
  some l127) fun k129 =>
  (f35_l2 x118 first119 k129 9223372036854775808 0 l120)) fun k122 =>
  (bif (!decide (x118.disc = (-1))) then Option.bind (f63 t0 sub1) fun r123 =>
  (bif r123 then Option.bind (idx t0.subs sub1) fun x124 =>
  Option.bind (idx l101 0) fun x125 =>
  (k122 1 (List.set l101 (Int.toNat 0) x124.lo)) else (bif x118.has then Option.bind (idx l101 0) fun x126 =>
  (k122 1 (List.set l101 (Int.toNat 0) x118.default_)) else (k122 1 l101))) else (k122 0 l101)))) fun k103 =>
  (f35_l1 t0 r100 k103 9223372036854775808 0 [])

def f6_l1 (sub1 : Int) (slot2 : Int) (v3 : List Int) (r119 : Table) (k120 : Unit → Option (Bool)) : Nat → Int → Option (Bool)
  | 0, _ => none
  | n+1, iq122 =>
  (bif (decide (iq122 ≤ (List.length r119.subs : Int))) then letk (fun (s124 : Int) =>
  Option.bind (f25 r119 s124) fun r126 =>
  Option.bind (f26 r119 s124) fun r127 =>
  Option.bind (f27 r119 s124 slot2) fun r128 =>
  Option.bind (f28 r119 s124 slot2) fun r129 =>
  Option.bind (bif (((((!decide (r126.1 = r127.1)) || (!decide (r126.2.1 = r127.2.1))) || (!(r126.2.2 == r127.2.2))) || (!decide (r128.1 = r129.1))) || (!(r128.2 == r129.2))) then some true else (Option.bind (f29 r119 s124) fun r131 => Option.bind (f30 r119 s124) fun r132 => some (!decide (r131 = r132)))) fun b130 =>
  (bif b130 then some false else letk (fun (t133 : Bool) =>
  (bif t133 then some false else (f6_l1 sub1 slot2 v3 r119 k120 n (IntKind.i64.wrap (iq122 + 1))))) fun k134 =>
  Option.bind (f31 r119 s124 v3) fun r135 =>
  Option.bind (f32 r119 s124 v3) fun r136 =>
  (bif (!(r135 == r136)) then (k134 true) else Option.bind (f34 r119 s124) fun r137 =>
  Option.bind (f35 r119 s124) fun r138 =>
  Option.bind (f33 r137 r138) fun r139 =>
  (k134 (!r139))))) fun k125 =>
  (bif (decide (iq122 < 0)) then (k125 sub1) else (k125 iq122)) else (k120 ()))
def f6 (t0 : Table) (sub1 : Int) (slot2 : Int) (v3 : List Int) : Option Bool :=
  Option.bind (f10 t0) fun r119 =>
  letk (fun (_ : Unit) =>
  Option.bind (f17) fun r140 =>
  some r140) fun k120 =>
  (f6_l1 sub1 slot2 v3 r119 k120 9223372036854775808 (-1))

def f7_l2 (r79 : Table) (t84 : Int) (k89 : Bool → Option (Bool)) : Nat → Bool → Int → Option (Bool)
  | 0, _, _ => none
  | na+1, empty92, iq93 =>
  Option.bind (f29 r79 t84) fun r96 =>
  (bif (decide (iq93 < r96)) then Option.bind (f27 r79 t84 iq93) fun r97 =>
  Option.bind (f25 r79 r97.1) fun r98 =>
  (bif (!r97.2) then some false else (f7_l2 r79 t84 k89 na (empty92 || (r98.2.2 && (decide (r98.1 > r98.2.1)))) (IntKind.i64.wrap (iq93 + 1)))) else (k89 empty92))
def f7_l1 (r79 : Table) (k82 : Unit → Option (Bool)) : Nat → Int → Option (Bool)
  | 0, _ => none
  | n+1, t84 =>
  (bif (decide (t84 < (List.length r79.subs : Int))) then letk (fun (_ : Unit) =>
  (f7_l1 r79 k82 n (IntKind.i64.wrap (t84 + 1)))) fun k86 =>
  Option.bind (f34 r79 t84) fun r87 =>
  letk (fun (empty88 : Bool) =>
  Option.bind (bif (!((decide ((List.length r87 : Int) = 0)) == empty88)) then some true else (Option.bind (bif (!empty88) then (Option.bind (f31 r79 t84 r87) fun r101 => some (!r101)) else some false) fun b100 => some b100)) fun b99 =>
  (bif b99 then some false else (k86 ()))) fun k89 =>
  (f7_l2 r79 t84 k89 9223372036854775808 false 0) else (k82 ()))
def f7 (t0 : Table) : Option Bool :=
  Option.bind (f10 t0) fun r79 =>
  Option.bind (f24 r79) fun r80 =>
  (bif (!r80) then Option.bind (f17) fun r81 =>
  some r81 else letk (fun (_ : Unit) =>
  Option.bind (f17) fun r102 =>
  some r102) fun k82 =>
  (f7_l1 r79 k82 (Int.toNat ((List.length r79.subs : Int) - 0) + 1) 0))

def f8_l2 (r205 : Table) (t210 : Int) (x232 : Ty) (k234 : Int → Option (Bool)) (r235 : Int × Int × Bool) : Nat → Int → Int → Option (Bool)
  | 0, _, _ => none
  | na+1, n238, v239 =>
  (bif (decide (v239 ≤ r235.2.1)) then Option.bind (f11 r205 t210 v239) fun r242 =>
  Option.bind (f27 r205 t210 n238) fun r243 =>
  (bif ((((!r242.2) || (!decide (r242.1 = n238))) || (!r243.2)) || (!decide (r243.1 = x232.elem))) then some false else (f8_l2 r205 t210 x232 k234 r235 na (IntKind.i64.wrap (n238 + 1)) (IntKind.i64.wrap (v239 + 1)))) else (k234 n238))
def f8_l3 (r205 : Table) (t210 : Int) (x232 : Ty) (k234 : Int → Option (Bool)) (n244 : Int) : Nat → Int → Option (Bool)
  | 0, _ => none
  | na+1, t249 =>
  (bif (decide (t249 < (List.length x232.comps : Int))) then Option.bind (idx x232.comps t249) fun x251 =>
  Option.bind (f13 r205 t210 x251.name) fun r252 =>
  Option.bind (f27 r205 t210 r252.1) fun r253 =>
  (bif ((((!r252.2) || (!decide (r252.1 = (IntKind.i64.wrap ((IntKind.i64.wrap (n244 - (List.length x232.comps : Int))) + t249))))) || (!r253.2)) || (!decide (r253.1 = x251.sub))) then some false else (f8_l3 r205 t210 x232 k234 n244 na (IntKind.i64.wrap (t249 + 1)))) else (k234 n244))
def f8_l1 (r205 : Table) (k208 : Unit → Option (Bool)) : Nat → Int → Option (Bool)
  | 0, _ => none
  | n+1, t210 =>
  (bif (decide (t210 < (List.length r205.subs : Int))) then letk (fun (c10212 : Int) (c11213 : ByteArray) (c12214 : Int) (c13215 : Int) (c14216 : List ByteArray) (c15217 : Int) (c16218 : Int) (c17219 : Int) (c18220 : ByteArray) (c19221 : Bool) (c110222 : Int) (c111223 : List CompRow) (c112224 : Int) (c113225 : Int) (c114226 : Bool) (c115227 : Int) (c116228 : Int) (c117229 : Int) =>
  (f8_l1 r205 k208 n (IntKind.i64.wrap (t210 + 1)))) fun k230 =>
  Option.bind (idx r205.subs t210) fun x231 =>
  Option.bind (idx r205.types x231.t) fun x232 =>
  letk (fun (n233 : Int) =>
  Option.bind (f27 r205 t210 n233) fun r254 =>
  Option.bind (f29 r205 t210) fun r255 =>
  (bif ((!decide (r255 = n233)) || r254.2) then some false else (k230 x232.kind x232.name x232.parent x232.first x232.lits x232.index x232.elem x232.disc x232.discName x232.has x232.default_ x232.comps x232.target x232.formal x232.limited x232.priv x232.full x232.level))) fun k234 =>
  (bif (decide (x232.kind = 4)) then Option.bind (f25 r205 x232.index) fun r235 =>
  (f8_l2 r205 t210 x232 k234 r235 9223372036854775808 0 r235.1) else (bif (decide (x232.kind = 5)) then letk (fun (n244 : Int) =>
  (f8_l3 r205 t210 x232 k234 n244 (Int.toNat ((List.length x232.comps : Int) - 0) + 1) 0)) fun k245 =>
  (bif (decide (x232.disc ≥ 0)) then Option.bind (f13 r205 t210 x232.discName) fun r246 =>
  Option.bind (f27 r205 t210 0) fun r247 =>
  (bif ((((!r246.2) || (!decide (r246.1 = 0))) || (!r247.2)) || (!decide (r247.1 = x232.disc))) then some false else (k245 (IntKind.i64.wrap ((List.length x232.comps : Int) + 1)))) else (k245 (List.length x232.comps : Int))) else (k234 1))) else (k208 ()))
def f8 (t0 : Table) : Option Bool :=
  Option.bind (f10 t0) fun r205 =>
  Option.bind (f24 r205) fun r206 =>
  (bif (!r206) then Option.bind (f17) fun r207 =>
  some r207 else letk (fun (_ : Unit) =>
  Option.bind (f17) fun r256 =>
  some r256) fun k208 =>
  (f8_l1 r205 k208 (Int.toNat ((List.length r205.subs : Int) - 0) + 1) 0))
end Go.Proofs.YteafckpdbmncfaaDoor
