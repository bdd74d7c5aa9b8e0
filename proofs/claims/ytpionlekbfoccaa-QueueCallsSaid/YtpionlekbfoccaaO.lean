/- Layer 29: the types of the functions. -/
import Derived.Test.YtpionlekbfoccaaProg
import Derived.KernelRfl
import Derived.Test.YtpionlekbfoccaaT
namespace Go.Proofs.Ytpionlekbfoccaa
open Go Go.Sk
structure Due where
  time : Int
  task : Int
structure Queues where
  ready : Nat → (List Int)
  delays : List Due
  run : Int
structure Step where
  what : Int
  prio : Int
  task : Int
  time : Int
abbrev E3 (x : Int) : List D := [.i .i64 x]
theorem E3_eq (x : Int) : E3 x = [.i .i64 x] := rfl
abbrev R23 (x : Nat → (List Int)) : List D := vecC 32 (fun j => .sl (List.map E3 (x j)))
abbrev E23 (x : Nat → (List Int)) : List D := R23 x
abbrev R62 (x : Due) : List D := [.i .i64 x.time, .i .i64 x.task]
abbrev E62 (x : Due) : List D := R62 x
theorem E62_eq (x : Due) : E62 x = R62 x := rfl
abbrev R26 (x : Queues) : List D := R23 x.ready ++ ([.sl (List.map E62 x.delays), .i .i64 x.run])
abbrev E26 (x : Queues) : List D := R26 x
abbrev R52 (x : Step) : List D := [.i .u8 x.what, .i .i64 x.prio, .i .i64 x.task, .i .i64 x.time]
abbrev E52 (x : Step) : List D := R52 x
theorem E52_eq (x : Step) : E52 x = R52 x := rfl
abbrev E22 (x : List Int) : List D := [.sl (List.map E3 x)]
theorem E22_eq (x : List Int) : E22 x = [.sl (List.map E3 x)] := rfl
abbrev E89 (x : List (List Int)) : List D := [.sl (List.map E22 x)]
abbrev E41 (x : Int) : List D := [.i .u16 x]
abbrev E5 (x : Int) : List D := [.i .u8 x]
end Go.Proofs.Ytpionlekbfoccaa
set_option maxHeartbeats 4000000
set_option maxRecDepth 100000
namespace Go.Proofs.Ytpionlekbfoccaa.O
open Go Go.Sk Go.Proofs.Ytpionlekbfoccaa

def ownOk (q : Queues) : Bool := (List.range 32).all (fun j => appOk 8 ([] : List Int) (q.ready j)) && appOk 16 ([] : List Due) q.delays
def f23 (q0 : Queues) : Option Queues := guardB (ownOk q0) (some q0)

abbrev cNil : AV := .d (.v (.slice none 0 0))
def ownRow (q : Queues) (c : Nat) : Nat → AV := fun j => bif Nat.blt j c then .d (.sl (List.map E3 (q.ready j))) else cNil
theorem blt_f {a b : Nat} (h : b ≤ a) : Nat.blt a b = false := by
  unfold Nat.blt
  cases hb : Nat.ble (a + 1) b with
  | false => rfl
  | true => have := Nat.le_of_ble_eq_true hb; omega
theorem blt_t {a b : Nat} (h : a < b) : Nat.blt a b = true := Nat.ble_eq_true_of_le h
theorem ownRow_at (q : Queues) (c : Nat) : ownRow q c (Int.toNat (c : Int)) = cNil := by
  show (bif Nat.blt c c then _ else _) = _
  rw [blt_f (Nat.le_refl c)]; rfl
theorem ownRow_succ (q : Queues) (c : Nat) : vset (ownRow q c) c (.d (.sl (List.map E3 (q.ready c)))) = ownRow q (c + 1) := by
  funext j
  have h := vset_app (fun x : AV => x) (ownRow q c) c j (.d (.sl (List.map E3 (q.ready c))))
  rw [h]
  unfold ownRow
  by_cases hj : j = c
  · subst hj
    rw [if_pos rfl, blt_t (Nat.lt_succ_self j)]; rfl
  · rw [if_neg hj]
    by_cases h2 : j < c
    · rw [blt_t h2, blt_t (Nat.lt_succ_of_lt h2)]
    · rw [blt_f (by omega), blt_f (by omega)]
abbrev ownCs (q : Queues) (f : Nat → AV) : List AV := vecA 32 f ++ [cNil, .d (D.i .i64 q.run)]
abbrev zCs : List AV := vecA 32 (fun _ => cNil) ++ [cNil, .d (D.i .i64 0)]

theorem a22 : aggOf Try.prog 22 = some false := by kernel_rfl
theorem a24 : aggOf Try.prog 24 = some false := by kernel_rfl
theorem a26 : aggOf Try.prog 26 = some true := by kernel_rfl
theorem a3 : aggOf Try.prog 3 = some false := by kernel_rfl
theorem f26_0 : fieldOf Try.prog 26 0 = some (0, 32, true) := by kernel_rfl
theorem f26_1 : fieldOf Try.prog 26 1 = some (32, 1, false) := by kernel_rfl
theorem f26_2 : fieldOf Try.prog 26 2 = some (33, 1, false) := by kernel_rfl
theorem l22 : eltOf Try.prog 22 = some (3, 1, 8) := by kernel_rfl
theorem l24 : eltOf Try.prog 24 = some (62, 2, 16) := by kernel_rfl
theorem p26 : placesOf Try.prog 26 = some [(0, 32), (32, 1), (33, 1)] := by kernel_rfl
theorem ar23 : arrOf Try.prog 23 = some (32, 1, false) := by kernel_rfl
theorem s22 : szOf Try.prog 22 = some 1 := by kernel_rfl
theorem s24 : szOf Try.prog 24 = some 1 := by kernel_rfl
theorem s26 : szOf Try.prog 26 = some 34 := by kernel_rfl
theorem z26 : zeroOf Try.prog 26 = some [.slice none 0 0, .slice none 0 0, .slice none 0 0, .slice none 0 0, .slice none 0 0, .slice none 0 0, .slice none 0 0, .slice none 0 0, .slice none 0 0, .slice none 0 0, .slice none 0 0, .slice none 0 0, .slice none 0 0, .slice none 0 0, .slice none 0 0, .slice none 0 0, .slice none 0 0, .slice none 0 0, .slice none 0 0, .slice none 0 0, .slice none 0 0, .slice none 0 0, .slice none 0 0, .slice none 0 0, .slice none 0 0, .slice none 0 0, .slice none 0 0, .slice none 0 0, .slice none 0 0, .slice none 0 0, .slice none 0 0, .slice none 0 0, .slice none 0 0, .int .i64 0] := by kernel_rfl
theorem z3 : zeroOf Try.prog 3 = some [.int .i64 0] := by kernel_rfl
theorem z62 : zeroOf Try.prog 62 = some [.int .i64 0, .int .i64 0] := by kernel_rfl

theorem wrap_id (c : Nat) (h : (c : Int) < 32) : IntKind.i64.wrap ((c : Int) + 1) = ((c + 1 : Nat) : Int) := by
  have h2 : ∀ x : Nat, x < 32 → IntKind.i64.wrap ((x : Int) + 1) = ((x + 1 : Nat) : Int) := by decide
  exact h2 c (by omega)
theorem lts_all {n : Nat} : ∀ {l : List AV}, (∀ x ∈ l, x.lt n = true) → AV.lts n l = true
  | [], _ => rfl
  | x :: l, h => by rw [AV.lts, h x (by simp), lts_all (fun y hy => h y (by simp [hy]))]; rfl
theorem ownRow_lt (q : Queues) (c n j : Nat) : (ownRow q c j).lt n = true := by
  unfold ownRow; cases Nat.blt j c <;> rfl
theorem ownLt (q : Queues) (c : Nat) : stLt 2 [.row 26 zCs, .row 26 (ownCs q (ownRow q c))] = true := by
  have h1 : AV.lts 2 zCs = true := rfl
  have h2 : AV.lts 2 (ownCs q (ownRow q c)) = true := lts_all fun x hx => by
    rcases List.mem_append.1 hx with hx | hx
    · obtain ⟨j, _, rfl⟩ := List.mem_map.1 hx
      exact ownRow_lt q c 2 j
    · simp only [List.mem_cons, List.not_mem_nil, or_false] at hx
      rcases hx with rfl | rfl <;> rfl
  simp [stLt, AO.lt, h1, h2]
theorem ready_set (q : Queues) (c : Nat) (hc : c < 32) (x : AV) : (vecA 32 (vset (ownRow q c) (Int.toNat (c : Int)) x) ++ [cNil, .d (D.i .i64 q.run)])[c]? = some x := by
  rw [List.getElem?_append_left (by simp [vecA]; exact hc)]
  simp [vecA, hc, vset]
theorem ready_set2 (q : Queues) (c : Nat) (hc : c < 32) (x : AV) : (vecA 32 (vset (ownRow q c) (Int.toNat (c : Int)) x) ++ [cNil, .d (D.i .i64 q.run)]).set c (.d (.sl (List.map E3 ([] ++ q.ready c)))) = ownCs q (ownRow q (c + 1)) := by
  rw [List.set_append_left _ _ (by simp [vecA]; exact hc)]
  have h := vecA_set (fun x : AV => x) 32 (vset (ownRow q c) (Int.toNat (c : Int)) x) c (.d (.sl (List.map E3 ([] ++ q.ready c))))
  have e : vset (vset (ownRow q c) (Int.toNat (c : Int)) x) c (.d (.sl (List.map E3 ([] ++ q.ready c)))) = ownRow q (c + 1) := by
    rw [← ownRow_succ]
    funext j
    have h1 := vset_app (fun x : AV => x) (vset (ownRow q c) (Int.toNat (c : Int)) x) c j (.d (.sl (List.map E3 ([] ++ q.ready c))))
    have h2 := vset_app (fun x : AV => x) (ownRow q c) (Int.toNat (c : Int)) j x
    have h3 := vset_app (fun x : AV => x) (ownRow q c) c j (.d (.sl (List.map E3 (q.ready c))))
    rw [h1, h2, h3]
    by_cases hj : j = c <;> simp [hj]
  rw [e] at h
  rw [h]

theorem f23_c (q0 : Queues) {r : Queues} (h : f23 q0 = some r) : Pu Try.prog 23 [.ag (R26 q0)] (.ag (R26 r)) := by
 unfold f23 at h
 obtain ⟨hok, h⟩ := guardBS h
 obtain rfl := Option.some.inj h
 clear h
 unfold ownOk at hok
 rw [Bool.and_eq_true] at hok
 obtain ⟨hok, hokd⟩ := hok
 have hokj : ∀ j, j < 32 → appOk 8 ([] : List Int) (q0.ready j) = true := fun j hj => List.all_eq_true.1 hok j (List.mem_range.2 hj)
 refine fn_intro Try.func23 (by kernel_rfl) rfl rfl rfl (fun φφ ww => ?_)
 refine wc_sr ?_
 refine WL.s ((b_boxd rfl rfl (Les.refl _)).does) (Wt.none rfl) rfl rfl ?_
 refine WL.s ((b_alloc z26).does) (Wt.none rfl) rfl rfl ?_
 refine WL.ns ?_
 refine wc_sr ?_
 refine WL.qn (y_fieldAddrc f26_2 rfl) rfl ?_
 refine WL.qn (y_loadc rfl a3 rfl) rfl ?_
 refine WL.qn (y_build p26 z26 rfl rfl) rfl ?_
 refine WL.s ((b_alloc z26).does) (Wt.none rfl) rfl rfl ?_
 refine WL.s0 (d_store rfl rfl rfl rfl rfl rfl s26 rfl rfl) (Wt.none rfl) rfl ?_
 refine WL.st (st' := [.row 26 zCs, .row 26 (ownCs q0 (ownRow q0 0))]) rfl ?_
 refine WL.ns ?_
 refine wc_cut (fun env' st' => Sub [(1, .d (.pc (R26 q0))), (2, .pt 0 0), (3, .pt 1 0)] env' ∧ SLe st' [.row 26 zCs, .row 26 (ownCs q0 (ownRow q0 32))]) ?_ ?_
 ·refine wc_sr ?_
  refine WL.as rfl rfl ?_
  refine WL.ns ?_
  refine wc_block ?_
  refine wc_loop (ι := Nat) (fun c env' st' => c ≤ 32 ∧ Sub [(1, .d (.pc (R26 q0))), (2, .pt 0 0), (3, .pt 1 0), (4, .d (D.i .i64 (c : Int)))] env' ∧ SLe st' [.row 26 zCs, .row 26 (ownCs q0 (ownRow q0 c))]) (fun c => 32 - c) 0 ⟨by decide, (Sub.cons rfl (Le.refl _) (Sub.cons rfl (Le.refl _) (Sub.cons rfl (Le.refl _) (Sub.cons rfl (Le.refl _) (Sub.nil _))))), SLe.refl _⟩ ?_
  rintro c env1 st1 ⟨hc, hsub, hst⟩
  refine WC.sub hsub (WC.weak hst ?_)
  refine wc_seq ?_
  refine wc_sr ?_
  refine WL.mv rfl rfl ?_
  refine WL.qn (y_lss rfl rfl) rfl ?_
  refine WL.ns ?_
  refine wc_cond rfl (fun hc1 => ?_) (fun hc1 => ?_)
  ·have hc2 : c < 32 := by
    have := of_decide_eq_true hc1
    omega
   have hv : vecOk 32 (c : Int) = true := by simp [vecOk, hc2]
   refine wc_skip ?_
   refine we_seq ?_
   refine wc_seq ?_
   refine wc_block ?_
   apply wc_region_all [_, _, _, _, _, _, _, _, _, _, _, _, .u] [[], [], [], [1, 2], [1, 2, 3], [], [], [5, 6], [5, 6, 7], [1, 2, 3, 4, 5, 6, 7, 8], [], [0, 1, 2, 3, 4, 5, 6, 7, 8, 9, 10], [0, 1, 2, 3, 4, 5, 6, 7, 8, 9, 10, 11]] [9, 12] (fun i => List.getD [[.row 26 zCs, .row 26 (ownCs q0 (ownRow q0 c))], [.row 26 zCs, .row 26 (ownCs q0 (ownRow q0 c)), .os 3 1 1 (List.map (encA E3) ([] ++ (q0.ready c)))], [.row 26 zCs, .row 26 (ownCs q0 (vset (ownRow q0 c) (Int.toNat (c : Int)) (.os 2 1))), .os 3 1 1 (List.map (encA E3) ([] ++ (q0.ready c)))]] i []) [([], [4], [0, 1]), ([], [4], [0]), ([], [3], [0]), ([2, 1], [], [0]), ([3], [], [0]), ([], [4], [0]), ([], [1], [0]), ([6, 5], [], [0]), ([7], [], [0]), ([4, 8], [], [0]), ([], [3], [0, 1]), ([10, 0], [], [1]), ([11, 9], [], [1])] (by kernel_rfl) (by kernel_rfl) rfl rfl rfl
   ·refine ⟨?_, ?_, ?_, ?_, ?_, ?_, ?_, ?_, ?_, ?_, ?_, ?_, ?_, trivial⟩
    ·refine ⟨fun F => ?_, fun F => ?_, trivial⟩
     ·refine WL.mv rfl rfl ?_
      exact WL.done1 rfl rfl rfl
     ·refine WL.mv rfl rfl ?_
      exact WL.done1 rfl rfl rfl
    ·refine ⟨fun F => ?_, trivial⟩
     refine WL.mv rfl rfl ?_
     exact WL.done1 rfl rfl rfl
    ·refine ⟨fun F => ?_, trivial⟩
     refine WL.qn (y_fieldAddr f26_0 rfl) rfl ?_
     exact WL.done1 rfl rfl rfl
    ·refine ⟨fun F => ?_, trivial⟩
     refine WL.qn (y_indexAddra ar23 rfl rfl (vecOk_0 hv) (vecOk_1 hv)) rfl ?_
     exact WL.done1 rfl rfl rfl
    ·refine ⟨fun F => ?_, trivial⟩
     refine WL.qn ((ownRow_at q0 c) ▸ (y_loadV (i := (c : Int)) (n := 32) (off := 0) (ownRow q0 c) rfl rfl a22 rfl hv)) rfl ?_
     exact WL.done1 rfl rfl rfl
    ·refine ⟨fun F => ?_, trivial⟩
     refine WL.mv rfl rfl ?_
     exact WL.done1 rfl rfl rfl
    ·refine ⟨fun F => ?_, trivial⟩
     refine WL.qn (y_fieldAddrc f26_0 rfl) rfl ?_
     exact WL.done1 rfl rfl rfl
    ·refine ⟨fun F => ?_, trivial⟩
     refine WL.qn (y_indexAddrVc (fun j => .sl (List.map E3 (q0.ready j))) ar23 rfl rfl rfl hv) rfl ?_
     exact WL.done1 rfl rfl rfl
    ·refine ⟨fun F => ?_, trivial⟩
     refine WL.qn (y_loadc rfl a22 rfl) rfl ?_
     exact WL.done1 rfl rfl rfl
    ·refine ⟨fun F => ?_, trivial⟩
     refine WL.s (Does.nil 16 3 1 rfl (d_appendL E3 [] (q0.ready c) l22 z3 rfl (by decide) rfl rfl rfl rfl (Src.dataL (Le.refl _) E3_eq (fun _ => rfl)) (fun _ => rfl) (fun _ => rfl) (hokj c hc2))) (Wt.none rfl) rfl rfl ?_
     exact WL.done1 rfl rfl rfl
    ·refine ⟨fun F => ?_, fun F => ?_, trivial⟩
     ·refine WL.qn (y_fieldAddr f26_0 rfl) rfl ?_
      exact WL.done1 rfl rfl rfl
     ·refine WL.qn (y_fieldAddr f26_0 rfl) rfl ?_
      exact WL.done1 rfl rfl rfl
    ·refine ⟨fun F => ?_, trivial⟩
     refine WL.qn (y_indexAddra ar23 rfl rfl (vecOk_0 hv) (vecOk_1 hv)) rfl ?_
     exact WL.done1 rfl rfl rfl
    ·refine ⟨fun F => ?_, trivial⟩
     refine WL.s0 (d_storeV (i := (c : Int)) (n := 32) (off := 0) (fun x : AV => x) (ownRow q0 c) (.os 2 1) rfl rfl rfl (one_os rfl) s22 rfl rfl hv rfl) (Wt.none rfl) rfl ?_
     exact WL.done0 rfl rfl
   ·refine we_blk ?_
    refine we_seq ?_
    refine wc_region ?_
    refine WL.mv rfl rfl ?_
    refine WL.qn (y_add rfl rfl (c := ((c + 1 : Nat) : Int)) (wrap_id c (of_decide_eq_true hc1))) rfl ?_
    refine WL.as rfl rfl ?_
    refine WL.nil ?_
    refine WE.freeze_cell 1 c 2 (List.map E3 ([] ++ q0.ready c)) rfl (ready_set q0 c hc2 _) rfl rfl (encA_map E3_eq _) ?_
    rw [ready_set2 q0 c hc2]
    refine WE.drop 2 (env' := [(1, .d (.pc (R26 q0))), (2, .pt 0 0), (3, .pt 1 0), (4, .d (D.i .i64 ((c + 1 : Nat) : Int)))]) (Sub.cons rfl (Le.refl _) (Sub.cons rfl (Le.refl _) (Sub.cons rfl (Le.refl _) (Sub.cons rfl (Le.refl _) (Sub.nil _))))) rfl (ownLt q0 _) (Nat.zero_le _) ?_
    exact we_lp ⟨c + 1, ⟨by omega, (Sub.cons rfl (Le.refl _) (Sub.cons rfl (Le.refl _) (Sub.cons rfl (Le.refl _) (Sub.cons rfl (Le.refl _) (Sub.nil _))))), SLe.refl _⟩, by omega⟩
  ·have hc2 : c = 32 := by
    have := of_decide_eq_false hc1
    omega
   subst hc2
   refine wc_exit ?_
   refine we_seq_exit ?_
   refine we_lp_exit ?_
   refine we_blk_hit ?_
   exact we_lp ⟨(Sub.cons rfl (Le.refl _) (Sub.cons rfl (Le.refl _) (Sub.cons rfl (Le.refl _) (Sub.nil _)))), SLe.refl _⟩
 ·rintro env1 st1 ⟨hsub, hst⟩
  refine WC.sub hsub (WC.weak hst ?_)
  refine wc_sr ?_
  refine WL.qn (y_fieldAddr f26_1 rfl) rfl ?_
  refine WL.qn (y_load rfl rfl a24 rfl) rfl ?_
  refine WL.qn (y_fieldAddrc f26_1 rfl) rfl ?_
  refine WL.qn (y_loadc rfl a24 rfl) rfl ?_
  refine WL.nil_os 25 62 2 rfl ?_
  refine WL.s (d_appendL R62 [] q0.delays l24 z62 rfl (by decide) rfl rfl rfl rfl (Src.dataL (Le.refl _) E62_eq (fun _ => rfl)) (fun _ => rfl) (fun _ => rfl) hokd) (Wt.none rfl) rfl rfl ?_
  refine WL.qn (y_fieldAddr f26_1 rfl) rfl ?_
  refine WL.s0 (d_store1 rfl rfl rfl (one_os rfl) s24 rfl) (Wt.none rfl) rfl ?_
  refine WL.st (st' := [.row 26 zCs, .row 26 (vecA 32 (ownRow q0 32) ++ [.os 2 1, .d (D.i .i64 q0.run)]), .os 62 2 1 (List.map (encA R62) ([] ++ q0.delays))]) rfl ?_
  refine WL.ns ?_
  refine wc_sr ?_
  refine WL.freezeX [28] [(1, 32)] 2 (List.map E62 ([] ++ q0.delays)) rfl (encA_map E62_eq ([] ++ q0.delays)) ⟨rfl, trivial⟩ ⟨_, _, rfl, rfl, trivial⟩ ?_
  refine WL.qn (y_loadN rfl rfl a26 s26 rfl) rfl ?_
  refine WL.s0 (d_store rfl rfl rfl rfl rfl rfl s26 rfl rfl) (Wt.none rfl) rfl ?_
  refine WL.ns ?_
  refine wc_ret ?_
  exact we_ret_fn (rs1 rfl (rv_cN rfl rfl a26 s26 rfl)) (Le.agd (Les.refl _))
end Go.Proofs.Ytpionlekbfoccaa.O
set_option maxHeartbeats 4000000
set_option maxRecDepth 100000
namespace Go.Proofs.Ytpionlekbfoccaa.O
open Go Go.Sk Go.Proofs.Ytpionlekbfoccaa

def f60 (s0 : List Int) : Option (List Int) := guardB (appOk 8 [] s0) (some s0)

theorem f60_c (s0 : List Int) {r : List Int} (h : f60 s0 = some r) : Pu Try.prog 60 [.sl (List.map E3 s0)] (.sl (List.map E3 r)) := by
  unfold f60 at h
  replace h := guardBS h
  obtain ⟨hg, h⟩ := h
  obtain rfl := Option.some.inj h
  refine fn_intro Try.func60 (by kernel_rfl) rfl rfl rfl (fun φφ ww => ?_)
  refine wc_seq ?_
  refine wc_region ?_
  refine WL.q (y_assign rfl) (Wt.none rfl) rfl rfl ?_
  refine WL.nil ?_
  refine we_seq ?_
  refine wc_seq ?_
  refine wc_seq ?_
  refine wc_region ?_
  refine WL.q (y_move rfl) (Wt.none rfl) rfl rfl ?_
  refine WL.isnil false rfl Try.underlying22 rfl (Le.refl _) (Wt.none rfl) rfl (fun b hb => ?_)
  refine WL.nil ?_
  refine we_seq ?_
  refine wc_cond rfl (fun hc => ?_) (fun hc => ?_)
  · have hb2 := hb (by cases b <;> first | rfl | cases hc)
    refine wc_seq ?_
    refine wc_region ?_
    refine WL.q (y_assign rfl) (Wt.none rfl) rfl rfl ?_
    refine WL.nil ?_
    refine we_seq ?_
    refine wc_ret ?_
    refine we_seq_ret ?_
    exact we_ret_fn (rs1 rfl (rv_t rfl)) (by rw [hb2]; exact Le.nil)
  · refine wc_skip ?_
    refine we_seq ?_
    refine wc_seq ?_
    refine wc_region ?_
    refine WL.s ((b_buildNone l22).does) (Wt.none rfl) rfl rfl ?_
    refine WL.q (y_move rfl) (Wt.none rfl) rfl rfl ?_
    refine WL.s ((b_appendFd ([] : List Int) s0 E3_eq l22 z3 rfl (by decide) rfl rfl rfl (Src.dataL (Le.refl _) E3_eq (fun _ => rfl)) (fun _ => rfl) hg).does) (Wt.none rfl) rfl rfl ?_
    refine WL.q (y_assign rfl) (Wt.none rfl) rfl rfl ?_
    refine WL.nil ?_
    refine we_seq ?_
    refine wc_ret ?_
    exact we_ret_fn (rs1 rfl (rv_t rfl)) (Le.refl _)

def f60o (s0 : List Int) : Option (List Int) := guardB (appOk 8 [] s0) (some s0)

theorem f60o_c (s0 : List Int) {vo0 : Nat} {r : List Int} (h : f60o s0 = some r) : Ctr Try.prog 60 [.d (.sl (List.map E3 s0))] [.os 3 1 vo0 (List.map (encA E3) ([] : List Int))] (WinA 1 (fun iv => .os 0 iv) (fun iv => [.os 3 1 iv (List.map (encA E3) r)])) := by
  unfold f60o at h
  replace h := guardBS h
  obtain ⟨hg, h⟩ := h
  obtain rfl := Option.some.inj h
  refine ctr_intro Try.func60 (by kernel_rfl) rfl rfl rfl (fun mm φφ ww hmm => ?_)
  refine wc_seq ?_
  refine wc_region ?_
  refine WL.q (y_assign rfl) (Wt.none rfl) rfl rfl ?_
  refine WL.nil ?_
  refine we_seq ?_
  refine wc_seq ?_
  refine wc_seq ?_
  refine wc_region ?_
  refine WL.q (y_move rfl) (Wt.none rfl) rfl rfl ?_
  refine WL.isnil false rfl Try.underlying22 rfl (Le.refl _) (Wt.none rfl) rfl (fun b hb => ?_)
  refine WL.nil ?_
  refine we_seq ?_
  refine wc_cond rfl (fun hc => ?_) (fun hc => ?_)
  · have hb2 := hb (by cases b <;> first | rfl | cases hc)
    have hb3 : s0 = [] := by cases s0 <;> first | rfl | cases hb2
    subst hb3
    refine wc_seq ?_
    refine wc_region ?_
    refine WL.q (y_assign rfl) (Wt.none rfl) rfl rfl ?_
    refine WL.nil ?_
    refine we_seq ?_
    refine wc_ret ?_
    refine we_seq_ret ?_
    refine Gh.we (gh_nil_os 2 3 1 rfl) ?_
    refine Gh.we (gh_give [2] [] 1 0 rfl rfl rfl ⟨rfl, trivial⟩ trivial) ?_
    exact we_ret_wina (vo0 + 0 + 1) (rs1 rfl (rv_t rfl)) (Le.refl _) rfl ⟨⟨rfl, rfl, rfl, rfl⟩, trivial⟩
  · refine wc_skip ?_
    refine we_seq ?_
    refine wc_seq ?_
    refine wc_region ?_
    refine WL.s (((n_buildNone l22).b).does) (Wt.none rfl) rfl rfl ?_
    refine WL.q (y_move rfl) (Wt.none rfl) rfl rfl ?_
    refine WL.s (d_appendL E3 ([] : List Int) s0 l22 z3 rfl (by decide) rfl rfl rfl rfl (Src.dataL (Le.refl _) E3_eq (fun _ => rfl)) (fun _ => rfl) (fun _ => rfl) hg) (Wt.none rfl) rfl rfl ?_
    refine WL.q (y_assign rfl) (Wt.none rfl) rfl rfl ?_
    refine WL.nil ?_
    refine we_seq ?_
    refine wc_ret ?_
    refine Gh.we (gh_give [2] [] 1 0 rfl rfl rfl ⟨rfl, trivial⟩ trivial) ?_
    exact we_ret_wina (vo0 + (0 + 1) + 1) (rs1 rfl (rv_t rfl)) (Le.refl _) rfl ⟨⟨rfl, rfl, rfl, rfl⟩, trivial⟩

def f61 (s0 : List Due) : Option (List Due) := guardB (appOk 16 [] s0) (some s0)

theorem f61_c (s0 : List Due) {r : List Due} (h : f61 s0 = some r) : Pu Try.prog 61 [.sl (List.map E62 s0)] (.sl (List.map E62 r)) := by
  unfold f61 at h
  replace h := guardBS h
  obtain ⟨hg, h⟩ := h
  obtain rfl := Option.some.inj h
  refine fn_intro Try.func61 (by kernel_rfl) rfl rfl rfl (fun φφ ww => ?_)
  refine wc_seq ?_
  refine wc_region ?_
  refine WL.q (y_assign rfl) (Wt.none rfl) rfl rfl ?_
  refine WL.nil ?_
  refine we_seq ?_
  refine wc_seq ?_
  refine wc_seq ?_
  refine wc_region ?_
  refine WL.q (y_move rfl) (Wt.none rfl) rfl rfl ?_
  refine WL.isnil false rfl Try.underlying24 rfl (Le.refl _) (Wt.none rfl) rfl (fun b hb => ?_)
  refine WL.nil ?_
  refine we_seq ?_
  refine wc_cond rfl (fun hc => ?_) (fun hc => ?_)
  · have hb2 := hb (by cases b <;> first | rfl | cases hc)
    refine wc_seq ?_
    refine wc_region ?_
    refine WL.q (y_assign rfl) (Wt.none rfl) rfl rfl ?_
    refine WL.nil ?_
    refine we_seq ?_
    refine wc_ret ?_
    refine we_seq_ret ?_
    exact we_ret_fn (rs1 rfl (rv_t rfl)) (by rw [hb2]; exact Le.nil)
  · refine wc_skip ?_
    refine we_seq ?_
    refine wc_seq ?_
    refine wc_region ?_
    refine WL.s ((b_buildNone l24).does) (Wt.none rfl) rfl rfl ?_
    refine WL.q (y_move rfl) (Wt.none rfl) rfl rfl ?_
    refine WL.s ((b_appendFd ([] : List Due) s0 E62_eq l24 z62 rfl (by decide) rfl rfl rfl (Src.dataL (Le.refl _) E62_eq (fun _ => rfl)) (fun _ => rfl) hg).does) (Wt.none rfl) rfl rfl ?_
    refine WL.q (y_assign rfl) (Wt.none rfl) rfl rfl ?_
    refine WL.nil ?_
    refine we_seq ?_
    refine wc_ret ?_
    exact we_ret_fn (rs1 rfl (rv_t rfl)) (Le.refl _)

def f61o (s0 : List Due) : Option (List Due) := guardB (appOk 16 [] s0) (some s0)

theorem f61o_c (s0 : List Due) {vo0 : Nat} {r : List Due} (h : f61o s0 = some r) : Ctr Try.prog 61 [.d (.sl (List.map E62 s0))] [.os 62 2 vo0 (List.map (encA R62) ([] : List Due))] (WinA 1 (fun iv => .os 0 iv) (fun iv => [.os 62 2 iv (List.map (encA R62) r)])) := by
  unfold f61o at h
  replace h := guardBS h
  obtain ⟨hg, h⟩ := h
  obtain rfl := Option.some.inj h
  refine ctr_intro Try.func61 (by kernel_rfl) rfl rfl rfl (fun mm φφ ww hmm => ?_)
  refine wc_seq ?_
  refine wc_region ?_
  refine WL.q (y_assign rfl) (Wt.none rfl) rfl rfl ?_
  refine WL.nil ?_
  refine we_seq ?_
  refine wc_seq ?_
  refine wc_seq ?_
  refine wc_region ?_
  refine WL.q (y_move rfl) (Wt.none rfl) rfl rfl ?_
  refine WL.isnil false rfl Try.underlying24 rfl (Le.refl _) (Wt.none rfl) rfl (fun b hb => ?_)
  refine WL.nil ?_
  refine we_seq ?_
  refine wc_cond rfl (fun hc => ?_) (fun hc => ?_)
  · have hb2 := hb (by cases b <;> first | rfl | cases hc)
    have hb3 : s0 = [] := by cases s0 <;> first | rfl | cases hb2
    subst hb3
    refine wc_seq ?_
    refine wc_region ?_
    refine WL.q (y_assign rfl) (Wt.none rfl) rfl rfl ?_
    refine WL.nil ?_
    refine we_seq ?_
    refine wc_ret ?_
    refine we_seq_ret ?_
    refine Gh.we (gh_nil_os 2 62 2 rfl) ?_
    refine Gh.we (gh_give [2] [] 1 0 rfl rfl rfl ⟨rfl, trivial⟩ trivial) ?_
    exact we_ret_wina (vo0 + 0 + 1) (rs1 rfl (rv_t rfl)) (Le.refl _) rfl ⟨⟨rfl, rfl, rfl, rfl⟩, trivial⟩
  · refine wc_skip ?_
    refine we_seq ?_
    refine wc_seq ?_
    refine wc_region ?_
    refine WL.s (((n_buildNone l24).b).does) (Wt.none rfl) rfl rfl ?_
    refine WL.q (y_move rfl) (Wt.none rfl) rfl rfl ?_
    refine WL.s (d_appendL R62 ([] : List Due) s0 l24 z62 rfl (by decide) rfl rfl rfl rfl (Src.dataL (Le.refl _) E62_eq (fun _ => rfl)) (fun _ => rfl) (fun _ => rfl) hg) (Wt.none rfl) rfl rfl ?_
    refine WL.q (y_assign rfl) (Wt.none rfl) rfl rfl ?_
    refine WL.nil ?_
    refine we_seq ?_
    refine wc_ret ?_
    refine Gh.we (gh_give [2] [] 1 0 rfl rfl rfl ⟨rfl, trivial⟩ trivial) ?_
    exact we_ret_wina (vo0 + (0 + 1) + 1) (rs1 rfl (rv_t rfl)) (Le.refl _) rfl ⟨⟨rfl, rfl, rfl, rfl⟩, trivial⟩

theorem a23 : aggOf Try.prog 23 = some true := by kernel_rfl
theorem s23 : szOf Try.prog 23 = some 32 := by kernel_rfl
def f32 (q0 : Queues) : Option Queues := guardB (ownOk q0) (some q0)
abbrev rdy (q : Queues) : Nat → AV := fun j => .d (.sl (List.map E3 (q.ready j)))
theorem guardB_some {α : Type} {c : Bool} {x : α} (h : c = true) : guardB c (some x) = some x := by rw [h]; rfl
/-- the cells of the ready queues; that of p is ours -/
def gRow (q : Queues) (p id ver : Nat) : Nat → AV := fun j => bif Nat.beq j p then .os id ver else rdy q j
abbrev tl (q : Queues) : List AV := [.d (.sl (List.map E62 q.delays)), .d (D.i .i64 q.run)]
abbrev tlO (q : Queues) (id ver : Nat) : List AV := [.os id ver, .d (D.i .i64 q.run)]

theorem vset_same (F : Nat → AV) (c : Nat) (x : AV) (h : F c = x) : vset F c x = F := by
  funext j
  have h1 := vset_app (fun x : AV => x) F c j x
  rw [h1]
  by_cases hj : j = c
  · rw [if_pos hj, hj, h]
  · rw [if_neg hj]
theorem gRow_self (q : Queues) (p id ver : Nat) : gRow q p id ver p = .os id ver := by
  unfold gRow; rw [Nat.beq_refl]; rfl
theorem gRow_ne (q : Queues) (p id ver j : Nat) (h : j ≠ p) : gRow q p id ver j = rdy q j := by
  unfold gRow
  have : Nat.beq j p = false := by
    cases hb : Nat.beq j p with
    | false => rfl
    | true => exact absurd (Nat.eq_of_beq_eq_true hb) h
  rw [this]; rfl
theorem os_ok1S {st : List AO} {id ver T k : Nat} {es : List (List AV)} (h : st[id]? = some (.os T k ver es)) : (AV.os id ver).ok1S st = true := by
  simp [AV.ok1S, h]
theorem vecA_all (pr : AV → Bool) (n : Nat) (F : Nat → AV) (h : ∀ j, pr (F j) = true) : (vecA n F).all pr = true := by
  rw [List.all_eq_true]
  intro x hx
  obtain ⟨j, _, rfl⟩ := List.mem_map.1 hx
  exact h j
theorem gRow_ok {st : List AO} (q : Queues) (p id ver : Nat) (h : (AV.os id ver).ok1S st = true) (j : Nat) : (gRow q p id ver j).ok1S st = true := by
  by_cases hj : j = p
  · rw [hj, gRow_self, h]
  · rw [gRow_ne _ _ _ _ _ hj]; rfl
theorem gRow_put (q : Queues) (p id ver : Nat) (l : List Int) : vset (gRow q p id ver) p (.d (.sl (List.map E3 l))) = fun j => .d (.sl (List.map E3 ((vset q.ready p l) j))) := by
  funext j
  have h1 := vset_app (fun x : AV => x) (gRow q p id ver) p j (.d (.sl (List.map E3 l)))
  have h2 := vset_app (fun x : List Int => AV.d (.sl (List.map E3 x))) q.ready p j l
  rw [h1, h2]
  by_cases hj : j = p
  · rw [if_pos hj, if_pos hj]
  · rw [if_neg hj, if_neg hj, gRow_ne _ _ _ _ _ hj]
theorem gRow_lt (q : Queues) (p iv n : Nat) (h : Nat.ble 1 n = true) : (AV.ag (vecA 32 (gRow q p 0 iv) ++ tl q)).lt n = true := by
  have key : ∀ (l : List AV), (∀ x ∈ l, x.lt n = true) → (AV.lts n l = true) := fun l h => lts_all h
  have : AV.lts n (vecA 32 (gRow q p 0 iv) ++ tl q) = true := key _ fun x hx => by
    rcases List.mem_append.1 hx with hx | hx
    · obtain ⟨j, _, rfl⟩ := List.mem_map.1 hx
      by_cases hj : j = p
      · rw [hj, gRow_self]; simpa [AV.lt] using h
      · rw [gRow_ne _ _ _ _ _ hj]; rfl
    · simp only [List.mem_cons, List.not_mem_nil, or_false] at hx
      rcases hx with rfl | rfl <;> rfl
  simpa [AV.lt] using this
theorem rens_map (js : List Nat) : ∀ l : List AV, AV.rens js l = l.map (AV.ren js)
  | [] => by simp [AV.rens]
  | x :: l => by rw [AV.rens, rens_map js l]; rfl
theorem gRow_ren (q : Queues) (p iv N : Nat) : AV.ren [N] (.ag (vecA 32 (gRow q p 0 iv) ++ tl q)) = .ag (vecA 32 (gRow q p N iv) ++ tl q) := by
  have h1 : AV.ren [N] (.ag (vecA 32 (gRow q p 0 iv) ++ tl q)) = .ag (AV.rens [N] (vecA 32 (gRow q p 0 iv) ++ tl q)) := by rw [AV.ren]
  rw [h1, rens_map, List.map_append]
  have h2 : (vecA 32 (gRow q p 0 iv)).map (AV.ren [N]) = vecA 32 (gRow q p N iv) := by
    unfold vecA
    rw [List.map_map]
    apply List.map_congr_left
    intro j _
    show AV.ren [N] (gRow q p 0 iv j) = gRow q p N iv j
    by_cases hj : j = p
    · rw [hj, gRow_self, gRow_self]; rfl
    · rw [gRow_ne _ _ _ _ _ hj, gRow_ne _ _ _ _ _ hj]; rfl
  rw [h2]; rfl
def insOk (L : List Int) : Bool := decide ((L.length + 1) * 8 ≤ 140737488355328)
theorem insOk_le {L : List Int} (h : insOk L = true) : (L.length + 1) * 8 ≤ 140737488355328 := of_decide_eq_true h
theorem gRow_at (q : Queues) (p id ver : Nat) (i : Int) (h : Int.toNat i ≠ p) : gRow q p id ver (Int.toNat i) = .d (.sl (List.map E3 (q.ready (Int.toNat i)))) := gRow_ne q p id ver _ h
theorem gRow_vset (q : Queues) (p id ver : Nat) (i : Nat) (l : List Int) (h : i ≠ p) : vset (gRow q p id ver) i (.d (.sl (List.map E3 l))) = gRow (Queues.mk (vset q.ready i l) q.delays q.run) p id ver := by
  funext j
  have h1 := vset_app (fun x : AV => x) (gRow q p id ver) i j (.d (.sl (List.map E3 l)))
  have h2 := vset_app (fun x : List Int => AV.d (.sl (List.map E3 x))) q.ready i j l
  rw [h1]
  by_cases hp : j = p
  · rw [hp, gRow_self, if_neg (fun e => h e.symm), gRow_self]
  · have h3 := gRow_ne (Queues.mk (vset q.ready i l) q.delays q.run) p id ver j hp
    have h4 := gRow_ne q p id ver j hp
    rw [h3, h4]
    exact h2.symm
theorem gRow_get (q : Queues) (p id ver : Nat) (hp : p < 32) (t : List AV) : (vecA 32 (gRow q p id ver) ++ t)[p]? = some (.os id ver) := by
  rw [List.getElem?_append_left (by simp [vecA]; exact hp)]
  simp [vecA, hp, gRow_self]
theorem gRow_fill (q : Queues) (p id ver : Nat) (hp : p < 32) (t : List AV) (l : List Int) : (vecA 32 (gRow q p id ver) ++ t).set p (.d (.sl (List.map E3 l))) = vecA 32 (fun j => .d (.sl (List.map E3 ((vset q.ready p l) j)))) ++ t := by
  rw [List.set_append_left _ _ (by simp [vecA]; exact hp)]
  have h := vecA_set (fun x : AV => x) 32 (gRow q p id ver) p (.d (.sl (List.map E3 l)))
  rw [gRow_put] at h
  rw [h]
theorem gRow_same (q : Queues) (p id ver : Nat) (hp : p < 32) (t : List AV) : (vecA 32 (gRow q p id ver) ++ t).set p (.d (.sl (List.map E3 (q.ready p)))) = vecA 32 (rdy q) ++ t := by
  rw [gRow_fill q p id ver hp t]
  have e : (fun j => AV.d (.sl (List.map E3 ((vset q.ready p (q.ready p)) j)))) = rdy q := by
    funext j
    have h2 := vset_app (fun x : List Int => AV.d (.sl (List.map E3 x))) q.ready p j (q.ready p)
    rw [h2]
    by_cases hj : j = p
    · rw [if_pos hj, hj]
    · rw [if_neg hj]
  rw [e]
theorem gRow_all {st : List AO} (q : Queues) (p id ver : Nat) (h : (AV.os id ver).ok1S st = true) : (vecA 32 (gRow q p id ver) ++ tl q).all (AV.ok1S st) = true := by
  rw [List.all_append, vecA_all _ _ _ (gRow_ok q p id ver h)]; rfl
theorem tlO_all {st : List AO} (q : Queues) (id ver : Nat) (h : (AV.os id ver).ok1S st = true) : (vecA 32 (rdy q) ++ tlO q id ver).all (AV.ok1S st) = true := by
  rw [List.all_append, vecA_all _ _ _ (fun j => rfl)]
  show (true && ((AV.os id ver).ok1S st && true)) = true
  rw [h]; rfl
theorem gRow_set (q : Queues) (p id ver : Nat) : vset (rdy q) p (.os id ver) = gRow q p id ver := by
  funext j
  have h1 := vset_app (fun x : AV => x) (rdy q) p j (.os id ver)
  rw [h1]
  by_cases hj : j = p
  · rw [if_pos hj, hj, gRow_self]
  · rw [if_neg hj, gRow_ne _ _ _ _ _ hj]

/-- the walk to the loop's end and beyond, for data -/
theorem f32_c (q0 : Queues) {r : Queues} (h : f32 q0 = some r) : Pu Try.prog 32 [.ag (R26 q0)] (.ag (R26 r)) := by
 unfold f32 at h
 obtain ⟨hok, h⟩ := guardBS h
 obtain rfl := Option.some.inj h
 clear h
 unfold ownOk at hok
 rw [Bool.and_eq_true] at hok
 obtain ⟨hok, hokd⟩ := hok
 have hokj : ∀ j, j < 32 → appOk 8 ([] : List Int) (q0.ready j) = true := fun j hj => List.all_eq_true.1 hok j (List.mem_range.2 hj)
 refine fn_intro Try.func32 (by kernel_rfl) rfl rfl rfl (fun φφ ww => ?_)
 refine wc_sr ?_
 refine WL.s ((b_box rfl rfl).does) (Wt.none rfl) rfl rfl ?_
 refine WL.s ((b_alloc z26).does) (Wt.none rfl) rfl rfl ?_
 refine WL.ns ?_
 refine wc_cut (fun env' st' => Sub [(1, .pt 0 0), (2, .pt 1 0)] env' ∧ SLe st' [.row 26 (vecA 32 (rdy q0) ++ tl q0), .row 26 zCs]) ?_ ?_
 ·refine wc_sr ?_
  refine WL.qn (y_fieldAddr f26_0 rfl) rfl ?_
  refine WL.qn (y_loadN rfl rfl a23 s23 rfl) rfl ?_
  refine WL.mv rfl rfl ?_
  refine WL.ns ?_
  refine wc_block ?_
  refine wc_loop (ι := Nat) (fun c env' st' => c ≤ 32 ∧ Sub [(1, .pt 0 0), (2, .pt 1 0), (6, .ag (vecA 32 (rdy q0))), (7, .d (D.i .i64 (c : Int)))] env' ∧ SLe st' [.row 26 (vecA 32 (rdy q0) ++ tl q0), .row 26 zCs]) (fun c => 32 - c) 0 ⟨by decide, (Sub.cons rfl (Le.refl _) (Sub.cons rfl (Le.refl _) (Sub.cons rfl (Le.refl _) (Sub.cons rfl (Le.refl _) (Sub.nil _))))), SLe.refl _⟩ ?_
  rintro c env1 st1 ⟨hc, hsub, hst⟩
  refine WC.sub hsub (WC.weak hst ?_)
  refine wc_sr ?_
  refine WL.qn (y_lss rfl rfl) rfl ?_
  refine WL.ns ?_
  refine wc_seq ?_
  refine wc_cond rfl (fun hc1 => ?_) (fun hc1 => ?_)
  ·have hc2 : c < 32 := by
    have := of_decide_eq_true hc1
    omega
   have hv : vecOk 32 (c : Int) = true := by simp [vecOk, hc2]
   refine wc_skip ?_
   refine we_seq ?_
   refine wc_seq ?_
   refine wc_block ?_
   refine wc_sr ?_
   refine WL.mv rfl rfl ?_
   refine WL.qn (y_indexVa (rdy q0) ar23 rfl rfl rfl hv) rfl ?_
   refine WL.as rfl rfl ?_
   refine WL.as rfl rfl ?_
   refine WL.ns ?_
   refine wc_region ?_
   refine WL.mv rfl rfl ?_
   refine WL.mv rfl rfl ?_
   refine WL.fn rfl rfl rfl rfl (f60_c (q0.ready c) (guardB_some (hokj c hc2))) ⟨(Le.refl _), trivial⟩ (Wt.none rfl) rfl rfl ?_
   refine WL.qn (y_fieldAddr f26_0 rfl) rfl ?_
   refine WL.qn (y_indexAddra ar23 rfl rfl (vecOk_0 hv) (vecOk_1 hv)) rfl ?_
   refine WL.s0 (d_storeV (i := (c : Int)) (off := 0) (n := 32) (cs' := (vecA 32 (vset (rdy q0) c (.d (.sl (List.map E3 (q0.ready c))))) ++ tl q0)) (fun x : AV => x) (rdy q0) (.d (.sl (List.map E3 (q0.ready c)))) rfl rfl rfl (one_ok rfl) s22 rfl rfl hv rfl) (Wt.none rfl) rfl ?_
   rw [vset_same (rdy q0) c _ rfl]
   refine WL.nil ?_
   refine we_blk ?_
   refine we_seq ?_
   refine wc_region ?_
   refine WL.qn (y_add rfl rfl (c := ((c + 1 : Nat) : Int)) (wrap_id c (of_decide_eq_true hc1))) rfl ?_
   refine WL.mv rfl rfl ?_
   refine WL.nil ?_
   exact we_lp ⟨c + 1, ⟨by omega, (Sub.cons rfl (Le.refl _) (Sub.cons rfl (Le.refl _) (Sub.cons rfl (Le.refl _) (Sub.cons rfl (Le.refl _) (Sub.nil _))))), SLe.refl _⟩, by omega⟩
  ·refine wc_exit ?_
   refine we_seq_exit ?_
   refine we_lp_exit ?_
   refine we_blk_hit ?_
   exact we_lp ⟨(Sub.cons rfl (Le.refl _) (Sub.cons rfl (Le.refl _) (Sub.nil _))), SLe.refl _⟩
 ·rintro env1 st1 ⟨hsub, hst⟩
  refine WC.sub hsub (WC.weak hst ?_)
  refine wc_sr ?_
  refine WL.qn (y_fieldAddr f26_1 rfl) rfl ?_
  refine WL.qn (y_load rfl rfl a24 rfl) rfl ?_
  refine WL.fn rfl rfl rfl rfl (f61_c q0.delays (guardB_some hokd)) ⟨(Le.refl _), trivial⟩ (Wt.none rfl) rfl rfl ?_
  refine WL.qn (y_fieldAddr f26_1 rfl) rfl ?_
  refine WL.s0 (d_store rfl rfl rfl rfl rfl rfl s24 rfl rfl) (Wt.none rfl) rfl ?_
  refine WL.st (st' := [.row 26 (vecA 32 (rdy q0) ++ tl q0), .row 26 zCs]) rfl ?_
  refine WL.ns ?_
  refine wc_sr ?_
  refine WL.qn (y_loadN rfl rfl a26 s26 rfl) rfl ?_
  refine WL.s0 (d_store rfl rfl rfl rfl rfl rfl s26 rfl rfl) (Wt.none rfl) rfl ?_
  refine WL.ns ?_
  refine wc_ret ?_
  exact we_ret_fn (rs1 rfl (rv_cN rfl rfl a26 s26 rfl)) (Le.agd (Les.refl _))

/-- .. where the cell of p is ours -/
theorem f32g_c (q0 : Queues) (p : Nat) (hp : p < 32) {v0 : Nat} (hok : ownOk q0 = true) : Ctr Try.prog 32 [.d (.ag (R26 q0))] [.os 3 1 v0 (List.map (encA E3) ([] : List Int))] (WinA 1 (fun iv => .ag (vecA 32 (gRow q0 p 0 iv) ++ tl q0)) (fun iv => [.os 3 1 iv (List.map (encA E3) (q0.ready p))])) := by
 unfold ownOk at hok
 rw [Bool.and_eq_true] at hok
 obtain ⟨hok, hokd⟩ := hok
 have hokj : ∀ j, j < 32 → appOk 8 ([] : List Int) (q0.ready j) = true := fun j hj => List.all_eq_true.1 hok j (List.mem_range.2 hj)
 refine ctr_intro Try.func32 (by kernel_rfl) rfl rfl rfl (fun mm φφ ww hmm => ?_)
 refine wc_sr ?_
 refine WL.s ((b_box rfl rfl).does) (Wt.none rfl) rfl rfl ?_
 refine WL.s ((b_alloc z26).does) (Wt.none rfl) rfl rfl ?_
 refine WL.ns ?_
 refine wc_cut (fun env' st' => Sub [(1, .pt 1 0), (2, .pt 2 0)] env' ∧ ∃ ver, SLe st' [.os 3 1 ver (List.map (encA E3) (q0.ready p)), .row 26 (vecA 32 (gRow q0 p 0 ver) ++ tl q0), .row 26 zCs]) ?_ ?_
 ·refine wc_sr ?_
  refine WL.qn (y_fieldAddr f26_0 rfl) rfl ?_
  refine WL.qn (y_loadN rfl rfl a23 s23 rfl) rfl ?_
  refine WL.mv rfl rfl ?_
  refine WL.ns ?_
  refine wc_block ?_
  refine wc_loop (ι := Nat) (fun c env' st' => c ≤ 32 ∧ Sub [(1, .pt 1 0), (2, .pt 2 0), (6, .ag (vecA 32 (rdy q0))), (7, .d (D.i .i64 (c : Int)))] env' ∧ ∃ (ver : Nat) (L : List Int) (F : Nat → AV), (c ≤ p ∧ L = [] ∧ F = rdy q0 ∨ p < c ∧ L = q0.ready p ∧ F = gRow q0 p 0 ver) ∧ SLe st' [.os 3 1 ver (List.map (encA E3) L), .row 26 (vecA 32 F ++ tl q0), .row 26 zCs]) (fun c => 32 - c) 0 ⟨by decide, (Sub.cons rfl (Le.refl _) (Sub.cons rfl (Le.refl _) (Sub.cons rfl (Le.refl _) (Sub.cons rfl (Le.refl _) (Sub.nil _))))), v0, [], _, .inl ⟨Nat.zero_le _, rfl, rfl⟩, SLe.refl _⟩ ?_
  rintro c env1 st1 ⟨hc, hsub, ver, L, F, hL, hst⟩
  refine WC.sub hsub (WC.weak hst ?_)
  refine wc_sr ?_
  refine WL.qn (y_lss rfl rfl) rfl ?_
  refine WL.ns ?_
  refine wc_seq ?_
  refine wc_cond rfl (fun hc1 => ?_) (fun hc1 => ?_)
  ·have hc2 : c < 32 := by
    have := of_decide_eq_true hc1
    omega
   have hv : vecOk 32 (c : Int) = true := by simp [vecOk, hc2]
   refine wc_skip ?_
   refine we_seq ?_
   refine wc_seq ?_
   refine wc_block ?_
   refine wc_sr ?_
   refine WL.mv rfl rfl ?_
   refine WL.qn (y_indexVa (rdy q0) ar23 rfl rfl rfl hv) rfl ?_
   refine WL.as rfl rfl ?_
   refine WL.as rfl rfl ?_
   refine WL.ns ?_
   refine wc_region ?_
   refine WL.mv rfl rfl ?_
   refine WL.mv rfl rfl ?_
   by_cases hcp : c = p
   ·rcases hL with ⟨_, rfl, rfl⟩ | ⟨hx, _⟩
    ·refine WL.wina [0] rfl rfl rfl rfl (f60o_c (q0.ready c) (guardB_some (hokj c hc2))) ⟨Le.refl _, trivial⟩ rfl (by decide) rfl ⟨rfl, trivial⟩ rfl rfl (fun _ => (stLt_cons (lt_os _ _ _ _ _ _) rfl)) (fun _ => (cons_eq (ren_os _ _ _ _ _ _) rfl)) (fun _ => rfl) (fun _ => rfl) (Wt.none rfl) rfl rfl (fun ver1 => ?_)
     refine WL.qn (y_fieldAddr f26_0 rfl) rfl ?_
     refine WL.qn (y_indexAddra ar23 rfl rfl (vecOk_0 hv) (vecOk_1 hv)) rfl ?_
     refine WL.s0 (d_storeV (i := (c : Int)) (off := 0) (n := 32) (cs' := (vecA 32 (vset (rdy q0) c (.os 0 ver1)) ++ tl q0)) (fun x : AV => x) (rdy q0) (.os 0 ver1) rfl rfl rfl (one_os rfl) s22 rfl rfl hv rfl) (Wt.none rfl) rfl ?_
     rw [hcp, gRow_set q0 p 0 ver1]
     refine WL.nil ?_
     refine we_blk ?_
     refine we_seq ?_
     refine wc_region ?_
     refine WL.qn (y_add rfl rfl (c := ((p + 1 : Nat) : Int)) (wrap_id p (by omega))) rfl ?_
     refine WL.mv rfl rfl ?_
     refine WL.nil ?_
     exact we_lp ⟨p + 1, ⟨by omega, (Sub.cons rfl (Le.refl _) (Sub.cons rfl (Le.refl _) (Sub.cons rfl (Le.refl _) (Sub.cons rfl (Le.refl _) (Sub.nil _))))), ver1, q0.ready p, _, .inr ⟨Nat.lt_succ_self p, rfl, rfl⟩, SLe.refl _⟩, by omega⟩
    ·omega
   ·refine WL.fn rfl rfl rfl rfl (f60_c (q0.ready c) (guardB_some (hokj c hc2))) ⟨(Le.refl _), trivial⟩ (Wt.none rfl) rfl rfl ?_
    refine WL.qn (y_fieldAddr f26_0 rfl) rfl ?_
    refine WL.qn (y_indexAddra ar23 rfl rfl (vecOk_0 hv) (vecOk_1 hv)) rfl ?_
    refine WL.s0 (d_storeV (i := (c : Int)) (off := 0) (n := 32) (cs' := (vecA 32 (vset F c (.d (.sl (List.map E3 (q0.ready c))))) ++ tl q0)) (fun x : AV => x) F (.d (.sl (List.map E3 (q0.ready c)))) rfl rfl rfl (one_ok rfl) s22 rfl rfl hv rfl) (Wt.none rfl) rfl ?_
    have hF : F c = .d (.sl (List.map E3 (q0.ready c))) := by
     rcases hL with ⟨_, _, rfl⟩ | ⟨_, _, rfl⟩
     · rfl
     · exact gRow_ne q0 p 0 ver c hcp
    rw [vset_same F c _ hF]
    refine WL.nil ?_
    refine we_blk ?_
    refine we_seq ?_
    refine wc_region ?_
    refine WL.qn (y_add rfl rfl (c := ((c + 1 : Nat) : Int)) (wrap_id c (of_decide_eq_true hc1))) rfl ?_
    refine WL.mv rfl rfl ?_
    refine WL.nil ?_
    exact we_lp ⟨c + 1, ⟨by omega, (Sub.cons rfl (Le.refl _) (Sub.cons rfl (Le.refl _) (Sub.cons rfl (Le.refl _) (Sub.cons rfl (Le.refl _) (Sub.nil _))))), ver, L, F, (by
      rcases hL with ⟨h1, h2⟩ | ⟨h1, h2⟩
      · exact .inl ⟨by omega, h2⟩
      · exact .inr ⟨by omega, h2⟩), SLe.refl _⟩, by omega⟩
  ·refine wc_exit ?_
   refine we_seq_exit ?_
   refine we_lp_exit ?_
   refine we_blk_hit ?_
   rcases hL with ⟨h1, _⟩ | ⟨_, rfl, rfl⟩
   ·have := of_decide_eq_false hc1
    omega
   ·exact we_lp ⟨(Sub.cons rfl (Le.refl _) (Sub.cons rfl (Le.refl _) (Sub.nil _))), ver, SLe.refl _⟩
 ·rintro env1 st1 ⟨hsub, ver, hst⟩
  refine WC.sub hsub (WC.weak hst ?_)
  refine wc_sr ?_
  refine WL.qn (y_fieldAddr f26_1 rfl) rfl ?_
  refine WL.qn (y_load rfl rfl a24 rfl) rfl ?_
  refine WL.fn rfl rfl rfl rfl (f61_c q0.delays (guardB_some hokd)) ⟨(Le.refl _), trivial⟩ (Wt.none rfl) rfl rfl ?_
  refine WL.qn (y_fieldAddr f26_1 rfl) rfl ?_
  refine WL.s0 (d_store1 rfl rfl rfl (one_ok rfl) s24 rfl) (Wt.none rfl) rfl ?_
  refine WL.st (st' := [.os 3 1 ver (List.map (encA E3) (q0.ready p)), .row 26 (vecA 32 (gRow q0 p 0 ver) ++ tl q0), .row 26 zCs]) rfl ?_
  refine WL.ns ?_
  refine wc_sr ?_
  refine WL.qn (y_loadN rfl rfl a26 s26 rfl) rfl ?_
  refine WL.s0 (d_storeS (rs := vecA 32 (gRow q0 p 0 ver) ++ tl q0) rfl rfl rfl rfl rfl (gRow_all q0 p 0 ver (os_ok1S rfl)) s26 rfl rfl) (Wt.none rfl) rfl ?_
  refine WL.ns ?_
  refine wc_ret ?_
  exact we_ret_wina ver (rs1 rfl (rv_cN rfl rfl a26 s26 rfl)) (Le.refl _) rfl (SLe.refl _)

/-- .. where the delays are ours -/
theorem f32l_c (q0 : Queues) {v0 : Nat} (hok : ownOk q0 = true) : Ctr Try.prog 32 [.d (.ag (R26 q0))] [.os 62 2 v0 (List.map (encA E62) ([] : List Due))] (WinA 1 (fun iv => .ag (vecA 32 (rdy q0) ++ tlO q0 0 iv)) (fun iv => [.os 62 2 iv (List.map (encA E62) q0.delays)])) := by
 unfold ownOk at hok
 rw [Bool.and_eq_true] at hok
 obtain ⟨hok, hokd⟩ := hok
 have hokj : ∀ j, j < 32 → appOk 8 ([] : List Int) (q0.ready j) = true := fun j hj => List.all_eq_true.1 hok j (List.mem_range.2 hj)
 refine ctr_intro Try.func32 (by kernel_rfl) rfl rfl rfl (fun mm φφ ww hmm => ?_)
 refine wc_sr ?_
 refine WL.s ((b_box rfl rfl).does) (Wt.none rfl) rfl rfl ?_
 refine WL.s ((b_alloc z26).does) (Wt.none rfl) rfl rfl ?_
 refine WL.ns ?_
 refine wc_cut (fun env' st' => Sub [(1, .pt 1 0), (2, .pt 2 0)] env' ∧ SLe st' [.os 62 2 v0 (List.map (encA E62) ([] : List Due)), .row 26 (vecA 32 (rdy q0) ++ tl q0), .row 26 zCs]) ?_ ?_
 ·refine wc_sr ?_
  refine WL.qn (y_fieldAddr f26_0 rfl) rfl ?_
  refine WL.qn (y_loadN rfl rfl a23 s23 rfl) rfl ?_
  refine WL.mv rfl rfl ?_
  refine WL.ns ?_
  refine wc_block ?_
  refine wc_loop (ι := Nat) (fun c env' st' => c ≤ 32 ∧ Sub [(1, .pt 1 0), (2, .pt 2 0), (6, .ag (vecA 32 (rdy q0))), (7, .d (D.i .i64 (c : Int)))] env' ∧ SLe st' [.os 62 2 v0 (List.map (encA E62) ([] : List Due)), .row 26 (vecA 32 (rdy q0) ++ tl q0), .row 26 zCs]) (fun c => 32 - c) 0 ⟨by decide, (Sub.cons rfl (Le.refl _) (Sub.cons rfl (Le.refl _) (Sub.cons rfl (Le.refl _) (Sub.cons rfl (Le.refl _) (Sub.nil _))))), SLe.refl _⟩ ?_
  rintro c env1 st1 ⟨hc, hsub, hst⟩
  refine WC.sub hsub (WC.weak hst ?_)
  refine wc_sr ?_
  refine WL.qn (y_lss rfl rfl) rfl ?_
  refine WL.ns ?_
  refine wc_seq ?_
  refine wc_cond rfl (fun hc1 => ?_) (fun hc1 => ?_)
  ·have hc2 : c < 32 := by
    have := of_decide_eq_true hc1
    omega
   have hv : vecOk 32 (c : Int) = true := by simp [vecOk, hc2]
   refine wc_skip ?_
   refine we_seq ?_
   refine wc_seq ?_
   refine wc_block ?_
   refine wc_sr ?_
   refine WL.mv rfl rfl ?_
   refine WL.qn (y_indexVa (rdy q0) ar23 rfl rfl rfl hv) rfl ?_
   refine WL.as rfl rfl ?_
   refine WL.as rfl rfl ?_
   refine WL.ns ?_
   refine wc_region ?_
   refine WL.mv rfl rfl ?_
   refine WL.mv rfl rfl ?_
   refine WL.fn rfl rfl rfl rfl (f60_c (q0.ready c) (guardB_some (hokj c hc2))) ⟨(Le.refl _), trivial⟩ (Wt.none rfl) rfl rfl ?_
   refine WL.qn (y_fieldAddr f26_0 rfl) rfl ?_
   refine WL.qn (y_indexAddra ar23 rfl rfl (vecOk_0 hv) (vecOk_1 hv)) rfl ?_
   refine WL.s0 (d_storeV (i := (c : Int)) (off := 0) (n := 32) (cs' := (vecA 32 (vset (rdy q0) c (.d (.sl (List.map E3 (q0.ready c))))) ++ tl q0)) (fun x : AV => x) (rdy q0) (.d (.sl (List.map E3 (q0.ready c)))) rfl rfl rfl (one_ok rfl) s22 rfl rfl hv rfl) (Wt.none rfl) rfl ?_
   rw [vset_same (rdy q0) c _ rfl]
   refine WL.nil ?_
   refine we_blk ?_
   refine we_seq ?_
   refine wc_region ?_
   refine WL.qn (y_add rfl rfl (c := ((c + 1 : Nat) : Int)) (wrap_id c (of_decide_eq_true hc1))) rfl ?_
   refine WL.mv rfl rfl ?_
   refine WL.nil ?_
   exact we_lp ⟨c + 1, ⟨by omega, (Sub.cons rfl (Le.refl _) (Sub.cons rfl (Le.refl _) (Sub.cons rfl (Le.refl _) (Sub.cons rfl (Le.refl _) (Sub.nil _))))), SLe.refl _⟩, by omega⟩
  ·refine wc_exit ?_
   refine we_seq_exit ?_
   refine we_lp_exit ?_
   refine we_blk_hit ?_
   exact we_lp ⟨(Sub.cons rfl (Le.refl _) (Sub.cons rfl (Le.refl _) (Sub.nil _))), SLe.refl _⟩
 ·rintro env1 st1 ⟨hsub, hst⟩
  refine WC.sub hsub (WC.weak hst ?_)
  refine wc_sr ?_
  refine WL.qn (y_fieldAddr f26_1 rfl) rfl ?_
  refine WL.qn (y_load rfl rfl a24 rfl) rfl ?_
  refine WL.wina [0] rfl rfl rfl rfl (f61o_c q0.delays (guardB_some hokd)) ⟨Le.refl _, trivial⟩ rfl (by decide) rfl ⟨rfl, trivial⟩ rfl rfl (fun _ => (stLt_cons (lt_os _ _ _ _ _ _) rfl)) (fun _ => (cons_eq (ren_os _ _ _ _ _ _) rfl)) (fun _ => rfl) (fun _ => rfl) (Wt.none rfl) rfl rfl (fun ver => ?_)
  refine WL.qn (y_fieldAddr f26_1 rfl) rfl ?_
  refine WL.s0 (d_store1 rfl rfl rfl (one_os rfl) s24 rfl) (Wt.none rfl) rfl ?_
  refine WL.st (st' := [.os 62 2 ver (List.map (encA E62) q0.delays), .row 26 (vecA 32 (rdy q0) ++ tlO q0 0 ver), .row 26 zCs]) rfl ?_
  refine WL.ns ?_
  refine wc_sr ?_
  refine WL.qn (y_loadN rfl rfl a26 s26 rfl) rfl ?_
  refine WL.s0 (d_storeS (rs := vecA 32 (rdy q0) ++ tlO q0 0 ver) rfl rfl rfl rfl rfl (tlO_all q0 0 ver (os_ok1S rfl)) s26 rfl rfl) (Wt.none rfl) rfl ?_
  refine WL.ns ?_
  refine wc_ret ?_
  exact we_ret_wina ver (rs1 rfl (rv_cN rfl rfl a26 s26 rfl)) (Le.refl _) rfl (SLe.refl _)
end Go.Proofs.Ytpionlekbfoccaa.O
set_option maxHeartbeats 4000000
set_option maxRecDepth 100000
namespace Go.Proofs.Ytpionlekbfoccaa.O
open Go Go.Sk Go.Proofs.Ytpionlekbfoccaa

def goRow (q : Queues) (p v c : Nat) : Nat → AV := fun j => bif Nat.blt j c then gRow q p 0 v j else cNil
theorem goRow_at (q : Queues) (p v c : Nat) : goRow q p v c (Int.toNat (c : Int)) = cNil := by
  show (bif Nat.blt c c then _ else _) = _
  rw [blt_f (Nat.le_refl c)]; rfl
theorem goRow_succ (q : Queues) (p v c : Nat) : vset (goRow q p v c) c (gRow q p 0 v c) = goRow q p v (c + 1) := by
  funext j
  have h := vset_app (fun x : AV => x) (goRow q p v c) c j (gRow q p 0 v c)
  rw [h]
  unfold goRow
  by_cases hj : j = c
  · subst hj
    rw [if_pos rfl, blt_t (Nat.lt_succ_self j)]; rfl
  · rw [if_neg hj]
    by_cases h2 : j < c
    · rw [blt_t h2, blt_t (Nat.lt_succ_of_lt h2)]
    · rw [blt_f (by omega), blt_f (by omega)]
theorem goRow_ver (q : Queues) (p v v' c : Nat) (h : c ≤ p) : goRow q p v c = goRow q p v' c := by
  funext j
  unfold goRow
  by_cases h2 : j < c
  · rw [blt_t h2, gRow_ne _ _ _ _ _ (by omega), gRow_ne _ _ _ _ _ (by omega)]
  · rw [blt_f (by omega)]; rfl
theorem goRow_end (q : Queues) (p v : Nat) : vecA 32 (goRow q p v 32) = vecA 32 (gRow q p 0 v) := by
  unfold vecA
  apply List.map_congr_left
  intro j hj
  unfold goRow
  rw [blt_t (List.mem_range.1 hj)]; rfl
abbrev oCs (q : Queues) (f : Nat → AV) : List AV := vecA 32 f ++ [cNil, .d (D.i .i64 q.run)]
theorem oCs_get (q : Queues) (F : Nat → AV) (c : Nat) (hc : c < 32) (x : AV) : (oCs q (vset F (Int.toNat (c : Int)) x))[c]? = some x := by
  rw [List.getElem?_append_left (by simp [vecA]; exact hc)]
  simp [vecA, hc, vset]
theorem oCs_set (q : Queues) (F : Nat → AV) (c : Nat) (hc : c < 32) (x y : AV) : (oCs q (vset F (Int.toNat (c : Int)) x)).set c y = oCs q (vset F c y) := by
  rw [List.set_append_left _ _ (by simp [vecA]; exact hc)]
  have h := vecA_set (fun x : AV => x) 32 (vset F (Int.toNat (c : Int)) x) c y
  have e : vset (vset F (Int.toNat (c : Int)) x) c y = vset F c y := by
    funext j
    have h1 := vset_app (fun x : AV => x) (vset F (Int.toNat (c : Int)) x) c j y
    have h2 := vset_app (fun x : AV => x) F (Int.toNat (c : Int)) j x
    have h3 := vset_app (fun x : AV => x) F c j y
    rw [h1, h2, h3]
    by_cases hj : j = c <;> simp [hj]
  rw [e] at h
  rw [h]
theorem goRow_lt (q : Queues) (p v c j n : Nat) (h : Nat.ble 1 n = true) : (goRow q p v c j).lt n = true := by
  unfold goRow
  cases Nat.blt j c with
  | false => rfl
  | true =>
    show (gRow q p 0 v j).lt n = true
    by_cases hj : j = p
    · rw [hj, gRow_self]; simpa [AV.lt] using h
    · rw [gRow_ne _ _ _ _ _ hj]; rfl
theorem oLt (q : Queues) (p v c ver : Nat) (L : List Int) : stLt 3 [.os 3 1 ver (List.map (encA E3) L), .row 26 zCs, .row 26 (oCs q (goRow q p v c))] = true := by
  have h1 : AV.lts 3 zCs = true := rfl
  have h2 : AV.lts 3 (oCs q (goRow q p v c)) = true := lts_all fun x hx => by
    rcases List.mem_append.1 hx with hx | hx
    · obtain ⟨j, _, rfl⟩ := List.mem_map.1 hx
      exact goRow_lt q p v c j 3 rfl
    · simp only [List.mem_cons, List.not_mem_nil, or_false] at hx
      rcases hx with rfl | rfl <;> rfl
  have h3 := lt_os 3 3 1 ver E3 L
  simp [stLt, h3, AO.lt, h1, h2] at h3 ⊢
  exact h3

theorem f23g_c (q0 : Queues) (p : Nat) (hp : p < 32) {v0 : Nat} (hok : ownOk q0 = true) : Ctr Try.prog 23 [.d (.ag (R26 q0))] [.os 3 1 v0 (List.map (encA E3) ([] : List Int))] (WinA 1 (fun iv => .ag (vecA 32 (gRow q0 p 0 iv) ++ tl q0)) (fun iv => [.os 3 1 iv (List.map (encA E3) (q0.ready p))])) := by
 unfold ownOk at hok
 rw [Bool.and_eq_true] at hok
 obtain ⟨hok, hokd⟩ := hok
 have hokj : ∀ j, j < 32 → appOk 8 ([] : List Int) (q0.ready j) = true := fun j hj => List.all_eq_true.1 hok j (List.mem_range.2 hj)
 refine ctr_intro Try.func23 (by kernel_rfl) rfl rfl rfl (fun mm φφ ww hmm => ?_)
 refine wc_sr ?_
 refine WL.s ((b_boxd rfl rfl (Les.refl _)).does) (Wt.none rfl) rfl rfl ?_
 refine WL.s ((b_alloc z26).does) (Wt.none rfl) rfl rfl ?_
 refine WL.ns ?_
 refine wc_sr ?_
 refine WL.qn (y_fieldAddrc f26_2 rfl) rfl ?_
 refine WL.qn (y_loadc rfl a3 rfl) rfl ?_
 refine WL.qn (y_build p26 z26 rfl rfl) rfl ?_
 refine WL.s ((b_alloc z26).does) (Wt.none rfl) rfl rfl ?_
 refine WL.s0 (d_store rfl rfl rfl rfl rfl rfl s26 rfl rfl) (Wt.none rfl) rfl ?_
 refine WL.st (st' := [.os 3 1 v0 (List.map (encA E3) ([] : List Int)), .row 26 zCs, .row 26 (oCs q0 (goRow q0 p v0 0))]) rfl ?_
 refine WL.ns ?_
 refine wc_cut (fun env' st' => Sub [(1, .d (.pc (R26 q0))), (2, .pt 1 0), (3, .pt 2 0)] env' ∧ ∃ ver, SLe st' [.os 3 1 ver (List.map (encA E3) (q0.ready p)), .row 26 zCs, .row 26 (oCs q0 (gRow q0 p 0 ver))]) ?_ ?_
 ·refine wc_sr ?_
  refine WL.as rfl rfl ?_
  refine WL.ns ?_
  refine wc_block ?_
  refine wc_loop (ι := Nat) (fun c env' st' => c ≤ 32 ∧ Sub [(1, .d (.pc (R26 q0))), (2, .pt 1 0), (3, .pt 2 0), (4, .d (D.i .i64 (c : Int)))] env' ∧ ∃ (ver : Nat) (L : List Int), (c ≤ p ∧ L = [] ∨ p < c ∧ L = q0.ready p) ∧ SLe st' [.os 3 1 ver (List.map (encA E3) L), .row 26 zCs, .row 26 (oCs q0 (goRow q0 p ver c))]) (fun c => 32 - c) 0 ⟨by decide, (Sub.cons rfl (Le.refl _) (Sub.cons rfl (Le.refl _) (Sub.cons rfl (Le.refl _) (Sub.cons rfl (Le.refl _) (Sub.nil _))))), v0, [], .inl ⟨Nat.zero_le _, rfl⟩, SLe.refl _⟩ ?_
  rintro c env1 st1 ⟨hc, hsub, ver, L, hL, hst⟩
  refine WC.sub hsub (WC.weak hst ?_)
  refine wc_seq ?_
  refine wc_sr ?_
  refine WL.mv rfl rfl ?_
  refine WL.qn (y_lss rfl rfl) rfl ?_
  refine WL.ns ?_
  refine wc_cond rfl (fun hc1 => ?_) (fun hc1 => ?_)
  ·have hc2 : c < 32 := by
    have := of_decide_eq_true hc1
    omega
   have hv : vecOk 32 (c : Int) = true := by simp [vecOk, hc2]
   refine wc_skip ?_
   refine we_seq ?_
   refine wc_seq ?_
   refine wc_block ?_
   apply wc_region_all [_, _, _, _, _, _, _, _, _, _, _, _, .u] [[], [], [], [1, 2], [1, 2, 3], [], [], [5, 6], [5, 6, 7], [1, 2, 3, 4, 5, 6, 7, 8], [], [0, 1, 2, 3, 4, 5, 6, 7, 8, 9, 10], [0, 1, 2, 3, 4, 5, 6, 7, 8, 9, 10, 11]] [9, 12] (fun i => List.getD [[.os 3 1 ver (List.map (encA E3) L), .row 26 zCs, .row 26 (oCs q0 (goRow q0 p ver c))], [.os 3 1 ver (List.map (encA E3) L), .row 26 zCs, .row 26 (oCs q0 (goRow q0 p ver c)), .os 3 1 1 (List.map (encA E3) ([] ++ (q0.ready c)))], [.os 3 1 ver (List.map (encA E3) L), .row 26 zCs, .row 26 (oCs q0 (vset (goRow q0 p ver c) (Int.toNat (c : Int)) (.os 3 1))), .os 3 1 1 (List.map (encA E3) ([] ++ (q0.ready c)))]] i []) [([], [4], [0, 1]), ([], [4], [0]), ([], [3], [0]), ([2, 1], [], [0]), ([3], [], [0]), ([], [4], [0]), ([], [1], [0]), ([6, 5], [], [0]), ([7], [], [0]), ([4, 8], [], [0]), ([], [3], [0, 1]), ([10, 0], [], [1]), ([11, 9], [], [1])] (by kernel_rfl) (by kernel_rfl) rfl rfl rfl
   ·refine ⟨?_, ?_, ?_, ?_, ?_, ?_, ?_, ?_, ?_, ?_, ?_, ?_, ?_, trivial⟩
    ·refine ⟨fun F => ?_, fun F => ?_, trivial⟩
     ·refine WL.mv rfl rfl ?_
      exact WL.done1 rfl rfl rfl
     ·refine WL.mv rfl rfl ?_
      exact WL.done1 rfl rfl rfl
    ·refine ⟨fun F => ?_, trivial⟩
     refine WL.mv rfl rfl ?_
     exact WL.done1 rfl rfl rfl
    ·refine ⟨fun F => ?_, trivial⟩
     refine WL.qn (y_fieldAddr f26_0 rfl) rfl ?_
     exact WL.done1 rfl rfl rfl
    ·refine ⟨fun F => ?_, trivial⟩
     refine WL.qn (y_indexAddra ar23 rfl rfl (vecOk_0 hv) (vecOk_1 hv)) rfl ?_
     exact WL.done1 rfl rfl rfl
    ·refine ⟨fun F => ?_, trivial⟩
     refine WL.qn ((goRow_at q0 p ver c) ▸ (y_loadV (i := (c : Int)) (n := 32) (off := 0) (goRow q0 p ver c) rfl rfl a22 rfl hv)) rfl ?_
     exact WL.done1 rfl rfl rfl
    ·refine ⟨fun F => ?_, trivial⟩
     refine WL.mv rfl rfl ?_
     exact WL.done1 rfl rfl rfl
    ·refine ⟨fun F => ?_, trivial⟩
     refine WL.qn (y_fieldAddrc f26_0 rfl) rfl ?_
     exact WL.done1 rfl rfl rfl
    ·refine ⟨fun F => ?_, trivial⟩
     refine WL.qn (y_indexAddrVc (fun j => .sl (List.map E3 (q0.ready j))) ar23 rfl rfl rfl hv) rfl ?_
     exact WL.done1 rfl rfl rfl
    ·refine ⟨fun F => ?_, trivial⟩
     refine WL.qn (y_loadc rfl a22 rfl) rfl ?_
     exact WL.done1 rfl rfl rfl
    ·refine ⟨fun F => ?_, trivial⟩
     refine WL.s (Does.nil 16 3 1 rfl (d_appendL E3 [] (q0.ready c) l22 z3 rfl (by decide) rfl rfl rfl rfl (Src.dataL (Le.refl _) E3_eq (fun _ => rfl)) (fun _ => rfl) (fun _ => rfl) (hokj c hc2))) (Wt.none rfl) rfl rfl ?_
     exact WL.done1 rfl rfl rfl
    ·refine ⟨fun F => ?_, fun F => ?_, trivial⟩
     ·refine WL.qn (y_fieldAddr f26_0 rfl) rfl ?_
      exact WL.done1 rfl rfl rfl
     ·refine WL.qn (y_fieldAddr f26_0 rfl) rfl ?_
      exact WL.done1 rfl rfl rfl
    ·refine ⟨fun F => ?_, trivial⟩
     refine WL.qn (y_indexAddra ar23 rfl rfl (vecOk_0 hv) (vecOk_1 hv)) rfl ?_
     exact WL.done1 rfl rfl rfl
    ·refine ⟨fun F => ?_, trivial⟩
     refine WL.s0 (d_storeV (i := (c : Int)) (n := 32) (off := 0) (fun x : AV => x) (goRow q0 p ver c) (.os 3 1) rfl rfl rfl (one_os rfl) s22 rfl rfl hv rfl) (Wt.none rfl) rfl ?_
     exact WL.done0 rfl rfl
   ·refine we_blk ?_
    refine we_seq ?_
    refine wc_region ?_
    refine WL.mv rfl rfl ?_
    refine WL.qn (y_add rfl rfl (c := ((c + 1 : Nat) : Int)) (wrap_id c (of_decide_eq_true hc1))) rfl ?_
    refine WL.as rfl rfl ?_
    refine WL.nil ?_
    by_cases hcp : c = p
    ·have hL0 : L = [] := by
      rcases hL with ⟨_, h⟩ | ⟨h, _⟩
      · exact h
      · omega
     subst hL0
     refine Gh.we (gh_give [] [(2, c)] 3 0 rfl rfl rfl trivial ⟨_, _, rfl, oCs_get q0 (goRow q0 p ver c) c hc2 (.os 3 1), trivial⟩) ?_
     have hrow : (oCs q0 (vset (goRow q0 p ver c) (Int.toNat (c : Int)) (.os 3 1))).set c (.os 0 (ver + 1 + 1)) = oCs q0 (goRow q0 p (ver + 1 + 1) (c + 1)) := by
      rw [oCs_set q0 _ c hc2, goRow_ver q0 p ver (ver + 1 + 1) c (by omega)]
      have := goRow_succ q0 p (ver + 1 + 1) c
      rw [hcp, gRow_self] at this
      rw [hcp, this]
     show WE _ _ _ _ _ [.os 3 1 (ver + 1 + 1) (List.map (encA E3) ([] ++ q0.ready c)), .row 26 zCs, .row 26 ((oCs q0 (vset (goRow q0 p ver c) (Int.toNat (c : Int)) (.os 3 1))).set c (.os 0 (ver + 1 + 1))), .dead]
     rw [hrow]
     refine WE.drop 3 (env' := [(1, .d (.pc (R26 q0))), (2, .pt 1 0), (3, .pt 2 0), (4, .d (D.i .i64 ((c + 1 : Nat) : Int)))]) (Sub.cons rfl (Le.refl _) (Sub.cons rfl (Le.refl _) (Sub.cons rfl (Le.refl _) (Sub.cons rfl (Le.refl _) (Sub.nil _))))) rfl (oLt q0 p _ _ _ _) (Nat.le_trans (Nat.le_of_eq hmm) (Nat.le_of_ble_eq_true rfl)) ?_
     exact we_lp ⟨c + 1, ⟨by omega, (Sub.cons rfl (Le.refl _) (Sub.cons rfl (Le.refl _) (Sub.cons rfl (Le.refl _) (Sub.cons rfl (Le.refl _) (Sub.nil _))))), ver + 1 + 1, q0.ready p, .inr ⟨by omega, rfl⟩, by rw [hcp]; exact SLe.refl _⟩, by omega⟩
    ·refine WE.freeze_cell 2 c 3 (List.map E3 ([] ++ q0.ready c)) rfl (oCs_get q0 (goRow q0 p ver c) c hc2 _) rfl rfl (encA_map E3_eq _) ?_
     have hrow : (oCs q0 (vset (goRow q0 p ver c) (Int.toNat (c : Int)) (.os 3 1))).set c (.d (.sl (List.map E3 ([] ++ q0.ready c)))) = oCs q0 (goRow q0 p ver (c + 1)) := by
      rw [oCs_set q0 _ c hc2]
      have := goRow_succ q0 p ver c
      rw [gRow_ne _ _ _ _ _ hcp] at this
      rw [← this]; rfl
     rw [hrow]
     refine WE.drop 3 (env' := [(1, .d (.pc (R26 q0))), (2, .pt 1 0), (3, .pt 2 0), (4, .d (D.i .i64 ((c + 1 : Nat) : Int)))]) (Sub.cons rfl (Le.refl _) (Sub.cons rfl (Le.refl _) (Sub.cons rfl (Le.refl _) (Sub.cons rfl (Le.refl _) (Sub.nil _))))) rfl (oLt q0 p _ _ _ _) (Nat.le_trans (Nat.le_of_eq hmm) (Nat.le_of_ble_eq_true rfl)) ?_
     exact we_lp ⟨c + 1, ⟨by omega, (Sub.cons rfl (Le.refl _) (Sub.cons rfl (Le.refl _) (Sub.cons rfl (Le.refl _) (Sub.cons rfl (Le.refl _) (Sub.nil _))))), ver, L, (by
       rcases hL with ⟨h1, h2⟩ | ⟨h1, h2⟩
       · exact .inl ⟨by omega, h2⟩
       · exact .inr ⟨by omega, h2⟩), SLe.refl _⟩, by omega⟩
  ·have hc2 : c = 32 := by
    have := of_decide_eq_false hc1
    omega
   subst hc2
   refine wc_exit ?_
   refine we_seq_exit ?_
   refine we_lp_exit ?_
   refine we_blk_hit ?_
   have hL2 : L = q0.ready p := by
    rcases hL with ⟨h, _⟩ | ⟨_, h⟩
    · omega
    · exact h
   subst hL2
   refine we_lp ⟨(Sub.cons rfl (Le.refl _) (Sub.cons rfl (Le.refl _) (Sub.cons rfl (Le.refl _) (Sub.nil _)))), ver, ?_⟩
   show SLe [.os 3 1 ver (List.map (encA E3) (q0.ready p)), .row 26 zCs, .row 26 (vecA 32 (goRow q0 p ver 32) ++ _)] _
   rw [goRow_end]
   exact SLe.refl _
 ·rintro env1 st1 ⟨hsub, ver, hst⟩
  refine WC.sub hsub (WC.weak hst ?_)
  refine wc_sr ?_
  refine WL.qn (y_fieldAddr f26_1 rfl) rfl ?_
  refine WL.qn (y_load rfl rfl a24 rfl) rfl ?_
  refine WL.qn (y_fieldAddrc f26_1 rfl) rfl ?_
  refine WL.qn (y_loadc rfl a24 rfl) rfl ?_
  refine WL.nil_os 25 62 2 rfl ?_
  refine WL.s (d_appendL R62 [] q0.delays l24 z62 rfl (by decide) rfl rfl rfl rfl (Src.dataL (Le.refl _) E62_eq (fun _ => rfl)) (fun _ => rfl) (fun _ => rfl) hokd) (Wt.none rfl) rfl rfl ?_
  refine WL.qn (y_fieldAddr f26_1 rfl) rfl ?_
  refine WL.s0 (d_store1 rfl rfl rfl (one_os rfl) s24 rfl) (Wt.none rfl) rfl ?_
  refine WL.st (st' := [.os 3 1 ver (List.map (encA E3) (q0.ready p)), .row 26 zCs, .row 26 (vecA 32 (gRow q0 p 0 ver) ++ [.os 3 1, .d (D.i .i64 q0.run)]), .os 62 2 1 (List.map (encA R62) ([] ++ q0.delays))]) rfl ?_
  refine WL.ns ?_
  refine wc_sr ?_
  refine WL.freezeX [28] [(2, 32)] 3 (List.map E62 ([] ++ q0.delays)) rfl (encA_map E62_eq ([] ++ q0.delays)) ⟨rfl, trivial⟩ ⟨_, _, rfl, rfl, trivial⟩ ?_
  refine WL.qn (y_loadN rfl rfl a26 s26 rfl) rfl ?_
  refine WL.s0 (d_storeS (rs := vecA 32 (gRow q0 p 0 ver) ++ tl q0) rfl rfl rfl rfl rfl (gRow_all q0 p 0 ver (os_ok1S rfl)) s26 rfl rfl) (Wt.none rfl) rfl ?_
  refine WL.ns ?_
  refine wc_ret ?_
  exact we_ret_wina ver (rs1 rfl (rv_cN rfl rfl a26 s26 rfl)) (Le.refl _) rfl (SLe.refl _)
end Go.Proofs.Ytpionlekbfoccaa.O
namespace Go.Proofs.Ytpionlekbfoccaa
open Go
def Try.laysIns_ren : Go.Shelf.Ren := ⟨fun | 21 => 33 | 27 => 62 | 28 => 63 | 35 => 75 | 39 => 82 | n => n, fun | 22 => 22 | 3 => 3 | 0 => 0 | 4 => 4 | n => n, fun | n => n⟩
theorem Try.laysIns : Go.Proofs.Lays2.n21 Try.prog Try.laysIns_ren where
  mixed := by kernel_rfl
  f21 := Try.func33.trans (congrArg some (by kernel_rfl))
  f27 := Try.func62.trans (congrArg some (by kernel_rfl))
  f28 := Try.func63.trans (congrArg some (by kernel_rfl))
  f35 := Try.func75.trans (congrArg some (by kernel_rfl))
  f39 := Try.func82.trans (congrArg some (by kernel_rfl))
  t0 := Try.underlying0
  a0 := Try.isAgg0
  z0 := Try.sizeOf0
  v0 := Try.zeroValue0
  t3 := Try.underlying3
  a3 := Try.isAgg3
  z3 := Try.sizeOf3
  v3 := Try.zeroValue3
  t4 := Try.underlying4
  a4 := Try.isAgg4
  z4 := Try.sizeOf4
  v4 := Try.zeroValue4
  t22 := Try.underlying22
  a22 := Try.isAgg22
  z22 := Try.sizeOf22
  v22 := Try.zeroValue22
  i3 := by kernel_rfl
end Go.Proofs.Ytpionlekbfoccaa
namespace Go.Proofs.Ytpionlekbfoccaa
open Go Go.Sk



def f69 (x0 : Int) : Bool :=
  (!decide (x0 = x0))

def f38 (x0 : Int) (y1 : Int) : Int :=
  (bif (f69 x0) then (bif (f69 y1) then 0 else (-1)) else (bif (f69 y1) then 1 else (bif (decide (x0 < y1)) then (-1) else (bif (decide (x0 > y1)) then 1 else 0))))

def f37 (a0 : Due) (b1 : Due) : Int :=
  (f38 a0.time b1.time)

def f9_l1 (q0 : Queues) (k24 : Int → Option (Bool)) : Nat → Int → Int → Option (Bool)
  | 0, _, _ => none
  | n+1, n27, p28 =>
  (bif (decide (p28 < 32)) then guardB (vecOk 32 p28) <|
  (f9_l1 q0 k24 n (IntKind.i64.wrap (n27 + (List.length (q0.ready (Int.toNat p28)) : Int))) (IntKind.i64.wrap (p28 + 1))) else (k24 n27))
def f9 (q0 : Queues) : Option Bool :=
  letk (fun (n23 : Int) =>
  some (decide (n23 > 300))) fun k24 =>
  (f9_l1 q0 k24 9223372036854775808 (List.length q0.delays : Int) 0)

def f30 (n0 : Int) : Bool :=
  ((decide (n0 ≥ 0)) && (decide (n0 < 32)))

def f10_l2 (q0 : Queues) (t90 : Int) (k95 : (List (Int × Bool)) → Option (Bool)) : Nat → Int → (List (Int × Bool)) → Option (Bool)
  | 0, _, _ => none
  | na+1, t99, m100 =>
  (bif (decide (t99 < (List.length (q0.ready (Int.toNat t90)) : Int))) then Option.bind (idx (q0.ready (Int.toNat t90)) t99) fun x103 =>
  (bif ((!(f30 x103)) || (Option.getD (mpGet m100 x103) false)) then some false else (f10_l2 q0 t90 k95 na (IntKind.i64.wrap (t99 + 1)) (mpPut m100 x103 true))) else (k95 m100))
def f10_l1 (q0 : Queues) (k87 : (List (Int × Bool)) → Option (Bool)) : Nat → Int → (List (Int × Bool)) → Option (Bool)
  | 0, _, _ => none
  | n+1, t90, m91 =>
  (bif (decide (t90 < 32)) then letk (fun (m94 : List (Int × Bool)) =>
  (f10_l1 q0 k87 n (IntKind.i64.wrap (t90 + 1)) m94)) fun k95 =>
  guardB (vecOk 32 t90) <|
  (f10_l2 q0 t90 k95 (Int.toNat ((List.length (q0.ready (Int.toNat t90)) : Int) - 0) + 1) 0 m91) else (k87 m91))
def f10_l3 (q0 : Queues) (k105 : (List (Int × Bool)) → Option (Bool)) : Nat → Int → Int → (List (Int × Bool)) → Option (Bool)
  | 0, _, _, _ => none
  | n+1, last109, t110, m111 =>
  (bif (decide (t110 < (List.length q0.delays : Int))) then Option.bind (idx q0.delays t110) fun x115 =>
  (bif ((((!(f30 x115.task)) || (Option.getD (mpGet m111 x115.task) false)) || (decide (x115.time < last109))) || (decide (x115.time > 9007199254740992))) then some false else (f10_l3 q0 k105 n x115.time (IntKind.i64.wrap (t110 + 1)) (mpPut m111 x115.task true))) else (k105 m111))
def f10 (q0 : Queues) : Option Bool :=
  (bif ((!decide (q0.run = (-1))) && (!(f30 q0.run))) then some false else letk (fun (m86 : List (Int × Bool)) =>
  letk (fun (m104 : List (Int × Bool)) =>
  some true) fun k105 =>
  (f10_l3 q0 k105 (Int.toNat ((List.length q0.delays : Int) - 0) + 1) 0 0 ([] : List (Int × Bool)))) fun k87 =>
  (f10_l1 q0 k87 (Int.toNat (32 - 0) + 1) 0 (mpPut (mpPut ([] : List (Int × Bool)) (-1) true) q0.run true)))

def f14_l1 (q0 : Queues) (k34 : Int → Int → Option (Int × Int × Bool)) (k35 : Unit → Option (Int × Int × Bool)) : Nat → Int → Option (Int × Int × Bool)
  | 0, _ => none
  | n+1, iq37 =>
  (bif (decide (iq37 ≥ 0)) then Option.bind (idx (List.map q0.ready (List.range 32)) iq37) fun x39 =>
  letk (fun (c0041 : Int) =>
  (k34 c0041 iq37)) fun k42 =>
  letk (fun (_ : Unit) =>
  (f14_l1 q0 k34 k35 n (IntKind.i64.wrap (iq37 - 1)))) fun k43 =>
  (bif (decide ((List.length x39 : Int) > 0)) then letk (fun (c0045 : Int) =>
  (k42 c0045)) fun k46 =>
  Option.bind (idx x39 0) fun x47 =>
  (k46 x47) else (k43 ())) else (k35 ()))
def f14 (q0 : Queues) : Option (Int × Int × Bool) :=
  Option.bind (f10 q0) fun r20 =>
  (bif (!r20) then some (0, 0, false) else letk (fun (_ : Unit) =>
  some (0, 0, false)) fun k21 =>
  letk (fun (_ : Unit) =>
  letk (fun (c0025 : Int) (c1026 : Int) =>
  some (c0025, c1026, true)) fun k27 =>
  letk (fun (_ : Unit) =>
  (k21 ())) fun k28 =>
  letk (fun (_ : Unit) =>
  letk (fun (c0032 : Int) (c1033 : Int) =>
  (k27 c0032 c1033)) fun k34 =>
  letk (fun (_ : Unit) =>
  (k28 ())) fun k35 =>
  (f14_l1 q0 k34 k35 (Int.toNat ((IntKind.i64.wrap ((List.length (List.map q0.ready (List.range 32)) : Int) - 1)) + 1) + 1) (IntKind.i64.wrap ((List.length (List.map q0.ready (List.range 32)) : Int) - 1)))) fun k30 =>
  (k30 ())) fun k23 =>
  (k23 ()))

/-- the cell that Dispatch may put a task in front of -/
def ghost (q : Queues) (prio : Int) : Int := bif decide (q.run ≥ 0) then prio else (match f14 q with | some r => (r.2.1 + 1) % 32 | none => 0)

def f12 (q0 : Queues) (prio1 : Int) : Option (Queues × Int) :=
  Option.bind (f10 q0) fun r72 =>
  (bif ((!r72) || ((decide (q0.run ≥ 0)) && (!(f30 prio1)))) then some ((Queues.mk (fun _ => ([] : List Int)) [] 0), 2) else guardB (vecOk 32 (ghost q0 prio1)) <|
  guardB (O.ownOk q0) <|
  Option.bind (f14 q0) fun r76 =>
  (bif ((!r76.2.2) || ((decide (q0.run ≥ 0)) && (decide (r76.2.1 ≤ prio1)))) then some ((Queues.mk (vset q0.ready (Int.toNat (ghost q0 prio1)) (q0.ready (Int.toNat (ghost q0 prio1)))) q0.delays q0.run), 0) else guardB (vecOk 32 r76.2.1) <|
  guardB (sliceOk (q0.ready (Int.toNat r76.2.1)) 1 (List.length (q0.ready (Int.toNat r76.2.1)) : Int)) <|
  guardB (vecOk 32 r76.2.1) <|
  letk (fun (c0081 : Nat → (List Int)) =>
  some ((Queues.mk c0081 q0.delays r76.1), 0)) fun k82 =>
  (bif (decide (q0.run ≥ 0)) then guardB (vecOk 32 prio1) <|
  guardB (O.insOk (q0.ready (Int.toNat prio1))) <|
  guardB (vecOk 32 prio1) <|
  (k82 (vset (Queues.mk (vset q0.ready (Int.toNat r76.2.1) (sliceF (q0.ready (Int.toNat r76.2.1)) 1 (List.length (q0.ready (Int.toNat r76.2.1)) : Int))) q0.delays q0.run).ready (Int.toNat prio1) (q0.run :: (q0.ready (Int.toNat prio1))))) else (k82 (vset (Queues.mk (vset q0.ready (Int.toNat r76.2.1) (sliceF (q0.ready (Int.toNat r76.2.1)) 1 (List.length (q0.ready (Int.toNat r76.2.1)) : Int))) q0.delays q0.run).ready (Int.toNat (ghost q0 prio1)) (q0.ready (Int.toNat (ghost q0 prio1))))))))

def f16  : Queues :=
  (Queues.mk (fun _ => ([] : List Int)) [] (-1))

def f77_l1 (s0 : List Due) (cb1 : Due → Option (Bool)) (k22 : Unit → Option (Int)) : Nat → Int → Option (Int)
  | 0, _ => none
  | n+1, t24 =>
  (bif (decide (t24 < (List.length s0 : Int))) then Option.bind (idx s0 t24) fun x26 =>
  Option.bind (cb1 x26) fun r27 =>
  (bif r27 then some t24 else (f77_l1 s0 cb1 k22 n (IntKind.i64.wrap (t24 + 1)))) else (k22 ()))
def f77 (s0 : List Due) (cb1 : Due → Option (Bool)) : Option Int :=
  letk (fun (_ : Unit) =>
  some (-1)) fun k22 =>
  (f77_l1 s0 cb1 k22 (Int.toNat ((List.length s0 : Int) - 0) + 1) 0)

def f66 (s0 : List Due) (cb1 : Due → Option (Bool)) : Option Bool :=
  Option.bind (f77 s0 cb1) fun r12 =>
  some (decide (r12 ≥ 0))

def f67 (d0 : Due) (cap1 : Int) : Bool :=
  (decide (d0.task = cap1))

def f35 (q0 : Queues) (task1 : Int) : Option Bool :=
  Option.bind (f66 q0.delays (fun z0 => some (f67 z0 task1))) fun r12 =>
  some r12

def f78_l2 (a1 : Int) (k65 : (List Due) → Option (List Due)) : Nat → Int → (List Due) → Option (List Due)
  | 0, _, _ => none
  | na+1, j68, l69 =>
  Option.bind (bif (decide (j68 > a1)) then (Option.bind (idx l69 j68) fun x73 => Option.bind (idx l69 (IntKind.i64.wrap (j68 - 1))) fun x74 => some (decide ((f37 x73 x74) < 0))) else some false) fun b72 =>
  (bif b72 then Option.bind (idx l69 (IntKind.i64.wrap (j68 - 1))) fun x75 =>
  Option.bind (idx l69 j68) fun x76 =>
  Option.bind (idx l69 j68) fun x77 =>
  Option.bind (idx (List.set l69 (Int.toNat j68) x75) (IntKind.i64.wrap (j68 - 1))) fun x78 =>
  (f78_l2 a1 k65 na (IntKind.i64.wrap (j68 - 1)) (List.set (List.set l69 (Int.toNat j68) x75) (Int.toNat (IntKind.i64.wrap (j68 - 1))) x76)) else (k65 l69))
def f78_l1 (a1 : Int) (b2 : Int) : Nat → Int → (List Due) → Option (List Due)
  | 0, _, _ => none
  | n+1, iq60, l61 =>
  (bif (decide (iq60 < b2)) then letk (fun (l64 : List Due) =>
  (f78_l1 a1 b2 n (IntKind.i64.wrap (iq60 + 1)) l64)) fun k65 =>
  (f78_l2 a1 k65 9223372036854775808 iq60 l61) else some l61)
def f78 (l0 : List Due) (a1 : Int) (b2 : Int) : Option (List Due) :=
  (f78_l1 a1 b2 9223372036854775808 (IntKind.i64.wrap (a1 + 1)) l0)

def f84_l1 (a1 : Int) (b2 : Int) (n3 : Int) : Nat → Int → (List Due) → Option (List Due)
  | 0, _, _ => none
  | n+1, iq46, l47 =>
  (bif (decide (iq46 < n3)) then Option.bind (idx l47 (IntKind.i64.wrap (b2 + iq46))) fun x50 =>
  Option.bind (idx l47 (IntKind.i64.wrap (a1 + iq46))) fun x51 =>
  Option.bind (idx l47 (IntKind.i64.wrap (a1 + iq46))) fun x52 =>
  Option.bind (idx (List.set l47 (Int.toNat (IntKind.i64.wrap (a1 + iq46))) x50) (IntKind.i64.wrap (b2 + iq46))) fun x53 =>
  (f84_l1 a1 b2 n3 n (IntKind.i64.wrap (iq46 + 1)) (List.set (List.set l47 (Int.toNat (IntKind.i64.wrap (a1 + iq46))) x50) (Int.toNat (IntKind.i64.wrap (b2 + iq46))) x51)) else some l47)
def f84 (l0 : List Due) (a1 : Int) (b2 : Int) (n3 : Int) : Option (List Due) :=
  (f84_l1 a1 b2 n3 9223372036854775808 0 l0)

def f83_l1 (m2 : Int) (k66 : Int → (List Due) → Option (List Due)) : Nat → Int → Int → (List Due) → Option (List Due)
  | 0, _, _, _ => none
  | n+1, iq70, j71, l72 =>
  (bif (!decide (iq70 = j71)) then (bif (decide (iq70 > j71)) then Option.bind (f84 l72 (IntKind.i64.wrap (m2 - iq70)) m2 j71) fun r76 =>
  (f83_l1 m2 k66 n (IntKind.i64.wrap (iq70 - j71)) j71 r76) else Option.bind (f84 l72 (IntKind.i64.wrap (m2 - iq70)) (IntKind.i64.wrap ((IntKind.i64.wrap (m2 + j71)) - iq70)) iq70) fun r77 =>
  (f83_l1 m2 k66 n iq70 (IntKind.i64.wrap (j71 - iq70)) r77)) else (k66 iq70 l72))
def f83 (l0 : List Due) (a1 : Int) (m2 : Int) (b3 : Int) : Option (List Due) :=
  letk (fun (iq64 : Int) (l65 : List Due) =>
  Option.bind (f84 l65 (IntKind.i64.wrap (m2 - iq64)) m2 iq64) fun r78 =>
  some r78) fun k66 =>
  (f83_l1 m2 k66 9223372036854775808 (IntKind.i64.wrap (m2 - a1)) (IntKind.i64.wrap (b3 - m2)) l0)

def f79s_l1 (l0 : List Due) (a1 : Int) (k228 : Int → Option (List Due)) : Nat → Int → Int → Option (List Due)
  | 0, _, _ => none
  | n+1, iq231, j232 =>
  (bif (decide (iq231 < j232)) then Option.bind (idx l0 (IntKind.i64.wrap (Int.fdiv (IntKind.u64.wrap (IntKind.i64.wrap (iq231 + j232))) (2 ^ min (Int.toNat 1) IntKind.u64.bits)))) fun x235 =>
  Option.bind (idx l0 a1) fun x236 =>
  (bif (decide ((f37 x235 x236) < 0)) then (f79s_l1 l0 a1 k228 n (IntKind.i64.wrap ((IntKind.i64.wrap (Int.fdiv (IntKind.u64.wrap (IntKind.i64.wrap (iq231 + j232))) (2 ^ min (Int.toNat 1) IntKind.u64.bits))) + 1)) j232) else (f79s_l1 l0 a1 k228 n iq231 (IntKind.i64.wrap (Int.fdiv (IntKind.u64.wrap (IntKind.i64.wrap (iq231 + j232))) (2 ^ min (Int.toNat 1) IntKind.u64.bits))))) else (k228 iq231))
def f79s_l2 (iq227 : Int) (k238 : (List Due) → Option (List Due)) : Nat → Int → (List Due) → Option (List Due)
  | 0, _, _ => none
  | n+1, k241, l242 =>
  (bif (decide (k241 < (IntKind.i64.wrap (iq227 - 1)))) then Option.bind (idx l242 (IntKind.i64.wrap (k241 + 1))) fun x245 =>
  Option.bind (idx l242 k241) fun x246 =>
  Option.bind (idx l242 k241) fun x247 =>
  Option.bind (idx (List.set l242 (Int.toNat k241) x245) (IntKind.i64.wrap (k241 + 1))) fun x248 =>
  (f79s_l2 iq227 k238 n (IntKind.i64.wrap (k241 + 1)) (List.set (List.set l242 (Int.toNat k241) x245) (Int.toNat (IntKind.i64.wrap (k241 + 1))) x246)) else (k238 l242))
def f79s_l3 (l0 : List Due) (m2 : Int) (k251 : Int → Option (List Due)) : Nat → Int → Int → Option (List Due)
  | 0, _, _ => none
  | n+1, iq254, j255 =>
  (bif (decide (iq254 < j255)) then Option.bind (idx l0 m2) fun x258 =>
  Option.bind (idx l0 (IntKind.i64.wrap (Int.fdiv (IntKind.u64.wrap (IntKind.i64.wrap (iq254 + j255))) (2 ^ min (Int.toNat 1) IntKind.u64.bits)))) fun x259 =>
  (bif (!(decide ((f37 x258 x259) < 0))) then (f79s_l3 l0 m2 k251 n (IntKind.i64.wrap ((IntKind.i64.wrap (Int.fdiv (IntKind.u64.wrap (IntKind.i64.wrap (iq254 + j255))) (2 ^ min (Int.toNat 1) IntKind.u64.bits))) + 1)) j255) else (f79s_l3 l0 m2 k251 n iq254 (IntKind.i64.wrap (Int.fdiv (IntKind.u64.wrap (IntKind.i64.wrap (iq254 + j255))) (2 ^ min (Int.toNat 1) IntKind.u64.bits))))) else (k251 iq254))
def f79s_l4 (iq250 : Int) (k261 : (List Due) → Option (List Due)) : Nat → Int → (List Due) → Option (List Due)
  | 0, _, _ => none
  | n+1, k264, l265 =>
  (bif (decide (k264 > iq250)) then Option.bind (idx l265 (IntKind.i64.wrap (k264 - 1))) fun x268 =>
  Option.bind (idx l265 k264) fun x269 =>
  Option.bind (idx l265 k264) fun x270 =>
  Option.bind (idx (List.set l265 (Int.toNat k264) x268) (IntKind.i64.wrap (k264 - 1))) fun x271 =>
  (f79s_l4 iq250 k261 n (IntKind.i64.wrap (k264 - 1)) (List.set (List.set l265 (Int.toNat k264) x268) (Int.toNat (IntKind.i64.wrap (k264 - 1))) x269)) else (k261 l265))
def f79s_l5 (l0 : List Due) (a1 : Int) (m2 : Int) (b3 : Int) (k276 : Int → Option (List Due)) : Nat → Int → Int → Option (List Due)
  | 0, _, _ => none
  | n+1, start279, r280 =>
  (bif (decide (start279 < r280)) then Option.bind (idx l0 (IntKind.i64.wrap ((IntKind.i64.wrap ((IntKind.i64.wrap ((IntKind.i64.wrap (Int.fdiv (IntKind.u64.wrap (IntKind.i64.wrap (a1 + b3))) (2 ^ min (Int.toNat 1) IntKind.u64.bits))) + m2)) - 1)) - (IntKind.i64.wrap (Int.fdiv (IntKind.u64.wrap (IntKind.i64.wrap (start279 + r280))) (2 ^ min (Int.toNat 1) IntKind.u64.bits)))))) fun x283 =>
  Option.bind (idx l0 (IntKind.i64.wrap (Int.fdiv (IntKind.u64.wrap (IntKind.i64.wrap (start279 + r280))) (2 ^ min (Int.toNat 1) IntKind.u64.bits)))) fun x284 =>
  (bif (!(decide ((f37 x283 x284) < 0))) then (f79s_l5 l0 a1 m2 b3 k276 n (IntKind.i64.wrap ((IntKind.i64.wrap (Int.fdiv (IntKind.u64.wrap (IntKind.i64.wrap (start279 + r280))) (2 ^ min (Int.toNat 1) IntKind.u64.bits))) + 1)) r280) else (f79s_l5 l0 a1 m2 b3 k276 n start279 (IntKind.i64.wrap (Int.fdiv (IntKind.u64.wrap (IntKind.i64.wrap (start279 + r280))) (2 ^ min (Int.toNat 1) IntKind.u64.bits))))) else (k276 start279))
def f79s (rec79 : (List Due) → Int → Int → Int → Option (List Due)) (l0 : List Due) (a1 : Int) (m2 : Int) (b3 : Int) : Option (List Due) :=
  letk (fun (_ : Unit) =>
  letk (fun (_ : Unit) =>
  letk (fun (start272 : Int) (r273 : Int) =>
  letk (fun (start275 : Int) =>
  letk (fun (l285 : List Due) =>
  letk (fun (l288 : List Due) =>
  (bif ((decide ((IntKind.i64.wrap (Int.fdiv (IntKind.u64.wrap (IntKind.i64.wrap (a1 + b3))) (2 ^ min (Int.toNat 1) IntKind.u64.bits))) < (IntKind.i64.wrap ((IntKind.i64.wrap ((IntKind.i64.wrap (Int.fdiv (IntKind.u64.wrap (IntKind.i64.wrap (a1 + b3))) (2 ^ min (Int.toNat 1) IntKind.u64.bits))) + m2)) - start275)))) && (decide ((IntKind.i64.wrap ((IntKind.i64.wrap ((IntKind.i64.wrap (Int.fdiv (IntKind.u64.wrap (IntKind.i64.wrap (a1 + b3))) (2 ^ min (Int.toNat 1) IntKind.u64.bits))) + m2)) - start275)) < b3))) then Option.bind (rec79 l288 (IntKind.i64.wrap (Int.fdiv (IntKind.u64.wrap (IntKind.i64.wrap (a1 + b3))) (2 ^ min (Int.toNat 1) IntKind.u64.bits))) (IntKind.i64.wrap ((IntKind.i64.wrap ((IntKind.i64.wrap (Int.fdiv (IntKind.u64.wrap (IntKind.i64.wrap (a1 + b3))) (2 ^ min (Int.toNat 1) IntKind.u64.bits))) + m2)) - start275)) b3) fun r291 =>
  some r291 else some l288)) fun k289 =>
  (bif ((decide (a1 < start275)) && (decide (start275 < (IntKind.i64.wrap (Int.fdiv (IntKind.u64.wrap (IntKind.i64.wrap (a1 + b3))) (2 ^ min (Int.toNat 1) IntKind.u64.bits)))))) then Option.bind (rec79 l285 a1 start275 (IntKind.i64.wrap (Int.fdiv (IntKind.u64.wrap (IntKind.i64.wrap (a1 + b3))) (2 ^ min (Int.toNat 1) IntKind.u64.bits)))) fun r290 =>
  (k289 r290) else (k289 l285))) fun k286 =>
  (bif ((decide (start275 < m2)) && (decide (m2 < (IntKind.i64.wrap ((IntKind.i64.wrap ((IntKind.i64.wrap (Int.fdiv (IntKind.u64.wrap (IntKind.i64.wrap (a1 + b3))) (2 ^ min (Int.toNat 1) IntKind.u64.bits))) + m2)) - start275))))) then Option.bind (f83 l0 start275 m2 (IntKind.i64.wrap ((IntKind.i64.wrap ((IntKind.i64.wrap (Int.fdiv (IntKind.u64.wrap (IntKind.i64.wrap (a1 + b3))) (2 ^ min (Int.toNat 1) IntKind.u64.bits))) + m2)) - start275))) fun r287 =>
  (k286 r287) else (k286 l0))) fun k276 =>
  (f79s_l5 l0 a1 m2 b3 k276 9223372036854775808 start272 r273)) fun k274 =>
  (bif (decide (m2 > (IntKind.i64.wrap (Int.fdiv (IntKind.u64.wrap (IntKind.i64.wrap (a1 + b3))) (2 ^ min (Int.toNat 1) IntKind.u64.bits))))) then (k274 (IntKind.i64.wrap ((IntKind.i64.wrap ((IntKind.i64.wrap (Int.fdiv (IntKind.u64.wrap (IntKind.i64.wrap (a1 + b3))) (2 ^ min (Int.toNat 1) IntKind.u64.bits))) + m2)) - b3)) (IntKind.i64.wrap (Int.fdiv (IntKind.u64.wrap (IntKind.i64.wrap (a1 + b3))) (2 ^ min (Int.toNat 1) IntKind.u64.bits)))) else (k274 a1 m2))) fun k249 =>
  (bif (decide ((IntKind.i64.wrap (b3 - m2)) = 1)) then letk (fun (iq250 : Int) =>
  letk (fun (l260 : List Due) =>
  some l260) fun k261 =>
  (f79s_l4 iq250 k261 9223372036854775808 m2 l0)) fun k251 =>
  (f79s_l3 l0 m2 k251 9223372036854775808 a1 m2) else (k249 ()))) fun k226 =>
  (bif (decide ((IntKind.i64.wrap (m2 - a1)) = 1)) then letk (fun (iq227 : Int) =>
  letk (fun (l237 : List Due) =>
  some l237) fun k238 =>
  (f79s_l2 iq227 k238 9223372036854775808 a1 l0)) fun k228 =>
  (f79s_l1 l0 a1 k228 9223372036854775808 m2 b3) else (k226 ()))

/-- With fuel. -/
def f79 : Nat → (List Due) → Int → Int → Int → Option (List Due)
  | 0 => fun _ _ _ _ => none
  | n + 1 => f79s (f79 n)

def f68_l1 (n1 : Int) (k69 : Int → (List Due) → Option (List Due)) : Nat → Int → Int → (List Due) → Option (List Due)
  | 0, _, _, _ => none
  | n+1, a73, b74, l75 =>
  (bif (decide (b74 ≤ n1)) then Option.bind (f78 l75 a73 b74) fun r79 =>
  (f68_l1 n1 k69 n b74 (IntKind.i64.wrap (b74 + 20)) r79) else (k69 a73 l75))
def f68_l3 (n1 : Int) (blockSize83 : Int) (k89 : Int → (List Due) → Option (List Due)) : Nat → Int → Int → (List Due) → Option (List Due)
  | 0, _, _, _ => none
  | na+1, a93, b94, l95 =>
  (bif (decide (b94 ≤ n1)) then Option.bind (f79 64 l95 a93 (IntKind.i64.wrap (a93 + blockSize83)) b94) fun r99 =>
  (f68_l3 n1 blockSize83 k89 na b94 (IntKind.i64.wrap (b94 + (IntKind.i64.wrap (2 * blockSize83)))) r99) else (k89 a93 l95))
def f68_l2 (n1 : Int) : Nat → Int → (List Due) → Option (List Due)
  | 0, _, _ => none
  | n+1, blockSize83, l84 =>
  (bif (decide (blockSize83 < n1)) then letk (fun (a87 : Int) (l88 : List Due) =>
  letk (fun (l100 : List Due) =>
  (f68_l2 n1 n (IntKind.i64.wrap (blockSize83 * 2)) l100)) fun k101 =>
  (bif (decide ((IntKind.i64.wrap (a87 + blockSize83)) < n1)) then Option.bind (f79 64 l88 a87 (IntKind.i64.wrap (a87 + blockSize83)) n1) fun r102 =>
  (k101 r102) else (k101 l88))) fun k89 =>
  (f68_l3 n1 blockSize83 k89 9223372036854775808 0 (IntKind.i64.wrap (2 * blockSize83)) l84) else some l84)
def f68 (l0 : List Due) (n1 : Int) : Option (List Due) :=
  letk (fun (a67 : Int) (l68 : List Due) =>
  Option.bind (f78 l68 a67 n1) fun r80 =>
  (f68_l2 n1 9223372036854775808 20 r80)) fun k69 =>
  (f68_l1 n1 k69 9223372036854775808 0 20 l0)

def f36 (l0 : List Due) : Option (List Due) :=
  Option.bind (f68 l0 (List.length l0 : Int)) fun r12 =>
  some r12

def f17 (q0 : Queues) (time1 : Int) (task2 : Int) : Option (Queues × Int) :=
  Option.bind (f10 q0) fun r47 =>
  (bif ((((!r47) || (!(f30 task2))) || (decide (time1 < 0))) || (decide (time1 > 9007199254740992))) then some ((Queues.mk (fun _ => ([] : List Int)) [] 0), 2) else Option.bind (f35 q0 task2) fun r48 =>
  (bif r48 then some ((Queues.mk (fun _ => ([] : List Int)) [] 0), 7) else guardB (O.ownOk q0) <|
  guardB (appOk 16 q0.delays [(Due.mk time1 task2)]) <|
  Option.bind (f36 (q0.delays ++ [(Due.mk time1 task2)])) fun r52 =>
  some ((Queues.mk q0.ready r52 q0.run), 0)))

def f40 (d0 : Due) (cap1 : Int) : Bool :=
  (decide (d0.task = cap1))

def f18_l1 (task1 : Int) (r37 : List Due) (k44 : Int → Option (Queues × Int)) (k45 : Unit → Option (Queues × Int)) : Nat → Int → Option (Queues × Int)
  | 0, _ => none
  | n+1, t47 =>
  (bif (decide (t47 < (List.length r37 : Int))) then Option.bind (idx r37 t47) fun x49 =>
  letk (fun (_ : Unit) =>
  (bif (decide (x49.task = task1)) then (k44 t47) else (f18_l1 task1 r37 k44 k45 n (IntKind.i64.wrap (t47 + 1))))) fun k51 =>
  (k51 ()) else (k45 ()))
def f18_l2 (task1 : Int) (k54 : Int → (List Due) → Option (Queues × Int)) : Nat → Int → Int → (List Due) → Option (Queues × Int)
  | 0, _, _, _ => none
  | n+1, iq58, j59, l60 =>
  (bif (decide (j59 < (List.length l60 : Int))) then letk (fun (iq64 : Int) (l65 : List Due) (c3066 : Int) (c3167 : Int) =>
  (f18_l2 task1 k54 n iq64 (IntKind.i64.wrap (j59 + 1)) l65)) fun k68 =>
  Option.bind (idx l60 j59) fun x69 =>
  letk (fun (_ : Unit) =>
  (bif (!(decide (x69.task = task1))) then Option.bind (idx l60 iq58) fun x72 =>
  (k68 (IntKind.i64.wrap (iq58 + 1)) (List.set l60 (Int.toNat iq58) x69) x69.time x69.task) else (k68 iq58 l60 x69.time x69.task))) fun k71 =>
  (k71 ()) else (k54 iq58 l60))
def f18 (q0 : Queues) (task1 : Int) : Option (Queues × Int) :=
  Option.bind (f10 q0) fun r31 =>
  (bif ((!r31) || (!(f30 task1))) then some ((Queues.mk (fun _ => ([] : List Int)) [] 0), 2) else Option.bind (f35 q0 task1) fun r32 =>
  (bif (!r32) then some ((Queues.mk (fun _ => ([] : List Int)) [] 0), 6) else Option.bind (O.f32 q0) fun r33 =>
  letk (fun (t35 : List Due) =>
  some ((Queues.mk r33.ready t35 r33.run), 0)) fun k36 =>
  Option.bind (O.f61o r33.delays) fun r37 =>
  letk (fun (t40 : List Due) =>
  (k36 t40)) fun k41 =>
  letk (fun (t43 : Int) =>
  (bif (decide (t43 = (-1))) then (k41 r37) else letk (fun (iq52 : Int) (l53 : List Due) =>
  guardB (sliceOk l53 iq52 (List.length l53 : Int)) <|
  guardB (pieceOk l53 (Int.toNat iq52) (Int.toNat (List.length l53 : Int) - Int.toNat iq52)) <|
  guardB (sliceOk (clearF l53 (Int.toNat iq52) (Int.toNat (List.length l53 : Int) - Int.toNat iq52) ((Due.mk 0 0) : Due)) 0 iq52) <|
  (k41 (sliceF (clearF l53 (Int.toNat iq52) (Int.toNat (List.length l53 : Int) - Int.toNat iq52) ((Due.mk 0 0) : Due)) 0 iq52))) fun k54 =>
  (f18_l2 task1 k54 9223372036854775808 t43 (IntKind.i64.wrap (t43 + 1)) r37))) fun k44 =>
  letk (fun (_ : Unit) =>
  (k44 (-1))) fun k45 =>
  (f18_l1 task1 r37 k44 k45 (Int.toNat ((List.length r37 : Int) - 0) + 1) 0)))

def f19_l1 (now1 : Int) (r52 : Queues) (k56 : Int → (List Int) → Option (Queues × (List Int) × Int)) : Nat → Int → (List Int) → Option (Queues × (List Int) × Int)
  | 0, _, _ => none
  | n+1, n60, l61 =>
  Option.bind (bif (decide (n60 < (List.length r52.delays : Int))) then (Option.bind (idx r52.delays n60) fun x67 => some (decide (x67.time ≤ now1))) else some false) fun b66 =>
  (bif b66 then Option.bind (idx r52.delays n60) fun x68 =>
  guardB (appOk 8 l61 [x68.task]) <|
  (f19_l1 now1 r52 k56 n (IntKind.i64.wrap (n60 + 1)) (l61 ++ [x68.task])) else (k56 n60 l61))
def f19 (q0 : Queues) (now1 : Int) : Option (Queues × (List Int) × Int) :=
  Option.bind (f10 q0) fun r51 =>
  (bif (!r51) then some ((Queues.mk (fun _ => ([] : List Int)) [] 0), [], 2) else Option.bind (O.f32 q0) fun r52 =>
  letk (fun (n53 : Int) (l54 : List Int) =>
  guardB (sliceOk r52.delays n53 (List.length r52.delays : Int)) <|
  some ((Queues.mk r52.ready (sliceF r52.delays n53 (List.length r52.delays : Int)) r52.run), l54, 0)) fun k56 =>
  (f19_l1 now1 r52 k56 9223372036854775808 0 []))

def f20 (q0 : Queues) : Option (Int × Bool) :=
  Option.bind (f10 q0) fun r20 =>
  (bif ((!r20) || (decide ((List.length q0.delays : Int) = 0))) then some (0, false) else Option.bind (idx q0.delays 0) fun x21 =>
  some (x21.time, true))

def f80_l1 (s0 : List Int) (v1 : Int) (k22 : Unit → Option (Int)) : Nat → Int → Option (Int)
  | 0, _ => none
  | n+1, t24 =>
  (bif (decide (t24 < (List.length s0 : Int))) then Option.bind (idx s0 t24) fun x26 =>
  (bif (decide (v1 = x26)) then some t24 else (f80_l1 s0 v1 k22 n (IntKind.i64.wrap (t24 + 1)))) else (k22 ()))
def f80 (s0 : List Int) (v1 : Int) : Option Int :=
  letk (fun (_ : Unit) =>
  some (-1)) fun k22 =>
  (f80_l1 s0 v1 k22 (Int.toNat ((List.length s0 : Int) - 0) + 1) 0)

def f71 (s0 : List Int) (v1 : Int) : Option Bool :=
  Option.bind (f80 s0 v1) fun r12 =>
  some (decide (r12 ≥ 0))

def f43_l1 (q0 : Queues) (task1 : Int) (k30 : Int → Option (Int × Bool)) (k31 : Unit → Option (Int × Bool)) : Nat → Int → Option (Int × Bool)
  | 0, _ => none
  | n+1, iq33 =>
  (bif (decide (iq33 ≥ 0)) then Option.bind (idx (List.map q0.ready (List.range 32)) iq33) fun x35 =>
  letk (fun (_ : Unit) =>
  (k30 iq33)) fun k37 =>
  letk (fun (_ : Unit) =>
  (f43_l1 q0 task1 k30 k31 n (IntKind.i64.wrap (iq33 - 1)))) fun k38 =>
  (bif (decide ((List.length x35 : Int) > 0)) then letk (fun (_ : Unit) =>
  (k37 ())) fun k40 =>
  letk (fun (_ : Unit) =>
  (k38 ())) fun k41 =>
  Option.bind (f71 x35 task1) fun r42 =>
  (bif r42 then (k40 ()) else (k41 ())) else (k38 ())) else (k31 ()))
def f43 (q0 : Queues) (task1 : Int) : Option (Int × Bool) :=
  letk (fun (_ : Unit) =>
  some (0, false)) fun k19 =>
  letk (fun (_ : Unit) =>
  letk (fun (c0023 : Int) =>
  some (c0023, true)) fun k24 =>
  letk (fun (_ : Unit) =>
  (k19 ())) fun k25 =>
  letk (fun (_ : Unit) =>
  letk (fun (c0029 : Int) =>
  (k24 c0029)) fun k30 =>
  letk (fun (_ : Unit) =>
  (k25 ())) fun k31 =>
  (f43_l1 q0 task1 k30 k31 (Int.toNat ((IntKind.i64.wrap ((List.length (List.map q0.ready (List.range 32)) : Int) - 1)) + 1) + 1) (IntKind.i64.wrap ((List.length (List.map q0.ready (List.range 32)) : Int) - 1)))) fun k27 =>
  (k27 ())) fun k21 =>
  (k21 ())

def f21 (q0 : Queues) (prio1 : Int) (task2 : Int) : Option (Queues × Int) :=
  letk (fun (t20 : Int) =>
  some ((Queues.mk (fun _ => ([] : List Int)) [] 0), t20)) fun k21 =>
  letk (fun (_ : Unit) =>
  some ((Queues.mk (vset q0.ready (Int.toNat prio1) ((q0.ready (Int.toNat prio1)) ++ [task2])) q0.delays q0.run), 0)) fun k22 =>
  Option.bind (f10 q0) fun r23 =>
  (bif (((!r23) || (!(f30 prio1))) || (!(f30 task2))) then (k21 2) else Option.bind (f43 q0 task2) fun r24 =>
  (bif (r24.2 || (decide (q0.run = task2))) then (k21 7) else guardB (vecOk 32 prio1) <|
  guardB (O.ownOk q0) <|
  guardB (vecOk 32 prio1) <|
  letk (fun (_ : Unit) =>
  guardB (vecOk 32 prio1) <|
  (k22 ())) fun k30 =>
  guardB (appOk 8 (q0.ready (Int.toNat prio1)) [task2]) <|
  (k30 ())))

def f28 (q0 : Queues) (prio1 : Int) (task2 : Int) : Option (Queues × Int) :=
  letk (fun (t20 : Int) =>
  some ((Queues.mk (fun _ => ([] : List Int)) [] 0), t20)) fun k21 =>
  letk (fun (_ : Unit) =>
  some ((Queues.mk (vset q0.ready (Int.toNat prio1) (task2 :: (q0.ready (Int.toNat prio1)))) q0.delays q0.run), 0)) fun k22 =>
  Option.bind (f10 q0) fun r23 =>
  (bif (((!r23) || (!(f30 prio1))) || (!(f30 task2))) then (k21 2) else Option.bind (f43 q0 task2) fun r24 =>
  (bif (r24.2 || (decide (q0.run = task2))) then (k21 7) else guardB (vecOk 32 prio1) <|
  guardB (O.ownOk q0) <|
  guardB (vecOk 32 prio1) <|
  letk (fun (_ : Unit) =>
  guardB (vecOk 32 prio1) <|
  (k22 ())) fun k30 =>
  guardB (O.insOk (q0.ready (Int.toNat prio1))) <|
  (k30 ())))

def f31_l1 (a0 : List Int) (b1 : List Int) (k29 : Unit → Option (Bool)) : Nat → Int → Option (Bool)
  | 0, _ => none
  | n+1, iq31 =>
  (bif (decide (iq31 < (List.length a0 : Int))) then Option.bind (idx a0 iq31) fun x33 =>
  Option.bind (idx b1 iq31) fun x34 =>
  (bif (!decide (x33 = x34)) then some false else (f31_l1 a0 b1 k29 n (IntKind.i64.wrap (iq31 + 1)))) else (k29 ()))
def f31 (a0 : List Int) (b1 : List Int) : Option Bool :=
  (bif (!decide ((List.length a0 : Int) = (List.length b1 : Int))) then some false else letk (fun (_ : Unit) =>
  some true) fun k29 =>
  (f31_l1 a0 b1 k29 9223372036854775808 0))

def f11  : Option Bool :=
  Option.bind (f21 f16 3 5) fun r168 =>
  Option.bind (f21 r168.1 3 6) fun r169 =>
  Option.bind (f28 r169.1 3 7) fun r170 =>
  Option.bind (f14 r170.1) fun r171 =>
  Option.bind (f12 r170.1 0) fun r172 =>
  Option.bind (f21 r172.1 4 1) fun r173 =>
  Option.bind (f12 r173.1 3) fun r174 =>
  Option.bind (bif ((decide (r174.1.run = 1)) && (decide ((List.length (r174.1.ready (Int.toNat 3)) : Int) = 3))) then (Option.bind (idx (r174.1.ready (Int.toNat 3)) 0) fun x176 => some (decide (x176 = 7))) else some false) fun b175 =>
  Option.bind (f21 r174.1 3 1) fun r177 =>
  Option.bind (f18 r174.1 1) fun r178 =>
  Option.bind (f17 r174.1 10 1) fun r179 =>
  Option.bind (f17 r179.1 5 2) fun r180 =>
  Option.bind (f20 r180.1) fun r181 =>
  Option.bind (f19 r180.1 10) fun r182 =>
  Option.bind (bif (((((((((((decide (r172.1.run = 7)) && b175) && (decide (r171.1 = 7))) && (decide (r171.2.1 = 3))) && r171.2.2) && ((decide (r168.2 = 0)) && ((decide (r169.2 = 0)) && ((decide (r170.2 = 0)) && ((decide (r172.2 = 0)) && ((decide (r173.2 = 0)) && ((decide (r174.2 = 0)) && ((decide (r179.2 = 0)) && ((decide (r180.2 = 0)) && true))))))))) && (decide (r177.2 = 7))) && (decide (r178.2 = 6))) && (decide (r181.1 = 5))) && r181.2) && (decide (r182.2.2 = 0))) then (Option.bind (f31 r182.2.1 [2, 1]) fun r184 => some r184) else some false) fun b183 =>
  Option.bind (bif (b183 && (decide ((List.length r182.1.delays : Int) = 0))) then (Option.bind (f10 r182.1) fun r186 => some r186) else some false) fun b185 =>
  some b185

def f13_l2 (q0 : Queues) (task1 : Int) (p35 : Int) (k37 : Unit → Option (Int)) : Nat → Int → Option (Int)
  | 0, _ => none
  | na+1, iq39 =>
  guardB (vecOk 32 p35) <|
  (bif (decide (iq39 < (List.length (q0.ready (Int.toNat p35)) : Int))) then guardB (vecOk 32 p35) <|
  Option.bind (idx (q0.ready (Int.toNat p35)) iq39) fun x43 =>
  (bif (decide (x43 = task1)) then some p35 else (f13_l2 q0 task1 p35 k37 na (IntKind.i64.wrap (iq39 + 1)))) else (k37 ()))
def f13_l1 (q0 : Queues) (task1 : Int) (k33 : Unit → Option (Int)) : Nat → Int → Option (Int)
  | 0, _ => none
  | n+1, p35 =>
  (bif (decide (p35 < 32)) then letk (fun (_ : Unit) =>
  (f13_l1 q0 task1 k33 n (IntKind.i64.wrap (p35 + 1)))) fun k37 =>
  (f13_l2 q0 task1 p35 k37 9223372036854775808 0) else (k33 ()))
def f13 (q0 : Queues) (task1 : Int) : Option Int :=
  letk (fun (_ : Unit) =>
  some (-1)) fun k33 =>
  (f13_l1 q0 task1 k33 9223372036854775808 0)

def f15_l1 (a0 : Queues) (b1 : Queues) (k56 : Unit → Option (Bool)) : Nat → Int → Option (Bool)
  | 0, _ => none
  | n+1, iq58 =>
  (bif (decide (iq58 < (List.length a0.delays : Int))) then Option.bind (idx a0.delays iq58) fun x60 =>
  Option.bind (idx b1.delays iq58) fun x61 =>
  (bif (!((decide (x60.time = x61.time)) && ((decide (x60.task = x61.task)) && true))) then some false else (f15_l1 a0 b1 k56 n (IntKind.i64.wrap (iq58 + 1)))) else (k56 ()))
def f15_l2 (a0 : Queues) (b1 : Queues) (k62 : Unit → Option (Bool)) : Nat → Int → Option (Bool)
  | 0, _ => none
  | n+1, p64 =>
  (bif (decide (p64 < 32)) then guardB (vecOk 32 p64) <|
  guardB (vecOk 32 p64) <|
  Option.bind (f31 (a0.ready (Int.toNat p64)) (b1.ready (Int.toNat p64))) fun r68 =>
  (bif (!r68) then some false else (f15_l2 a0 b1 k62 n (IntKind.i64.wrap (p64 + 1)))) else (k62 ()))
def f15 (a0 : Queues) (b1 : Queues) : Option Bool :=
  (bif ((!decide (a0.run = b1.run)) || (!decide ((List.length a0.delays : Int) = (List.length b1.delays : Int)))) then some false else letk (fun (_ : Unit) =>
  letk (fun (_ : Unit) =>
  some true) fun k62 =>
  (f15_l2 a0 b1 k62 9223372036854775808 0)) fun k56 =>
  (f15_l1 a0 b1 k56 9223372036854775808 0))

def f3 (q0 : Queues) (prio1 : Int) : Option Bool :=
  Option.bind (f9 q0) fun r123 =>
  Option.bind (bif r123 then some true else (Option.bind (f10 q0) fun r125 => some (!r125))) fun b124 =>
  (bif ((b124 || (decide (prio1 < 0))) || (decide (prio1 > 31))) then Option.bind (f11) fun r126 =>
  some r126 else Option.bind (f12 q0 prio1) fun r127 =>
  (bif (!decide (r127.2 = 0)) then some false else letk (fun (own128 : Int) =>
  Option.bind (f14 r127.1) fun r137 =>
  (bif (r137.2.2 && ((decide (r127.1.run < 0)) || (decide (r137.2.1 > own128)))) then some false else (bif (decide (r127.1.run < 0)) then Option.bind (bif (decide (q0.run < 0)) then (Option.bind (f11) fun r139 => some r139) else some false) fun b138 =>
  some b138 else Option.bind (f12 r127.1 own128) fun r140 =>
  Option.bind (bif (decide (r140.2 = 0)) then (Option.bind (f15 r127.1 r140.1) fun r142 => some r142) else some false) fun b141 =>
  Option.bind (bif b141 then (Option.bind (f11) fun r144 => some r144) else some false) fun b143 =>
  some b143))) fun k129 =>
  (bif (!decide (r127.1.run = q0.run)) then Option.bind (f13 q0 r127.1.run) fun r130 =>
  Option.bind (bif (decide (r130 < 0)) then some true else (Option.bind (bif (decide (q0.run ≥ 0)) then (guardB (vecOk 32 prio1) <| Option.bind (bif (decide ((List.length (r127.1.ready (Int.toNat prio1)) : Int) = 0)) then some true else (guardB (vecOk 32 prio1) <| Option.bind (idx (r127.1.ready (Int.toNat prio1)) 0) fun x136 => some (!decide (x136 = q0.run)))) fun b134 => some (b134 || (decide (r130 ≤ prio1)))) else some false) fun b132 => some b132)) fun b131 =>
  (bif b131 then some false else (k129 r130)) else (k129 prio1))))

def f4_l1 (times0 : List Int) (k222 : (Nat → (List Int)) → (List Due) → Int → Option (Bool)) : Nat → Int → (Nat → (List Int)) → (List Due) → Int → Option (Bool)
  | 0, _, _, _, _ => none
  | n+1, iq227, c00228, c032229, c033230 =>
  (bif (decide (iq227 < (List.length times0 : Int))) then Option.bind (idx times0 iq227) fun x235 =>
  Option.bind (f17 (Queues.mk c00228 c032229 c033230) (IntKind.i64.wrap x235) iq227) fun r236 =>
  (bif (!decide (r236.2 = 0)) then some false else (f4_l1 times0 k222 n (IntKind.i64.wrap (iq227 + 1)) r236.1.ready r236.1.delays r236.1.run)) else (k222 c00228 c032229 c033230))
def f4_l2 (times0 : List Int) (cancelled1 : Int) (k241 : Int → (Nat → (List Int)) → (List Due) → Int → Option (Bool)) : Nat → Int → Int → (Nat → (List Int)) → (List Due) → Int → Option (Bool)
  | 0, _, _, _, _, _ => none
  | n+1, left247, iq248, c00249, c032250, c033251 =>
  (bif (decide (iq248 < (List.length times0 : Int))) then letk (fun (left257 : Int) (c00258 : Nat → (List Int)) (c032259 : List Due) (c033260 : Int) =>
  (f4_l2 times0 cancelled1 k241 n left257 (IntKind.i64.wrap (iq248 + 1)) c00258 c032259 c033260)) fun k261 =>
  guardB (shc (IntKind.u64.wrap iq248)) <|
  (bif (decide ((IntKind.u32.wrap (BitVec.ofInt IntKind.u32.bits (Int.fdiv cancelled1 (2 ^ min (Int.toNat (IntKind.u64.wrap iq248)) IntKind.u32.bits)) &&& BitVec.ofInt IntKind.u32.bits 1).toNat) = 1)) then Option.bind (f18 (Queues.mk c00249 c032250 c033251) iq248) fun r263 =>
  (bif (!decide (r263.2 = 0)) then some false else (k261 (IntKind.i64.wrap (left247 - 1)) r263.1.ready r263.1.delays r263.1.run)) else (k261 left247 c00249 c032250 c033251)) else (k241 left247 c00249 c032250 c033251))
def f4_l4 (times0 : List Int) (cancelled1 : Int) (now278 : Int) (iq281 : Int) (now304 : Int) (r307 : Queues × (List Int) × Int) (k310 : Int → Int → Option (Bool)) : Nat → Int → Int → Int → Option (Bool)
  | 0, _, _, _ => none
  | na+1, before314, seen315, k316 =>
  (bif (decide (k316 < (List.length r307.2.1 : Int))) then Option.bind (idx r307.2.1 k316) fun x320 =>
  Option.bind (bif (decide (x320 < 0)) then some true else (Option.bind (idx r307.2.1 k316) fun x322 => some (decide (x322 ≥ (List.length times0 : Int))))) fun b321 =>
  Option.bind (bif b321 then some true else (Option.bind (idx r307.2.1 k316) fun x324 => guardB (shc (IntKind.u64.wrap x324)) <| some (decide ((IntKind.u32.wrap (BitVec.ofInt IntKind.u32.bits (Int.fdiv cancelled1 (2 ^ min (Int.toNat (IntKind.u64.wrap x324)) IntKind.u32.bits)) &&& BitVec.ofInt IntKind.u32.bits 1).toNat) = 1)))) fun b323 =>
  (bif b323 then some false else Option.bind (idx r307.2.1 k316) fun x326 =>
  Option.bind (idx times0 x326) fun x327 =>
  Option.bind (bif (((decide ((IntKind.i64.wrap x327) > now304)) || ((decide (iq281 > 0)) && (decide ((IntKind.i64.wrap x327) ≤ now278)))) || (decide ((IntKind.i64.wrap x327) < before314))) then some true else (Option.bind (bif (decide ((IntKind.i64.wrap x327) = before314)) then (Option.bind (idx r307.2.1 k316) fun x330 => some (decide (x330 < seen315))) else some false) fun b329 => some b329)) fun b328 =>
  (bif b328 then some false else Option.bind (idx r307.2.1 k316) fun x331 =>
  (f4_l4 times0 cancelled1 now278 iq281 now304 r307 k310 na (IntKind.i64.wrap x327) x331 (IntKind.i64.wrap (k316 + 1))))) else (k310 before314 seen315))
def f4_l3 (times0 : List Int) (cancelled1 : Int) (steps2 : List Int) (k268 : Int → (Nat → (List Int)) → (List Due) → Int → Option (Bool)) : Nat → Int → Int → Int → Int → Int → (Nat → (List Int)) → (List Due) → Int → Option (Bool)
  | 0, _, _, _, _, _, _, _, _ => none
  | n+1, left277, now278, before279, seen280, iq281, c00282, c032283, c033284 =>
  (bif (decide (iq281 ≤ (List.length steps2 : Int))) then letk (fun (left293 : Int) (now294 : Int) (before295 : Int) (seen296 : Int) (c00297 : Nat → (List Int)) (c032298 : List Due) (c033299 : Int) (c10300 : Nat → (List Int)) (c132301 : List Due) (c133302 : Int) =>
  (f4_l3 times0 cancelled1 steps2 k268 n left293 now294 before295 seen296 (IntKind.i64.wrap (iq281 + 1)) c00297 c032298 c033299)) fun k303 =>
  letk (fun (now304 : Int) =>
  Option.bind (f19 (Queues.mk c00282 c032283 c033284) now304) fun r307 =>
  (bif ((!decide (r307.2.2 = 0)) || (!decide ((IntKind.i64.wrap ((List.length r307.1.delays : Int) + (List.length r307.2.1 : Int))) = left277))) then some false else letk (fun (before308 : Int) (seen309 : Int) =>
  Option.bind (f20 r307.1) fun r332 =>
  (bif ((!(r332.2 == (decide ((List.length r307.1.delays : Int) > 0)))) || (r332.2 && (decide (r332.1 ≤ now304)))) then some false else (k303 (List.length r307.1.delays : Int) now304 before308 seen309 r307.1.ready r307.1.delays r307.1.run r307.1.ready r307.1.delays r307.1.run))) fun k310 =>
  (f4_l4 times0 cancelled1 now278 iq281 now304 r307 k310 9223372036854775808 before279 seen280 0))) fun k305 =>
  (bif (decide (iq281 < (List.length steps2 : Int))) then Option.bind (idx steps2 iq281) fun x306 =>
  (k305 (IntKind.i64.wrap (now278 + (IntKind.i64.wrap x306)))) else (k305 1048576)) else (k268 left277 c00282 c032283 c033284))
def f4 (times0 : List Int) (cancelled1 : Int) (steps2 : List Int) : Option Bool :=
  (bif ((decide ((List.length times0 : Int) > 32)) || (decide ((List.length steps2 : Int) > 100))) then Option.bind (f11) fun r218 =>
  some r218 else letk (fun (c00219 : Nat → (List Int)) (c032220 : List Due) (c033221 : Int) =>
  letk (fun (left237 : Int) (c00238 : Nat → (List Int)) (c032239 : List Due) (c033240 : Int) =>
  letk (fun (left264 : Int) (c00265 : Nat → (List Int)) (c032266 : List Due) (c033267 : Int) =>
  Option.bind (bif (decide (left264 = 0)) then (Option.bind (f11) fun r334 => some r334) else some false) fun b333 =>
  some b333) fun k268 =>
  (f4_l3 times0 cancelled1 steps2 k268 9223372036854775808 left237 0 (-1) (-1) 0 c00238 c032239 c033240)) fun k241 =>
  (f4_l2 times0 cancelled1 k241 9223372036854775808 (List.length times0 : Int) 0 c00219 c032220 c033221)) fun k222 =>
  (f4_l1 times0 k222 9223372036854775808 0 f16.ready f16.delays f16.run))

def f81_l1 (s0 : List Int) (cb1 : Int → Option (Bool)) (k22 : Unit → Option (Int)) : Nat → Int → Option (Int)
  | 0, _ => none
  | n+1, t24 =>
  (bif (decide (t24 < (List.length s0 : Int))) then Option.bind (idx s0 t24) fun x26 =>
  Option.bind (cb1 x26) fun r27 =>
  (bif r27 then some t24 else (f81_l1 s0 cb1 k22 n (IntKind.i64.wrap (t24 + 1)))) else (k22 ()))
def f81 (s0 : List Int) (cb1 : Int → Option (Bool)) : Option Int :=
  letk (fun (_ : Unit) =>
  some (-1)) fun k22 =>
  (f81_l1 s0 cb1 k22 (Int.toNat ((List.length s0 : Int) - 0) + 1) 0)

def f45 (t0 : Int) (cap1 : Int) : Bool :=
  (decide (t0 = cap1))

def f22_l1 (task1 : Int) (r57 : List Int) (k64 : Int → Option (Queues × Int)) (k65 : Unit → Option (Queues × Int)) : Nat → Int → Option (Queues × Int)
  | 0, _ => none
  | n+1, t67 =>
  (bif (decide (t67 < (List.length r57 : Int))) then Option.bind (idx r57 t67) fun x69 =>
  letk (fun (_ : Unit) =>
  (bif (decide (x69 = task1)) then (k64 t67) else (f22_l1 task1 r57 k64 k65 n (IntKind.i64.wrap (t67 + 1))))) fun k71 =>
  (k71 ()) else (k65 ()))
def f22_l2 (task1 : Int) (k74 : Int → (List Int) → Option (Queues × Int)) : Nat → Int → Int → (List Int) → Option (Queues × Int)
  | 0, _, _, _ => none
  | n+1, iq78, j79, l80 =>
  (bif (decide (j79 < (List.length l80 : Int))) then letk (fun (iq84 : Int) (l85 : List Int) =>
  (f22_l2 task1 k74 n iq84 (IntKind.i64.wrap (j79 + 1)) l85)) fun k86 =>
  Option.bind (idx l80 j79) fun x87 =>
  letk (fun (_ : Unit) =>
  (bif (!(decide (x87 = task1))) then Option.bind (idx l80 iq78) fun x90 =>
  (k86 (IntKind.i64.wrap (iq78 + 1)) (List.set l80 (Int.toNat iq78) x87)) else (k86 iq78 l80))) fun k89 =>
  (k89 ()) else (k74 iq78 l80))
def f22 (q0 : Queues) (task1 : Int) : Option (Queues × Int) :=
  Option.bind (f10 q0) fun r47 =>
  (bif ((!r47) || (!(f30 task1))) then some ((Queues.mk (fun _ => ([] : List Int)) [] 0), 2) else Option.bind (f43 q0 task1) fun r48 =>
  Option.bind (O.f32 q0) fun r49 =>
  letk (fun (c0050 : Nat → (List Int)) (c03351 : Int) =>
  some ((Queues.mk c0050 r49.delays c03351), 0)) fun k52 =>
  (bif r48.2 then guardB (vecOk 32 r48.1) <|
  letk (fun (t55 : List Int) =>
  guardB (vecOk 32 r48.1) <|
  (k52 (vset r49.ready (Int.toNat r48.1) t55) r49.run)) fun k56 =>
  Option.bind (O.f60o (r49.ready (Int.toNat r48.1))) fun r57 =>
  letk (fun (t60 : List Int) =>
  (k56 t60)) fun k61 =>
  letk (fun (t63 : Int) =>
  (bif (decide (t63 = (-1))) then (k61 r57) else letk (fun (iq72 : Int) (l73 : List Int) =>
  guardB (sliceOk l73 iq72 (List.length l73 : Int)) <|
  guardB (pieceOk l73 (Int.toNat iq72) (Int.toNat (List.length l73 : Int) - Int.toNat iq72)) <|
  guardB (sliceOk (clearF l73 (Int.toNat iq72) (Int.toNat (List.length l73 : Int) - Int.toNat iq72) (0 : Int)) 0 iq72) <|
  (k61 (sliceF (clearF l73 (Int.toNat iq72) (Int.toNat (List.length l73 : Int) - Int.toNat iq72) (0 : Int)) 0 iq72))) fun k74 =>
  (f22_l2 task1 k74 9223372036854775808 t63 (IntKind.i64.wrap (t63 + 1)) r57))) fun k64 =>
  letk (fun (_ : Unit) =>
  (k64 (-1))) fun k65 =>
  (f22_l1 task1 r57 k64 k65 (Int.toNat ((List.length r57 : Int) - 0) + 1) 0) else (bif (decide (r49.run = task1)) then (k52 r49.ready (-1)) else some ((Queues.mk (fun _ => ([] : List Int)) [] 0), 6))))

def f5_l1 (prios0 : List Int) (k117 : (Nat → (List Int)) → (List Due) → Int → Option (Bool)) : Nat → Int → (Nat → (List Int)) → (List Due) → Int → Option (Bool)
  | 0, _, _, _, _ => none
  | n+1, iq122, c00123, c032124, c033125 =>
  (bif (decide (iq122 < (List.length prios0 : Int))) then Option.bind (idx prios0 iq122) fun x130 =>
  Option.bind (f21 (Queues.mk c00123 c032124 c033125) (IntKind.i64.wrap (IntKind.u8.wrap (BitVec.ofInt IntKind.u8.bits x130 &&& BitVec.ofInt IntKind.u8.bits 31).toNat)) iq122) fun r131 =>
  (bif (!decide (r131.2 = 0)) then some false else (f5_l1 prios0 k117 n (IntKind.i64.wrap (iq122 + 1)) r131.1.ready r131.1.delays r131.1.run)) else (k117 c00123 c032124 c033125))
def f5_l2 (prios0 : List Int) (k135 : (Nat → (List Int)) → (List Due) → Int → Option (Bool)) : Nat → Int → Int → Int → (Nat → (List Int)) → (List Due) → Int → Option (Bool)
  | 0, _, _, _, _, _, _ => none
  | n+1, last142, seen143, iq144, c00145, c032146, c033147 =>
  (bif (decide (iq144 < (List.length prios0 : Int))) then Option.bind (f12 (Queues.mk c00145 c032146 c033147) 0) fun r154 =>
  (bif (((!decide (r154.2 = 0)) || (decide (r154.1.run < 0))) || (decide (r154.1.run ≥ (List.length prios0 : Int)))) then some false else Option.bind (idx prios0 r154.1.run) fun x155 =>
  (bif ((decide ((IntKind.i64.wrap (IntKind.u8.wrap (BitVec.ofInt IntKind.u8.bits x155 &&& BitVec.ofInt IntKind.u8.bits 31).toNat)) > last142)) || ((decide ((IntKind.i64.wrap (IntKind.u8.wrap (BitVec.ofInt IntKind.u8.bits x155 &&& BitVec.ofInt IntKind.u8.bits 31).toNat)) = last142)) && (decide (r154.1.run < seen143)))) then some false else Option.bind (f22 r154.1 r154.1.run) fun r156 =>
  (bif (!decide (r156.2 = 0)) then some false else (f5_l2 prios0 k135 n (IntKind.i64.wrap (IntKind.u8.wrap (BitVec.ofInt IntKind.u8.bits x155 &&& BitVec.ofInt IntKind.u8.bits 31).toNat)) r154.1.run (IntKind.i64.wrap (iq144 + 1)) r156.1.ready r156.1.delays r156.1.run)))) else (k135 c00145 c032146 c033147))
def f5 (prios0 : List Int) : Option Bool :=
  (bif (decide ((List.length prios0 : Int) > 32)) then Option.bind (f11) fun r113 =>
  some r113 else letk (fun (c00114 : Nat → (List Int)) (c032115 : List Due) (c033116 : Int) =>
  letk (fun (c00132 : Nat → (List Int)) (c032133 : List Due) (c033134 : Int) =>
  Option.bind (f14 (Queues.mk c00132 c032133 c033134)) fun r157 =>
  Option.bind (bif (!r157.2.2) then (Option.bind (f11) fun r159 => some r159) else some false) fun b158 =>
  some b158) fun k135 =>
  (f5_l2 prios0 k135 9223372036854775808 31 (-1) 0 c00114 c032115 c033116)) fun k117 =>
  (f5_l1 prios0 k117 9223372036854775808 0 f16.ready f16.delays f16.run))

def f29 (q0 : Queues) (prio1 : Int) (task2 : Int) : Option (Queues × Int) :=
  Option.bind (f10 q0) fun r49 =>
  (bif (((!r49) || (!(f30 prio1))) || (!(f30 task2))) then some ((Queues.mk (fun _ => ([] : List Int)) [] 0), 2) else Option.bind (f43 q0 task2) fun r50 =>
  (bif (!r50.2) then some ((Queues.mk (fun _ => ([] : List Int)) [] 0), 6) else Option.bind (f22 q0 task2) fun r51 =>
  Option.bind (f21 r51.1 prio1 task2) fun r52 =>
  some (r52.1, r52.2)))

def f57_l2 (q0 : Queues) (task1 : Int) (p49 : Int) (k53 : Int → Option (Int)) : Nat → Int → Int → Option (Int)
  | 0, _, _ => none
  | na+1, n56, iq57 =>
  guardB (vecOk 32 p49) <|
  (bif (decide (iq57 < (List.length (q0.ready (Int.toNat p49)) : Int))) then letk (fun (n61 : Int) =>
  (f57_l2 q0 task1 p49 k53 na n61 (IntKind.i64.wrap (iq57 + 1)))) fun k62 =>
  guardB (vecOk 32 p49) <|
  Option.bind (idx (q0.ready (Int.toNat p49)) iq57) fun x64 =>
  (bif (decide (x64 = task1)) then (k62 (IntKind.i64.wrap (n56 + 1))) else (k62 n56)) else (k53 n56))
def f57_l1 (q0 : Queues) (task1 : Int) (k45 : Int → Option (Int)) : Nat → Int → Int → Option (Int)
  | 0, _, _ => none
  | n+1, n48, p49 =>
  (bif (decide (p49 < 32)) then letk (fun (n52 : Int) =>
  (f57_l1 q0 task1 k45 n n52 (IntKind.i64.wrap (p49 + 1)))) fun k53 =>
  (f57_l2 q0 task1 p49 k53 9223372036854775808 n48 0) else (k45 n48))
def f57 (q0 : Queues) (task1 : Int) : Option Int :=
  letk (fun (n42 : Int) =>
  letk (fun (n44 : Int) =>
  some n44) fun k45 =>
  (f57_l1 q0 task1 k45 9223372036854775808 n42 0)) fun k43 =>
  (bif (decide (q0.run = task1)) then (k43 (IntKind.i64.wrap (0 + 1))) else (k43 0))

def f56 (n0 : Int) : Bool :=
  ((decide (n0 ≥ 0)) && (decide (n0 ≤ 31)))

def f58_l1 (q0 : Queues) (task1 : Int) (k29 : Int → Option (Int)) : Nat → Int → Int → Option (Int)
  | 0, _, _ => none
  | n+1, n32, iq33 =>
  (bif (decide (iq33 < (List.length q0.delays : Int))) then letk (fun (n36 : Int) =>
  (f58_l1 q0 task1 k29 n n36 (IntKind.i64.wrap (iq33 + 1)))) fun k37 =>
  Option.bind (idx q0.delays iq33) fun x38 =>
  (bif (decide (x38.task = task1)) then (k37 (IntKind.i64.wrap (n32 + 1))) else (k37 n32)) else (k29 n32))
def f58 (q0 : Queues) (task1 : Int) : Option Int :=
  letk (fun (n28 : Int) =>
  some n28) fun k29 =>
  (f58_l1 q0 task1 k29 9223372036854775808 0 0)

def f25_l2 (q0 : Queues) (p110 : Int) (k112 : Unit → Option (Bool)) : Nat → Int → Option (Bool)
  | 0, _ => none
  | na+1, iq115 =>
  guardB (vecOk 32 p110) <|
  (bif (decide (iq115 < (List.length (q0.ready (Int.toNat p110)) : Int))) then guardB (vecOk 32 p110) <|
  Option.bind (idx (q0.ready (Int.toNat p110)) iq115) fun x119 =>
  (bif (!(f56 x119)) then some false else (f25_l2 q0 p110 k112 na (IntKind.i64.wrap (iq115 + 1)))) else (k112 ()))
def f25_l1 (q0 : Queues) (k108 : Unit → Option (Bool)) : Nat → Int → Option (Bool)
  | 0, _ => none
  | n+1, p110 =>
  (bif (decide (p110 < 32)) then letk (fun (_ : Unit) =>
  (f25_l1 q0 k108 n (IntKind.i64.wrap (p110 + 1)))) fun k112 =>
  guardB (vecOk 32 p110) <|
  (bif (decide ((List.length (q0.ready (Int.toNat p110)) : Int) > 32)) then some false else (f25_l2 q0 p110 k112 9223372036854775808 0)) else (k108 ()))
def f25_l3 (q0 : Queues) (k120 : Unit → Option (Bool)) : Nat → Int → Option (Bool)
  | 0, _ => none
  | n+1, iq122 =>
  (bif (decide (iq122 < (List.length q0.delays : Int))) then Option.bind (idx q0.delays iq122) fun x124 =>
  Option.bind (bif (((!(f56 x124.task)) || (decide (x124.time < 0))) || (decide (x124.time > 9007199254740992))) then some true else (Option.bind (bif (decide (iq122 > 0)) then (Option.bind (idx q0.delays (IntKind.i64.wrap (iq122 - 1))) fun x127 => some (decide (x127.time > x124.time))) else some false) fun b126 => some b126)) fun b125 =>
  (bif b125 then some false else (f25_l3 q0 k120 n (IntKind.i64.wrap (iq122 + 1)))) else (k120 ()))
def f25_l4 (q0 : Queues) (k128 : Unit → Option (Bool)) : Nat → Int → Option (Bool)
  | 0, _ => none
  | n+1, t130 =>
  (bif (decide (t130 < 32)) then Option.bind (f57 q0 t130) fun r132 =>
  Option.bind (bif (decide (r132 > 1)) then some true else (Option.bind (f58 q0 t130) fun r134 => some (decide (r134 > 1)))) fun b133 =>
  (bif b133 then some false else (f25_l4 q0 k128 n (IntKind.i64.wrap (t130 + 1)))) else (k128 ()))
def f25 (q0 : Queues) : Option Bool :=
  (bif (((decide (q0.run < (-1))) || (decide (q0.run > 31))) || (decide ((List.length q0.delays : Int) > 32))) then some false else letk (fun (_ : Unit) =>
  letk (fun (_ : Unit) =>
  letk (fun (_ : Unit) =>
  some true) fun k128 =>
  (f25_l4 q0 k128 9223372036854775808 0)) fun k120 =>
  (f25_l3 q0 k120 9223372036854775808 0)) fun k108 =>
  (f25_l1 q0 k108 9223372036854775808 0))

def f73 (q0 : Queues) (prio1 : Int) (task2 : Int) : Option Int :=
  Option.bind (f25 q0) fun r24 =>
  (bif (((!r24) || (!(f56 prio1))) || (!(f56 task2))) then some 2 else some 0)

def f46 (q0 : Queues) (prio1 : Int) (task2 : Int) : Option (Queues × Int) :=
  Option.bind (f73 q0 prio1 task2) fun r42 =>
  letk (fun (e43 : Int) =>
  (bif (!decide (e43 = 0)) then some ((Queues.mk (fun _ => ([] : List Int)) [] 0), e43) else guardB (vecOk 32 prio1) <|
  guardB (O.ownOk q0) <|
  guardB (vecOk 32 prio1) <|
  guardB (appOk 8 (q0.ready (Int.toNat prio1)) [task2]) <|
  guardB (vecOk 32 prio1) <|
  some ((Queues.mk (vset q0.ready (Int.toNat prio1) ((q0.ready (Int.toNat prio1)) ++ [task2])) q0.delays q0.run), 0))) fun k44 =>
  Option.bind (bif (decide (r42 = 0)) then (Option.bind (f57 q0 task2) fun r46 => some (decide (r46 > 0))) else some false) fun b45 =>
  (bif b45 then (k44 7) else (k44 r42))

def f47 (q0 : Queues) (prio1 : Int) (task2 : Int) : Option (Queues × Int) :=
  Option.bind (f73 q0 prio1 task2) fun r42 =>
  letk (fun (e43 : Int) =>
  (bif (!decide (e43 = 0)) then some ((Queues.mk (fun _ => ([] : List Int)) [] 0), e43) else Option.bind (O.f23 q0) fun r47 =>
  guardB (vecOk 32 prio1) <|
  guardB (appOk 8 [task2] (r47.ready (Int.toNat prio1))) <|
  guardB (vecOk 32 prio1) <|
  some ((Queues.mk (vset r47.ready (Int.toNat prio1) ([task2] ++ (r47.ready (Int.toNat prio1)))) r47.delays r47.run), 0))) fun k44 =>
  Option.bind (bif (decide (r42 = 0)) then (Option.bind (f57 q0 task2) fun r46 => some (decide (r46 > 0))) else some false) fun b45 =>
  (bif b45 then (k44 7) else (k44 r42))

def f74_l1 (l0 : List Int) (task1 : Int) (k32 : (List Int) → Option (List Int)) : Nat → Int → (List Int) → Option (List Int)
  | 0, _, _ => none
  | n+1, iq36, l37 =>
  (bif (decide (iq36 < (List.length l0 : Int))) then letk (fun (l42 : List Int) =>
  (f74_l1 l0 task1 k32 n (IntKind.i64.wrap (iq36 + 1)) l42)) fun k44 =>
  Option.bind (idx l0 iq36) fun x45 =>
  (bif (!decide (x45 = task1)) then Option.bind (idx l0 iq36) fun x46 =>
  guardB (appOk 8 l37 [x46]) <|
  (k44 (l37 ++ [x46])) else (k44 l37)) else (k32 l37))
def f74 (l0 : List Int) (task1 : Int) : Option (List Int) :=
  letk (fun (l30 : List Int) =>
  some l30) fun k32 =>
  (f74_l1 l0 task1 k32 9223372036854775808 0 [])

def f48_l1 (task1 : Int) (k56 : (Nat → (List Int)) → Option (Queues × Int)) : Nat → Int → (Nat → (List Int)) → Option (Queues × Int)
  | 0, _, _ => none
  | n+1, p59, c0060 =>
  (bif (decide (p59 < 32)) then guardB (vecOk 32 p59) <|
  Option.bind (f74 (c0060 (Int.toNat p59)) task1) fun r64 =>
  guardB (vecOk 32 p59) <|
  (f48_l1 task1 k56 n (IntKind.i64.wrap (p59 + 1)) (vset c0060 (Int.toNat p59) r64)) else (k56 c0060))
def f48 (q0 : Queues) (task1 : Int) : Option (Queues × Int) :=
  Option.bind (f73 q0 0 task1) fun r47 =>
  letk (fun (e48 : Int) =>
  (bif (!decide (e48 = 0)) then some ((Queues.mk (fun _ => ([] : List Int)) [] 0), e48) else Option.bind (O.f23 q0) fun r52 =>
  letk (fun (c03353 : Int) =>
  letk (fun (c0055 : Nat → (List Int)) =>
  some ((Queues.mk c0055 r52.delays c03353), 0)) fun k56 =>
  (f48_l1 task1 k56 9223372036854775808 0 r52.ready)) fun k54 =>
  (bif (decide (r52.run = task1)) then (k54 (-1)) else (k54 r52.run)))) fun k49 =>
  Option.bind (bif (decide (r47 = 0)) then (Option.bind (f57 q0 task1) fun r51 => some (decide (r51 = 0))) else some false) fun b50 =>
  (bif b50 then (k49 6) else (k49 r47))

def f49 (q0 : Queues) (prio1 : Int) (task2 : Int) : Option (Queues × Int) :=
  Option.bind (f73 q0 prio1 task2) fun r49 =>
  letk (fun (e50 : Int) =>
  (bif (!decide (e50 = 0)) then some ((Queues.mk (fun _ => ([] : List Int)) [] 0), e50) else Option.bind (f48 q0 task2) fun r54 =>
  Option.bind (f46 r54.1 prio1 task2) fun r55 =>
  some (r55.1, 0))) fun k51 =>
  Option.bind (bif (decide (r49 = 0)) then (Option.bind (f57 q0 task2) fun r53 => some ((decide (r53 = 0)) || (decide (q0.run = task2)))) else some false) fun b52 =>
  (bif b52 then (k51 6) else (k51 r49))

def f54_l1 (q0 : Queues) (k29 : Unit → Option (Int × Int × Bool)) : Nat → Int → Option (Int × Int × Bool)
  | 0, _ => none
  | n+1, p31 =>
  (bif (decide (p31 ≥ 0)) then guardB (vecOk 32 p31) <|
  (bif (decide ((List.length (q0.ready (Int.toNat p31)) : Int) > 0)) then guardB (vecOk 32 p31) <|
  Option.bind (idx (q0.ready (Int.toNat p31)) 0) fun x35 =>
  some (x35, p31, true) else (f54_l1 q0 k29 n (IntKind.i64.wrap (p31 - 1)))) else (k29 ()))
def f54 (q0 : Queues) : Option (Int × Int × Bool) :=
  Option.bind (f25 q0) fun r28 =>
  (bif (!r28) then some (0, 0, false) else letk (fun (_ : Unit) =>
  some (0, 0, false)) fun k29 =>
  (f54_l1 q0 k29 (Int.toNat (31 + 1) + 1) 31))

def f50 (q0 : Queues) (prio1 : Int) : Option (Queues × Int) :=
  Option.bind (f25 q0) fun r69 =>
  (bif ((!r69) || ((decide (q0.run ≥ 0)) && (!(f56 prio1)))) then some ((Queues.mk (fun _ => ([] : List Int)) [] 0), 2) else Option.bind (O.f23 q0) fun r70 =>
  Option.bind (f54 r70) fun r71 =>
  (bif ((!r71.2.2) || ((decide (r70.run ≥ 0)) && (decide (r71.2.1 ≤ prio1)))) then some (r70, 0) else Option.bind (f48 r70 r71.1) fun r72 =>
  letk (fun (c0073 : Nat → (List Int)) (c03274 : List Due) (c03375 : Int) =>
  some ((Queues.mk c0073 c03274 r71.1), 0)) fun k76 =>
  (bif (decide (r70.run ≥ 0)) then Option.bind (f47 (Queues.mk r72.1.ready r72.1.delays (-1)) prio1 r70.run) fun r77 =>
  (k76 r77.1.ready r77.1.delays r77.1.run) else (k76 r72.1.ready r72.1.delays (-1)))))

def f51_l1 (q0 : Queues) (time1 : Int) (task2 : Int) (k84 : Bool → (List Due) → Option (Queues × Int)) : Nat → Bool → Int → (List Due) → Option (Queues × Int)
  | 0, _, _, _ => none
  | n+1, done89, iq90, l91 =>
  (bif (decide (iq90 < (List.length q0.delays : Int))) then letk (fun (done97 : Bool) (l98 : List Due) =>
  Option.bind (idx q0.delays iq90) fun x104 =>
  guardB (appOk 16 l98 [x104]) <|
  (f51_l1 q0 time1 task2 k84 n done97 (IntKind.i64.wrap (iq90 + 1)) (l98 ++ [x104]))) fun k100 =>
  Option.bind (bif (!done89) then (Option.bind (idx q0.delays iq90) fun x102 => some (decide (x102.time > time1))) else some false) fun b101 =>
  (bif b101 then guardB (appOk 16 l91 [(Due.mk time1 task2)]) <|
  (k100 true (l91 ++ [(Due.mk time1 task2)])) else (k100 done89 l91)) else (k84 done89 l91))
def f51 (q0 : Queues) (time1 : Int) (task2 : Int) : Option (Queues × Int) :=
  Option.bind (f73 q0 0 task2) fun r79 =>
  (bif (((!decide (r79 = 0)) || (decide (time1 < 0))) || (decide (time1 > 9007199254740992))) then some ((Queues.mk (fun _ => ([] : List Int)) [] 0), 2) else Option.bind (f58 q0 task2) fun r80 =>
  (bif (decide (r80 > 0)) then some ((Queues.mk (fun _ => ([] : List Int)) [] 0), 7) else letk (fun (done81 : Bool) (l82 : List Due) =>
  letk (fun (l106 : List Due) =>
  Option.bind (O.f23 q0) fun r110 =>
  some ((Queues.mk r110.ready l106 r110.run), 0)) fun k108 =>
  (bif (!done81) then guardB (appOk 16 l82 [(Due.mk time1 task2)]) <|
  (k108 (l82 ++ [(Due.mk time1 task2)])) else (k108 l82))) fun k84 =>
  (f51_l1 q0 time1 task2 k84 9223372036854775808 false 0 [])))

def f52_l1 (q0 : Queues) (task1 : Int) (k53 : (List Due) → Option (Queues × Int)) : Nat → Int → (List Due) → Option (Queues × Int)
  | 0, _, _ => none
  | n+1, iq57, l58 =>
  (bif (decide (iq57 < (List.length q0.delays : Int))) then letk (fun (l63 : List Due) =>
  (f52_l1 q0 task1 k53 n (IntKind.i64.wrap (iq57 + 1)) l63)) fun k65 =>
  Option.bind (idx q0.delays iq57) fun x66 =>
  (bif (!decide (x66.task = task1)) then Option.bind (idx q0.delays iq57) fun x67 =>
  guardB (appOk 16 l58 [x67]) <|
  (k65 (l58 ++ [x67])) else (k65 l58)) else (k53 l58))
def f52 (q0 : Queues) (task1 : Int) : Option (Queues × Int) :=
  Option.bind (f73 q0 0 task1) fun r49 =>
  (bif (!decide (r49 = 0)) then some ((Queues.mk (fun _ => ([] : List Int)) [] 0), 2) else Option.bind (f58 q0 task1) fun r50 =>
  (bif (decide (r50 = 0)) then some ((Queues.mk (fun _ => ([] : List Int)) [] 0), 6) else letk (fun (l51 : List Due) =>
  Option.bind (O.f23 q0) fun r69 =>
  some ((Queues.mk r69.ready l51 r69.run), 0)) fun k53 =>
  (f52_l1 q0 task1 k53 9223372036854775808 0 [])))

def f53_l1 (q0 : Queues) (now1 : Int) (k60 : (List Due) → (List Int) → Option (Queues × (List Int) × Int)) : Nat → Int → (List Due) → (List Int) → Option (Queues × (List Int) × Int)
  | 0, _, _, _ => none
  | n+1, iq66, l67, l69 =>
  (bif (decide (iq66 < (List.length q0.delays : Int))) then letk (fun (l76 : List Due) (l78 : List Int) =>
  (f53_l1 q0 now1 k60 n (IntKind.i64.wrap (iq66 + 1)) l76 l78)) fun k80 =>
  Option.bind (idx q0.delays iq66) fun x81 =>
  (bif (decide (x81.time ≤ now1)) then Option.bind (idx q0.delays iq66) fun x82 =>
  guardB (appOk 8 l69 [x82.task]) <|
  (k80 l67 (l69 ++ [x82.task])) else Option.bind (idx q0.delays iq66) fun x84 =>
  guardB (appOk 16 l67 [x84]) <|
  (k80 (l67 ++ [x84]) l69)) else (k60 l67 l69))
def f53 (q0 : Queues) (now1 : Int) : Option (Queues × (List Int) × Int) :=
  Option.bind (f25 q0) fun r55 =>
  (bif (!r55) then some ((Queues.mk (fun _ => ([] : List Int)) [] 0), [], 2) else letk (fun (l56 : List Due) (l58 : List Int) =>
  Option.bind (O.f23 q0) fun r86 =>
  some ((Queues.mk r86.ready l56 r86.run), l58, 0)) fun k60 =>
  (f53_l1 q0 now1 k60 9223372036854775808 0 [] []))

def f55 (q0 : Queues) : Option (Int × Bool) :=
  Option.bind (f25 q0) fun r20 =>
  (bif ((!r20) || (decide ((List.length q0.delays : Int) = 0))) then some (0, false) else Option.bind (idx q0.delays 0) fun x21 =>
  some (x21.time, true))

def f24 (q0 : Queues) (x1 : Step) : Option (Queues × Bool) :=
  letk (fun (e234 : Int) (fq235 : Int) (l236 : List Int) (m237 : List Int) (c10238 : Nat → (List Int)) (c132239 : List Due) (c133240 : Int) (c20241 : Nat → (List Int)) (c232242 : List Due) (c233243 : Int) =>
  letk (fun (t265 : Bool) (c00266 : Nat → (List Int)) (c10267 : Nat → (List Int)) (c20268 : Nat → (List Int)) =>
  some ((Queues.mk c00266 c232242 c233243), t265)) fun k269 =>
  Option.bind (f15 (Queues.mk c10238 c132239 c133240) (Queues.mk c20241 c232242 c233243)) fun r270 =>
  (bif r270 then (bif (decide (e234 = fq235)) then Option.bind (f31 l236 m237) fun r271 =>
  (k269 r271 c20241 c10238 c20241) else (k269 false c20241 c10238 c20241)) else (k269 false c20241 c10238 c20241))) fun k244 =>
  (bif (decide ((Int.tmod x1.what 9) = 0)) then Option.bind (f21 q0 x1.prio x1.task) fun r245 =>
  Option.bind (f46 q0 x1.prio x1.task) fun r246 =>
  (k244 r245.2 r246.2 [] [] r245.1.ready r245.1.delays r245.1.run r246.1.ready r246.1.delays r246.1.run) else (bif (decide ((Int.tmod x1.what 9) = 1)) then Option.bind (f28 q0 x1.prio x1.task) fun r247 =>
  Option.bind (f47 q0 x1.prio x1.task) fun r248 =>
  (k244 r247.2 r248.2 [] [] r247.1.ready r247.1.delays r247.1.run r248.1.ready r248.1.delays r248.1.run) else (bif (decide ((Int.tmod x1.what 9) = 2)) then Option.bind (f22 q0 x1.task) fun r249 =>
  Option.bind (f48 q0 x1.task) fun r250 =>
  (k244 r249.2 r250.2 [] [] r249.1.ready r249.1.delays r249.1.run r250.1.ready r250.1.delays r250.1.run) else (bif (decide ((Int.tmod x1.what 9) = 3)) then Option.bind (f29 q0 x1.prio x1.task) fun r251 =>
  Option.bind (f49 q0 x1.prio x1.task) fun r252 =>
  (k244 r251.2 r252.2 [] [] r251.1.ready r251.1.delays r251.1.run r252.1.ready r252.1.delays r252.1.run) else (bif (decide ((Int.tmod x1.what 9) = 4)) then Option.bind (f12 q0 x1.prio) fun r253 =>
  Option.bind (f50 q0 x1.prio) fun r254 =>
  (k244 r253.2 r254.2 [] [] r253.1.ready r253.1.delays r253.1.run r254.1.ready r254.1.delays r254.1.run) else (bif (decide ((Int.tmod x1.what 9) = 5)) then Option.bind (f17 q0 x1.time x1.task) fun r255 =>
  Option.bind (f51 q0 x1.time x1.task) fun r256 =>
  (k244 r255.2 r256.2 [] [] r255.1.ready r255.1.delays r255.1.run r256.1.ready r256.1.delays r256.1.run) else (bif (decide ((Int.tmod x1.what 9) = 6)) then Option.bind (f18 q0 x1.task) fun r257 =>
  Option.bind (f52 q0 x1.task) fun r258 =>
  (k244 r257.2 r258.2 [] [] r257.1.ready r257.1.delays r257.1.run r258.1.ready r258.1.delays r258.1.run) else (bif (decide ((Int.tmod x1.what 9) = 7)) then Option.bind (f19 q0 x1.time) fun r259 =>
  Option.bind (f53 q0 x1.time) fun r260 =>
  (k244 r259.2.2 r260.2.2 r259.2.1 r260.2.1 r259.1.ready r259.1.delays r259.1.run r260.1.ready r260.1.delays r260.1.run) else Option.bind (f14 q0) fun r261 =>
  Option.bind (f54 q0) fun r262 =>
  Option.bind (f20 q0) fun r263 =>
  Option.bind (f55 q0) fun r264 =>
  some (q0, (((((decide (r261.1 = r262.1)) && (decide (r261.2.1 = r262.2.1))) && ((r261.2.2 == r262.2.2))) && (decide (r263.1 = r264.1))) && ((r263.2 == r264.2))))))))))))

def f26  : Queues :=
  (Queues.mk (fun _ => ([] : List Int)) [] (-1))

def f6 (q0 : Queues) (x1 : Step) : Option Bool :=
  Option.bind (f9 q0) fun r43 =>
  (bif r43 then Option.bind (f11) fun r44 =>
  some r44 else Option.bind (O.f23 q0) fun r45 =>
  Option.bind (f24 q0 x1) fun r46 =>
  letk (fun (t47 : Bool) =>
  some t47) fun k48 =>
  (bif r46.2 then Option.bind (f15 q0 r45) fun r49 =>
  (bif r49 then Option.bind (f10 q0) fun r50 =>
  Option.bind (f25 q0) fun r51 =>
  (bif ((r50 == r51)) then Option.bind (f15 f16 f26) fun r52 =>
  (bif r52 then Option.bind (f11) fun r53 =>
  (k48 r53) else (k48 false)) else (k48 false)) else (k48 false)) else (k48 false)))

def f7_l1 (l0 : List Step) (k53 : (Nat → (List Int)) → (List Due) → Int → Option (Bool)) : Nat → Int → (Nat → (List Int)) → (List Due) → Int → Option (Bool)
  | 0, _, _, _, _ => none
  | n+1, iq58, c0059, c03260, c03361 =>
  (bif (decide (iq58 < (List.length l0 : Int))) then Option.bind (idx l0 iq58) fun x66 =>
  Option.bind (f24 (Queues.mk c0059 c03260 c03361) x66) fun r67 =>
  (bif (!r67.2) then some false else letk (fun (c0068 : Nat → (List Int)) (c03269 : List Due) (c03370 : Int) =>
  Option.bind (f10 (Queues.mk c0068 c03269 c03370)) fun r75 =>
  (bif (!r75) then some false else (f7_l1 l0 k53 n (IntKind.i64.wrap (iq58 + 1)) c0068 c03269 c03370))) fun k71 =>
  Option.bind (f25 r67.1) fun r72 =>
  Option.bind (bif (r72 && (decide (r67.1.run ≥ (-1)))) then (Option.bind (f15 r67.1 (Queues.mk (fun _ => ([] : List Int)) [] 0)) fun r74 => some (!r74)) else some false) fun b73 =>
  (bif b73 then (k71 r67.1.ready r67.1.delays r67.1.run) else (k71 c0059 c03260 c03361))) else (k53 c0059 c03260 c03361))
def f7 (l0 : List Step) : Option Bool :=
  (bif (decide ((List.length l0 : Int) > 60)) then Option.bind (f11) fun r49 =>
  some r49 else letk (fun (c0050 : Nat → (List Int)) (c03251 : List Due) (c03352 : Int) =>
  Option.bind (f11) fun r76 =>
  some r76) fun k53 =>
  (f7_l1 l0 k53 9223372036854775808 0 f26.ready f26.delays f26.run))

def f27_l2 (q0 : Queues) (task1 : Int) (p47 : Int) (k51 : Int → Option (Int)) : Nat → Int → Int → Option (Int)
  | 0, _, _ => none
  | na+1, n54, iq55 =>
  guardB (vecOk 32 p47) <|
  (bif (decide (iq55 < (List.length (q0.ready (Int.toNat p47)) : Int))) then letk (fun (n59 : Int) =>
  (f27_l2 q0 task1 p47 k51 na n59 (IntKind.i64.wrap (iq55 + 1)))) fun k60 =>
  guardB (vecOk 32 p47) <|
  Option.bind (idx (q0.ready (Int.toNat p47)) iq55) fun x62 =>
  (bif (decide (x62 = task1)) then (k60 (IntKind.i64.wrap (n54 + 1))) else (k60 n54)) else (k51 n54))
def f27_l1 (q0 : Queues) (task1 : Int) (k43 : Int → Option (Int)) : Nat → Int → Int → Option (Int)
  | 0, _, _ => none
  | n+1, n46, p47 =>
  (bif (decide (p47 < 32)) then letk (fun (n50 : Int) =>
  (f27_l1 q0 task1 k43 n n50 (IntKind.i64.wrap (p47 + 1)))) fun k51 =>
  (f27_l2 q0 task1 p47 k51 9223372036854775808 n46 0) else (k43 n46))
def f27 (q0 : Queues) (task1 : Int) : Option Int :=
  letk (fun (n42 : Int) =>
  letk (fun (n63 : Int) =>
  some n63) fun k64 =>
  (bif (decide (q0.run = task1)) then (k64 (IntKind.i64.wrap (n42 + 1))) else (k64 n42))) fun k43 =>
  (f27_l1 q0 task1 k43 9223372036854775808 0 0)

def f8_l1 (q0 : Queues) (x1 : Step) (c00126 : Nat → (List Int)) (c032127 : List Due) (c033128 : Int) (k141 : Unit → Option (Bool)) : Nat → Int → Option (Bool)
  | 0, _ => none
  | n+1, t143 =>
  (bif (decide (t143 < 32)) then Option.bind (bif (!decide (t143 = (IntKind.i64.wrap (BitVec.ofInt IntKind.i64.bits x1.task &&& BitVec.ofInt IntKind.i64.bits 31).toNat))) then (Option.bind (f27 (Queues.mk c00126 c032127 c033128) t143) fun r146 => Option.bind (f27 q0 t143) fun r147 => some (!decide (r146 = r147))) else some false) fun b145 =>
  (bif b145 then some false else (f8_l1 q0 x1 c00126 c032127 c033128 k141 n (IntKind.i64.wrap (t143 + 1)))) else (k141 ()))
def f8 (q0 : Queues) (x1 : Step) : Option Bool :=
  Option.bind (f9 q0) fun r119 =>
  Option.bind (bif r119 then some true else (Option.bind (f10 q0) fun r121 => some (!r121))) fun b120 =>
  (bif b120 then Option.bind (f11) fun r122 =>
  some r122 else Option.bind (f27 q0 (IntKind.i64.wrap (BitVec.ofInt IntKind.i64.bits x1.task &&& BitVec.ofInt IntKind.i64.bits 31).toNat)) fun r123 =>
  letk (fun (want124 : Int) (e125 : Int) (c00126 : Nat → (List Int)) (c032127 : List Due) (c033128 : Int) =>
  (bif (!decide (e125 = 0)) then Option.bind (f15 (Queues.mk c00126 c032127 c033128) (Queues.mk (fun _ => ([] : List Int)) [] 0)) fun r135 =>
  Option.bind (bif r135 then (Option.bind (f11) fun r137 => some r137) else some false) fun b136 =>
  some b136 else Option.bind (f10 (Queues.mk c00126 c032127 c033128)) fun r138 =>
  Option.bind (bif (!r138) then some true else (Option.bind (f27 (Queues.mk c00126 c032127 c033128) (IntKind.i64.wrap (BitVec.ofInt IntKind.i64.bits x1.task &&& BitVec.ofInt IntKind.i64.bits 31).toNat)) fun r140 => some (!decide (r140 = want124)))) fun b139 =>
  (bif (b139 || (!decide ((List.length c032127 : Int) = (List.length q0.delays : Int)))) then some false else letk (fun (_ : Unit) =>
  Option.bind (f11) fun r148 =>
  some r148) fun k141 =>
  (f8_l1 q0 x1 c00126 c032127 c033128 k141 9223372036854775808 0)))) fun k129 =>
  (bif (decide ((Int.tmod x1.what 5) = 0)) then Option.bind (f21 q0 x1.prio (IntKind.i64.wrap (BitVec.ofInt IntKind.i64.bits x1.task &&& BitVec.ofInt IntKind.i64.bits 31).toNat)) fun r130 =>
  (k129 1 r130.2 r130.1.ready r130.1.delays r130.1.run) else (bif (decide ((Int.tmod x1.what 5) = 1)) then Option.bind (f28 q0 x1.prio (IntKind.i64.wrap (BitVec.ofInt IntKind.i64.bits x1.task &&& BitVec.ofInt IntKind.i64.bits 31).toNat)) fun r131 =>
  (k129 1 r131.2 r131.1.ready r131.1.delays r131.1.run) else (bif (decide ((Int.tmod x1.what 5) = 2)) then Option.bind (f22 q0 (IntKind.i64.wrap (BitVec.ofInt IntKind.i64.bits x1.task &&& BitVec.ofInt IntKind.i64.bits 31).toNat)) fun r132 =>
  (k129 0 r132.2 r132.1.ready r132.1.delays r132.1.run) else (bif (decide ((Int.tmod x1.what 5) = 3)) then Option.bind (f29 q0 x1.prio (IntKind.i64.wrap (BitVec.ofInt IntKind.i64.bits x1.task &&& BitVec.ofInt IntKind.i64.bits 31).toNat)) fun r133 =>
  (k129 r123 r133.2 r133.1.ready r133.1.delays r133.1.run) else Option.bind (f12 q0 x1.prio) fun r134 =>
  (k129 r123 r134.2 r134.1.ready r134.1.delays r134.1.run))))))
end Go.Proofs.Ytpionlekbfoccaa
namespace Go.Proofs.Ytpionlekbfoccaa
open Go Go.Sk
abbrev sN : AV := .d (.v (.slice none 0 0))
end Go.Proofs.Ytpionlekbfoccaa
