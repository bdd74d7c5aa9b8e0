/-
  Interface values; a deferred closure that recovers.
-/
import Derived.WideLaws
import Derived.RecoverIn
import Derived.Test.YtkbahggepncliaaGreatDoorSb
set_option linter.unusedVariables false
set_option linter.unusedSimpArgs false
set_option linter.unusedSectionVars false
set_option linter.unnecessarySimpa false
namespace Go.Sk
open Go.RowKit (Below)
section
variable {P : Program} {env : Env} {st : List AO} {dst : Option Tmp} {ty : TypeId} {pos : String} {after : Array Edge} {guard : Option (Nat × Bool)}
theorem y_eqifc {x : Operand} {t T T' : TypeId} {p : D} (hT : P.underlying T = some (.interface (P.methodsAt T))) (hx : opv env x = some (.d (.ifc t p))) : Yields P env st ⟨dst, .binOp .eql T x (.const .nilIface) T', ty, pos, after, guard⟩ (.d (.v (.bool false))) := fun m φ a w _ he => by
  have h := opv_ok he hx
  simp only [RA, RD] at h
  obtain ⟨z, h, _⟩ := h
  refine ⟨_, RAv, fun w' _ => ?_⟩
  have hc : a.eval (.const .nilIface) = .nilIface := rfl
  simp [execOp, h, hc, eqGuard, run_eql_held_nil w' T t z hT]
theorem y_eqifn {x : Operand} {T T' : TypeId} (hT : P.underlying T = some (.interface (P.methodsAt T))) (hx : opv env x = some (.d (.v .nilIface))) : Yields P env st ⟨dst, .binOp .eql T x (.const .nilIface) T', ty, pos, after, guard⟩ (.d (.v (.bool true))) := fun m φ a w _ he => by
  have h := opv_ok he hx
  simp only [RA, RD] at h
  refine ⟨_, RAv, fun w' _ => ?_⟩
  have hc : a.eval (.const .nilIface) = .nilIface := rfl
  simp [execOp, h, hc, eqGuard, binOp, run_equal_nil_nil w' T hT]
def tasOk (P : Program) (t : TypeId) : Bool := match P.underlying t with
  | some (.interface _) => false
  | some _ => true
  | none => false
theorem y_tassert {x : Operand} {t T : TypeId} {p : D} (hA : tasOk P t = true) (hx : opv env x = some (.d (.ifc t p))) : Yields P env st ⟨dst, .typeAssert x T t true, ty, pos, after, guard⟩ (.tu [.d p, .d (.v (.bool true))]) := fun m φ a w _ he => by
  have h := opv_ok he hx
  simp only [RA, RD] at h
  obtain ⟨z, h, hz⟩ := h
  refine ⟨.tuple #[z, .bool true], ?_, fun w' _ => ?_⟩
  · simp only [RA]; exact ⟨[z, .bool true], rfl, RAs_cons (by simp only [RA]; exact hz) (RAs_cons RAv RAs_nil)⟩
  · unfold tasOk at hA
    split at hA
    · cases hA
    · rename_i dA hd hu
      cases dA <;> first | exact (hd _ rfl).elim | simp [execOp, h, Instr.typeAssert, run_underlying hu]
    · cases hA
end
theorem gnd_ifc {m φ w} {t : TypeId} {p : D} {v : Value} (h : D.gnd p = some v) : RA m φ w (.d (.ifc t p)) (.iface t v) := by
  simp only [RA, RD]; exact ⟨v, rfl, gnd_RD h⟩
theorem dsp_intro {P : Program} {f : FuncId} {fn : Func} {rest : Code} {id d n : Nat} {ty : TypeId} {pos : String} {after : Array Edge} {caps : List AV} {st st' : List AO} {v : Value} {va : AV} {u u' : FrameMode} (hf : P.funcs[f]? = some fn) (hname : (fn.name == "runtime.NumGoroutine") = false)
    (hb : fn.body = some (.seq (.region id #[⟨some d, .call ⟨.builtin .recover, #[], #[]⟩, ty, pos, after, none⟩] false) rest)) (hres : fn.results = #[]) (hn : fn.ntmps = n) (hle : Nat.ble caps.length n = true) (hd : Nat.ble (d + 1) n = true)
    (hu : ∀ (c0 : Frame) (cs : List Frame), c0.mode = u → (∃ cs', recoverD (c0 :: cs) = some (v, cs') ∧ cs' = { c0 with mode := u' } :: cs) ∨ (recoverD (c0 :: cs) = none ∧ v = .nilIface ∧ u' = u))
    (hva : ∀ m φ w, RA m φ w va v)
    (h : ∀ m φ w, m.length = st.length → WC P ⟨m, φ, w, n, none, some []⟩ rest (.lp (fun _ st2 => SLe st2 st') (.rend fun _ _ => False)) ((d, va) :: zipEnv 0 caps) st) : DSp P f caps st u u' st' := by
  refine ⟨⟨fn, hf, hname, by simp [hb]⟩, fun m φ w vs hs ha => callsDIn_of_wpSIn hf hb trivial fun c0 cs hu0 => ?_⟩
  have hlen := RAs_length ha
  have hle := Nat.le_of_ble_eq_true hle
  have hd := Nat.le_of_ble_eq_true hd
  refine wpSIn_seq (wpSIn_region ?_)
  generalize hR : bodyPostS P fn c0 cs _ = R
  have key : ∀ cs', cs' = { c0 with mode := u' } :: cs → rest.wpSIn (EF none) 0 P R (({ tmps := (⟨vs⟩ : Array Value) ++ Array.replicate (fn.ntmps - (⟨vs⟩ : Array Value).size) undef, defers := [] } : Act).put (some d) v) cs' w := by
    intro cs' hcs
    refine wpSIn_of_wpIn rfl ?_
    have hinv : Inv ⟨m, φ, w, n, none, some []⟩ m φ ((d, va) :: zipEnv 0 caps) st (({ tmps := (⟨vs⟩ : Array Value) ++ Array.replicate (fn.ntmps - (⟨vs⟩ : Array Value).size) undef, defers := [] } : Act).put (some d) v) w := by
      refine Inv.put (e := ⟨m, φ, w, n, none, some []⟩) ⟨hs, Ev.refl m φ w, ⟨fun t x hx => ?_, hs.gl⟩, ?_, rfl⟩ hd (hva m φ w)
      · rw [zipEnv_get] at hx
        simp only [Nat.zero_le, if_true, Nat.sub_zero] at hx
        obtain ⟨y, h1, h2⟩ := RAs_get ha hx
        refine ⟨y, ?_, h2⟩
        have hlt : t < vs.length := by
          rcases Nat.lt_or_ge t vs.length with h' | h'
          · exact h'
          · simp [List.getElem?_eq_none h'] at h1
        rw [Array.getElem?_append_left (by simpa using hlt)]
        simpa using h1
      · simp [hn]; omega
    refine wpIn_mono (h m φ w hs.len m φ _ w hinv) fun x a' w' hx => ?_
    subst hR
    cases x with
    | normal =>
      obtain ⟨env2, st2, m2, φ2, hst2, hi2⟩ := hx
      refine ⟨hi2.df, u', hcs, .tuple #[], results_none hres _ _ _, ⟨_, rfl⟩, rfl, m2, φ2, hi2.ev, hi2.sr.weak hst2⟩
    | _ => exact hx.elim
  have hexec : ∀ a : Act, (execOp a.eval (⟨some d, .call ⟨.builtin .recover, #[], #[]⟩, ty, pos, after, none⟩ : Oper)).run P w = .ok .recover w := fun a => by
    simp [execOp, resolve, invoke, builtin]
  show wpOpsSIn (EF none) 0 P _ _ [0] _ _ w
  unfold wpOpsSIn
  simp only [List.getElem?_toArray, List.getElem?_cons_zero]
  refine ⟨fun _ _ => trivial, ?_⟩
  rw [if_pos (by simp [Region.wanted]), hexec]
  rcases hu c0 cs hu0 with ⟨cs', h1, h2⟩ | ⟨h1, h2, h3⟩
  · simp only [h1]
    unfold wpOpsSIn
    exact key cs' h2
  · simp only [h1]
    unfold wpOpsSIn
    subst h2
    refine key _ ?_
    subst h3
    rw [← hu0]
theorem DSp.win {P : Program} {f : FuncId} {caps caps0 : List AV} {st st0 st1 st' : List AO} {u u' : FrameMode} (js : List Nat) (h : DSp P f caps0 st0 u u' st1) (hl : Les caps (AV.rens js caps0)) (hla : AV.lts js.length caps0 = true) (hj : js.Nodup) {st0' st1' : List AO} (hren0 : st0.map (AO.ren js) = st0') (hwin : isWin js st st0')
    (hlt : stLt js.length st0 = true) (hlive : allLr st0 = true) (hlen : st1.length = st0.length) (hlt1 : stLt js.length st1 = true) (hren1 : st1.map (AO.ren js) = st1') (hst : putWin js st1' st = st') : DSp P f caps st u u' st' :=
  ⟨h.1, fun m φ w vs hs ha => by
    obtain ⟨m0, g1, g2, g3⟩ := win_open hs hj (by rw [hren0]; exact hwin) hlt hlive
    refine (h.2 m0 φ w vs g1 (g2 _ _ hla (hl.ras ha))).mono ?_
    rintro en u2 w' ⟨h1, h2, m1, φ', hev, hsr⟩
    have htk : st1.take st0.length = st1 := by rw [← hlen, List.take_length]
    obtain ⟨m', p1, p2, _⟩ := g3 st1 m1 φ' w' hev hsr (by omega) (by rw [htk]; exact hlt1)
    rw [htk, hren1, hst] at p2
    exact ⟨h1, h2, m', φ', p1, p2⟩⟩
section
variable {P : Program} {fn : Func} {env : Env} {st st' : List AO} {f : FuncId} {caps : List AV} {k : Nat}
theorem we_ret_gdc {S : AV → List AO → Prop} {m0 φ0 w0 n} {vs : List Value} {r r0 : AV} {new : List AO} (hcap : RAs m0 φ0 w0 caps vs) (hD : DSp P f caps st .returning .returning st') (hr : Res P fn env st' r) (hl : Le r r0) (hk : Nat.ble k st'.length = true) (hs : SLe (st'.take k) new) (hS : S r0 new) :
    WE P ⟨m0, φ0, w0, n, none, some [dfr f vs]⟩ .ret (.fin fn (WinG k S)) env st := fun m φ a w hi => by
  have hk := Nat.le_of_ble_eq_true hk
  have hnl : new.length = k := by rw [hs.length, List.length_take]; omega
  have h := we_ret_dc (Q := fun r' st2 => r' = r0 ∧ st2 = st') hcap hD (hr.le hl) ⟨rfl, rfl⟩ m φ a w hi
  refine LeavesInM.mono (R := endPost ⟨m0, φ0, w0, n, none, some [dfr f vs]⟩ (fun r' st2 => r' = r0 ∧ st2 = st')) ?_ _ _ _ h
  rintro en w' ⟨v, r', st2, m', φ', rfl, ⟨rfl, rfl⟩, hev, hsr, hra⟩
  exact ⟨v, r', _, m', φ', rfl, ⟨by rw [List.length_append, hnl]; omega, by rw [← hnl, List.take_left]; exact hS⟩, hev, hsr.weak (sle_take k st2 new hs), hra⟩
theorem we_pan_gdc {S : AV → List AO → Prop} {m0 φ0 w0 n} {vs : List Value} {r r0 : AV} {new : List AO} {c : List PanicEntry} {u' : FrameMode} (hcap : RAs m0 φ0 w0 caps vs) (hD : DSp P f caps st (.panicking c) u' st') (hset : settle u' = .returning) (hr : Res P fn env st' r) (hl : Le r r0) (hk : Nat.ble k st'.length = true) (hs : SLe (st'.take k) new) (hS : S r0 new) :
    WE P ⟨m0, φ0, w0, n, none, some [dfr f vs]⟩ (.panic c) (.fin fn (WinG k S)) env st := fun m φ a w hi => by
  have hk := Nat.le_of_ble_eq_true hk
  have hnl : new.length = k := by rw [hs.length, List.length_take]; omega
  have h := we_pan_dc (Q := fun r' st2 => r' = r0 ∧ st2 = st') hcap hD hset (hr.le hl) ⟨rfl, rfl⟩ m φ a w hi
  refine LeavesInM.mono (R := endPost ⟨m0, φ0, w0, n, none, some [dfr f vs]⟩ (fun r' st2 => r' = r0 ∧ st2 = st')) ?_ _ _ _ h
  rintro en w' ⟨v, r', st2, m', φ', rfl, ⟨rfl, rfl⟩, hev, hsr, hra⟩
  exact ⟨v, r', _, m', φ', rfl, ⟨by rw [List.length_append, hnl]; omega, by rw [← hnl, List.take_left]; exact hS⟩, hev, hsr.weak (sle_take k st2 new hs), hra⟩
end
end Go.Sk
namespace Go.Sk
open Go.RowKit (Below)
section
variable {P : Program} {e : En} {ops : Array Oper} {rest : List Oper} {env : Env} {st : List AO} {R : Env → List AO → Prop} {ty : TypeId} {pos : String} {after : Array Edge} {guard : Option (Nat × Bool)}
end
def rsvs (k : Nat) (st : List AO) : Bool := (List.range k).all fun i => match st[i]? with | some .rsv => true | _ => false
theorem rsvs_get {k : Nat} {st : List AO} (h : rsvs k st = true) {i : Nat} (hi : i < k) : st[i]? = some .rsv := by
  have := List.all_eq_true.1 h i (List.mem_range.2 hi)
  split at this
  · assumption
  · cases this
end Go.Sk
namespace Go.Sk
open Go.RowKit (Below)
def Cz.rv (t : Nat) : Cz → Cz
  | .tok _ y => .tok t y
  | .fam _ ys => .fam t ys
  | c => c
theorem Cz.rv_has {t : Nat} {c : Cz} {b : Nat} : (c.rv t).has b ↔ c.has b := by cases c <;> exact Iff.rfl
mutual
def AV.rv (cur T : Nat → Nat) : AV → AV
  | .d x => .d x
  | .pt i o => .pt i o
  | .os i v => bif Nat.beq v (cur i) then .os i (T i) else .u
  | .osf i j v => bif Nat.beq v (cur i) then .osf i j (T i) else .u
  | .tu l => .tu (AV.rvs cur T l)
  | _ => .u
def AV.rvs (cur T : Nat → Nat) : List AV → List AV
  | [] => []
  | x :: l => AV.rv cur T x :: AV.rvs cur T l
end
theorem AV.rvs_map (cur T : Nat → Nat) : ∀ l : List AV, AV.rvs cur T l = l.map (AV.rv cur T)
  | [] => rfl
  | x :: l => by rw [AV.rvs, AV.rvs_map cur T l]; rfl
def AO.rv (cur T : Nat → Nat) (i : Nat) : AO → AO
  | .row t cs => .row t (cs.map (AV.rv cur T))
  | .os t k _ es => .os t k (T i) (es.map fun e => e.map (AV.rv cur T))
  | .fam t k _ ess => .fam t k (T i) (ess.map fun es => es.map fun e => e.map (AV.rv cur T))
  | .rsv => .rsv
  | _ => .dead
def AO.curOk (cur : Nat → Nat) (i : Nat) : AO → Prop
  | .os _ _ v _ => v = cur i
  | .fam _ _ v _ => v = cur i
  | _ => True
section
variable {m m3 : List Cz} {φ : Nat → Nat} {w : World} {cur T : Nat → Nat}
mutual
theorem RA.rv (h3 : ∀ (i : Nat) (c : Cz), m[i]? = some c → m3[i]? = some (c.rv (T i))) (hc : ∀ (i v : Nat) (y : Value), m[i]? = some (.tok v y) → v = cur i) (hf : ∀ (i v : Nat) (y : List Value), m[i]? = some (.fam v y) → v = cur i) : ∀ (x : AV) (y : Value), RA m φ w x y → RA m3 φ w (x.rv cur T) y
  | .d x, y, h => by simpa [RA, AV.rv] using h
  | .pt i o, y, h => by
    simp only [RA, AV.rv] at h ⊢
    obtain ⟨b, h1, h2⟩ := h
    exact ⟨b, h3 _ _ h1, h2⟩
  | .os i v, y, h => by
    simp only [RA] at h
    obtain ⟨v0, y0, h1, _, h2⟩ := h
    simp only [AV.rv]
    cases hb : Nat.beq v (cur i) with
    | false => simp [RA]
    | true =>
      have hv := Nat.eq_of_beq_eq_true hb
      have := hc i _ _ h1
      simp only [cond_true, RA]
      exact ⟨T i, y0, h3 _ _ h1, Nat.le_refl _, fun _ => h2 (by omega)⟩
  | .osf i j v, y, h => by
    simp only [RA] at h
    obtain ⟨v0, y0, h1, _, h2⟩ := h
    simp only [AV.rv]
    cases hb : Nat.beq v (cur i) with
    | false => simp [RA]
    | true =>
      have hv := Nat.eq_of_beq_eq_true hb
      have := hf i _ _ h1
      simp only [cond_true, RA]
      exact ⟨T i, y0, h3 _ _ h1, Nat.le_refl _, fun _ => h2 (by omega)⟩
  | .tu l, y, h => by
    simp only [RA, AV.rv] at h ⊢
    obtain ⟨cs, h1, h2⟩ := h
    exact ⟨cs, h1, RAs.rv h3 hc hf l cs h2⟩
  | .u, _, _ => by simp [AV.rv, RA]
  | .ag _, _, _ => by simp [AV.rv, RA]
  | .sr _ _ _ _, _, _ => by simp [AV.rv, RA]
  | .fn _ _ _, _, _ => by simp [AV.rv, RA]
  | .mp _, _, _ => by simp [AV.rv, RA]
  | .pe _ _ _, _, _ => by simp [AV.rv, RA]
  | .ow _ _ _ _ _, _, _ => by simp [AV.rv, RA]
  | .fs _, _, _ => by simp [AV.rv, RA]
  | .ifc _ _, _, _ => by simp [AV.rv, RA]
  | .pem _ _ _ _, _, _ => by simp [AV.rv, RA]
  | .yl _, _, _ => by simp [AV.rv, RA]
theorem RAs.rv (h3 : ∀ (i : Nat) (c : Cz), m[i]? = some c → m3[i]? = some (c.rv (T i))) (hc : ∀ (i v : Nat) (y : Value), m[i]? = some (.tok v y) → v = cur i) (hf : ∀ (i v : Nat) (y : List Value), m[i]? = some (.fam v y) → v = cur i) : ∀ (xs : List AV) (ys : List Value), RAs m φ w xs ys → RAs m3 φ w (AV.rvs cur T xs) ys
  | [], ys, h => by simpa [RAs, AV.rvs] using h
  | x :: xs, ys, h => by
    simp only [RAs, AV.rvs] at h ⊢
    obtain ⟨c, cs, h1, h2, h4⟩ := h
    exact ⟨c, cs, h1, RA.rv h3 hc hf x c h2, RAs.rv h3 hc hf xs cs h4⟩
end
theorem RAs.rvm (h3 : ∀ (i : Nat) (c : Cz), m[i]? = some c → m3[i]? = some (c.rv (T i))) (hc : ∀ (i v : Nat) (y : Value), m[i]? = some (.tok v y) → v = cur i) (hf : ∀ (i v : Nat) (y : List Value), m[i]? = some (.fam v y) → v = cur i) {xs : List AV} {ys : List Value} (h : RAs m φ w xs ys) : RAs m3 φ w (xs.map (AV.rv cur T)) ys := by
  rw [← AV.rvs_map]; exact RAs.rv h3 hc hf xs ys h
theorem OR.rv (h3 : ∀ (i : Nat) (c : Cz), m[i]? = some c → m3[i]? = some (c.rv (T i))) (hc : ∀ (i v : Nat) (y : Value), m[i]? = some (.tok v y) → v = cur i) (hf : ∀ (i v : Nat) (y : List Value), m[i]? = some (.fam v y) → v = cur i) {i : Nat} {o : AO} {c : Cz} (h : OR m φ w o c) : OR m3 φ w (o.rv cur T i) (c.rv (T i)) := by
  cases o with
  | row t cs =>
    obtain ⟨b, rfl, h0, vs, h1, h2⟩ := h
    exact ⟨b, rfl, h0, vs, h1, h2.rvm h3 hc hf⟩
  | os t k v es =>
    obtain ⟨y, xs, rfl, h1, h2, h4, h5⟩ := h
    refine ⟨y, xs, rfl, by rw [List.length_map]; exact h1, ?_, fun e he => ?_, h5⟩
    · rw [flatten_mapc]; exact h2.rvm h3 hc hf
    · obtain ⟨e', he', rfl⟩ := List.mem_map.1 he
      rw [List.length_map]; exact h4 e' he'
  | fam t k v ess =>
    obtain ⟨ys, rfl, h1, h2, h4⟩ := h
    refine ⟨ys, rfl, by rw [List.length_map]; exact h1, fun j es y hj hy => ?_, h4⟩
    rw [List.getElem?_map] at hj
    cases hg : ess[j]? with
    | none => rw [hg] at hj; cases hj
    | some es0 =>
      rw [hg, Option.map_some, Option.some.injEq] at hj
      subst hj
      obtain ⟨xs, g1, g2, g3, g4⟩ := h2 j es0 y hg hy
      refine ⟨xs, by rw [List.length_map]; exact g1, ?_, fun e he => ?_, g4⟩
      · rw [flatten_mapc]; exact g2.rvm h3 hc hf
      · obtain ⟨e', he', rfl⟩ := List.mem_map.1 he
        rw [List.length_map]; exact g3 e' he'
  | rsv => simp only [OR] at h; subst h; rfl
  | _ => trivial
end
def rvList (cur T : Nat → Nat) : Nat → List AO → List AO
  | _, [] => []
  | i, o :: l => o.rv cur T i :: rvList cur T (i + 1) l
theorem rvList_get {cur T : Nat → Nat} : ∀ {l : List AO} {k i : Nat}, (rvList cur T k l)[i]? = (l[i]?).map (AO.rv cur T (k + i))
  | [], k, i => by simp [rvList]
  | o :: l, k, 0 => by simp [rvList]
  | o :: l, k, i + 1 => by simp only [rvList, List.getElem?_cons_succ, rvList_get (l := l)]; congr 2; omega
theorem rvList_len {cur T : Nat → Nat} : ∀ {l : List AO} {k : Nat}, (rvList cur T k l).length = l.length
  | [], _ => rfl
  | o :: l, k => by simp [rvList, rvList_len (l := l)]
def rvCz (T : Nat → Nat) : Nat → List Cz → List Cz
  | _, [] => []
  | i, c :: l => c.rv (T i) :: rvCz T (i + 1) l
theorem rvCz_get {T : Nat → Nat} : ∀ {l : List Cz} {k i : Nat}, (rvCz T k l)[i]? = (l[i]?).map (fun c => c.rv (T (k + i)))
  | [], k, i => by simp [rvCz]
  | o :: l, k, 0 => by simp [rvCz]
  | o :: l, k, i + 1 => by simp only [rvCz, List.getElem?_cons_succ, rvCz_get (l := l)]; congr 2; funext c; congr 1; congr 1; omega
theorem rvCz_len {T : Nat → Nat} : ∀ {l : List Cz} {k : Nat}, (rvCz T k l).length = l.length
  | [], _ => rfl
  | o :: l, k => by simp [rvCz, rvCz_len (l := l)]
theorem AO.rv_live {cur T : Nat → Nat} {i : Nat} {o : AO} (h : (o.rv cur T i).live = true) : o.live = true := by cases o <;> first | rfl | exact h | (simp [AO.rv, AO.live] at h)
theorem SR.rv {m : List Cz} {φ w} {st : List AO} {cur T : Nat → Nat} (hs : SR m φ st w) (hcur : ∀ (i : Nat) (o : AO), st[i]? = some o → o.curOk cur i) (hall : ∀ o ∈ st, o ≠ .dead ∧ (∀ s p, o ≠ .si s p) ∧ (∀ a b c d, o ≠ .lp a b c d) ∧ ∀ l, o ≠ .mp l) :
    SR (rvCz T 0 m) φ (rvList cur T 0 st) w ∧ (∀ x v, RA m φ w x v → RA (rvCz T 0 m) φ w (x.rv cur T) v) := by
  have h3 : ∀ (i : Nat) (c : Cz), m[i]? = some c → (rvCz T 0 m)[i]? = some (c.rv (T i)) := fun i c h => by rw [rvCz_get, h]; simp
  have hobj : ∀ (i : Nat) (c : Cz), m[i]? = some c → ∃ o, st[i]? = some o ∧ OR m φ w o c := fun i c h => by
    have hi : i < st.length := by rw [← hs.len]; exact (List.getElem?_eq_some_iff.1 h).1
    exact ⟨_, List.getElem?_eq_getElem hi, hs.obj i _ c (List.getElem?_eq_getElem hi) h⟩
  have hc : ∀ (i v : Nat) (y : Value), m[i]? = some (.tok v y) → v = cur i := fun i v y h => by
    obtain ⟨o, h1, h2⟩ := hobj i _ h
    have h4 := hcur i o h1
    have h5 := hall o (List.mem_of_getElem? h1)
    cases o with
    | os t k v' es => obtain ⟨y', _, h6, _⟩ := h2; simp only [Cz.tok.injEq] at h6; rw [h6.1]; exact h4
    | row t cs => obtain ⟨b, h6, _⟩ := h2; cases h6
    | fam t k v' es => obtain ⟨ys, h6, _⟩ := h2; cases h6
    | rsv => simp only [OR] at h2; cases h2
    | dead => exact absurd rfl h5.1
    | mp l => exact absurd rfl (h5.2.2.2 _)
    | si s p => exact absurd rfl (h5.2.1 _ _)
    | lp a b c d => exact absurd rfl (h5.2.2.1 _ _ _ _)
  have hf : ∀ (i v : Nat) (y : List Value), m[i]? = some (.fam v y) → v = cur i := fun i v y h => by
    obtain ⟨o, h1, h2⟩ := hobj i _ h
    have h4 := hcur i o h1
    have h5 := hall o (List.mem_of_getElem? h1)
    cases o with
    | os t k v' es => obtain ⟨y', _, h6, _⟩ := h2; cases h6
    | row t cs => obtain ⟨b, h6, _⟩ := h2; cases h6
    | fam t k v' es => obtain ⟨ys, h6, _⟩ := h2; simp only [Cz.fam.injEq] at h6; rw [h6.1]; exact h4
    | rsv => simp only [OR] at h2; cases h2
    | dead => exact absurd rfl h5.1
    | mp l => exact absurd rfl (h5.2.2.2 _)
    | si s p => exact absurd rfl (h5.2.1 _ _)
    | lp a b c d => exact absurd rfl (h5.2.2.1 _ _ _ _)
  have back : ∀ (i : Nat) (c : Cz), (rvCz T 0 m)[i]? = some c → ∃ c0, m[i]? = some c0 ∧ c = c0.rv (T i) := fun i c h => by
    rw [rvCz_get] at h
    cases hg : m[i]? with
    | none => rw [hg] at h; cases h
    | some c0 => rw [hg, Option.map_some, Option.some.injEq, Nat.zero_add] at h; exact ⟨c0, rfl, h.symm⟩
  have backO : ∀ (i : Nat) (o : AO), (rvList cur T 0 st)[i]? = some o → ∃ o0, st[i]? = some o0 ∧ o = o0.rv cur T i := fun i c h => by
    rw [rvList_get] at h
    cases hg : st[i]? with
    | none => rw [hg] at h; cases h
    | some c0 => rw [hg, Option.map_some, Option.some.injEq, Nat.zero_add] at h; exact ⟨c0, rfl, h.symm⟩
  refine ⟨⟨by rw [rvCz_len, rvList_len]; exact hs.len, fun i o c h1 h2 => ?_, hs.lt, fun i j o o' c c' b h1 h2 l1 l2 k1 k2 e1 e2 => ?_, hs.gl, fun b ⟨i, c, h1, h2⟩ => ?_⟩, fun x v h => RA.rv h3 hc hf x v h⟩
  · obtain ⟨o0, g1, rfl⟩ := backO i o h1
    obtain ⟨c0, g2, rfl⟩ := back i c h2
    exact OR.rv h3 hc hf (hs.obj i o0 c0 g1 g2)
  · obtain ⟨o0, g1, rfl⟩ := backO i o h1
    obtain ⟨o1, g2, rfl⟩ := backO j o' h2
    obtain ⟨c0, g3, rfl⟩ := back i c k1
    obtain ⟨c1, g4, rfl⟩ := back j c' k2
    exact hs.inj i j o0 o1 c0 c1 b g1 g2 (AO.rv_live l1) (AO.rv_live l2) g3 g4 (Cz.rv_has.1 e1) (Cz.rv_has.1 e2)
  · obtain ⟨c0, g3, rfl⟩ := back i c h1
    exact hs.nb b ⟨i, c0, g3, Cz.rv_has.1 h2⟩
def AO.plainB : AO → Bool | .dead => false | .si _ _ => false | .lp _ _ _ _ => false | .mp _ => false | _ => true
theorem plainB_spec {l : List AO} (h : l.all AO.plainB = true) : ∀ o ∈ l, o ≠ .dead ∧ (∀ s p, o ≠ .si s p) ∧ (∀ a b c d, o ≠ .lp a b c d) ∧ ∀ l, o ≠ .mp l := fun o ho => by
  have := List.all_eq_true.1 h o ho
  cases o <;> simp_all [AO.plainB]
def curOks (cur : Nat → Nat) : Nat → List AO → Prop
  | _, [] => True
  | i, o :: l => o.curOk cur i ∧ curOks cur (i + 1) l
theorem curOks_get {cur : Nat → Nat} : ∀ {l : List AO} {k : Nat}, curOks cur k l → ∀ (i : Nat) (o : AO), l[i]? = some o → o.curOk cur (k + i)
  | o :: l, k, h, 0, o', ho => by simp only [List.getElem?_cons_zero, Option.some.injEq] at ho; subst ho; exact h.1
  | o :: l, k, h, i + 1, o', ho => by
    have := curOks_get h.2 i o' (by simpa using ho)
    rw [show k + (i + 1) = k + 1 + i by omega]; exact this
  | [], _, _, i, o', ho => by simp at ho
theorem we_ret_newv {P : Program} {fn : Func} {env : Env} {st st1 : List AO} {k : Nat} {S : AV → List AO → Prop} {m0 φ0 w0 n} {r r1 r2 : AV} (perm : List Nat) (r0 : AV) (new : List AO) (cur T : Nat → Nat) {new' new2 : List AO} (hr : Res P fn env st r) (hrr : r0.ren perm = r1) (hl : Le r r1) (hwk : SLe st st1)
    (hp : perm.Nodup) (hren : new.map (AO.ren perm) = new') (hwin : isWin perm st1 new') (hlt : stLt perm.length new = true) (hr0 : r0.lt perm.length = true) (hm0 : m0.length = k) (hk : k = perm.length)
    (hfix : rsvs k st = true) (hcur : curOks cur 0 new) (hpl : new.all AO.plainB = true) (hn2 : rvList cur T 0 new = new2) (hr2 : r0.rv cur T = r2) (hS : S r2 new2) : WE P ⟨m0, φ0, w0, n, none, none⟩ .ret (.fin fn (WinG k S)) env st := fun m φ a w hi => by
  have h := leaves_marks (F := EF none) (n := 0) (e := ⟨m0, φ0, w0, n, none, none⟩) (Q := fun r' st' => r' = r0.ren perm ∧ st' = st) (hr.le (by rw [hrr]; exact hl)) ⟨rfl, rfl⟩ a.defers w hi.df.marks hi.sr hi.env hi.ev
  refine LeavesInM.mono (R := endPost ⟨m0, φ0, w0, n, none, none⟩ (fun r' st' => r' = r0.ren perm ∧ st' = st)) ?_ _ _ _ h
  rintro en w' ⟨v, r', st', m', φ', rfl, ⟨rfl, rfl⟩, hev, hsr, hra⟩
  obtain ⟨m2, g1, g2, g3⟩ := win_end hsr hev hra hwk hp (by rw [hren]; exact hwin) hlt hr0 (by show m0.length = _; rw [hm0, hk]) (fun i hi => .inr (rsvs_get hfix (by omega)))
  have hnl : new.length = k := by
    have := (isWin_spec hwin).1
    rw [← hren, List.length_map] at this; rw [this, hk]
  obtain ⟨q1, q2⟩ := SR.rv (T := T) g2 (fun i o ho => by have := curOks_get hcur i o ho; rwa [Nat.zero_add] at this) (plainB_spec hpl)
  rw [hn2] at q1
  have q3 := q2 _ _ g3
  rw [hr2] at q3
  have hl2 : new2.length = k := by rw [← hn2, rvList_len, hnl]
  have hm2 : m2.length = k := by rw [g2.len, hnl]
  have hrs : ∀ (i : Nat) (c : Cz), m0[i]? = some c → c = .non := fun i c hc => by
    have hik : i < k := by rw [← hm0]; exact (List.getElem?_eq_some_iff.1 hc).1
    obtain ⟨c', h1, h2⟩ := hev.pre i c hc
    have h3 : c' = .non := hsr.obj i _ c' (rsvs_get hfix hik) h1
    subst h3
    cases c with
    | non => rfl
    | blk b => simp [Cz.le] at h2
    | tok v y => simp [Cz.le] at h2
    | fam v y => simp [Cz.le] at h2
  refine ⟨v, r2, new2, _, φ', rfl, ⟨by omega, by rw [← hl2, List.take_length]; exact hS⟩, ⟨fun i c hc => ?_, fun b ⟨i, c, h1, h2⟩ => ?_, g1.os, g1.tape, g1.output, g1.size, g1.keep, g1.fz⟩, q1, q3⟩
  · have := hrs i c hc
    subst this
    have hik : i < (rvCz T 0 m2).length := by rw [rvCz_len, hm2, ← hm0]; exact (List.getElem?_eq_some_iff.1 hc).1
    exact ⟨_, List.getElem?_eq_getElem hik, trivial⟩
  · rw [rvCz_get] at h1
    cases hg : m2[i]? with
    | none => rw [hg] at h1; cases h1
    | some c0 =>
      rw [hg, Option.map_some, Option.some.injEq] at h1
      subst h1
      exact g1.new b ⟨i, c0, hg, Cz.rv_has.1 h2⟩
theorem rv_os {α : Type} (cur T : Nat → Nat) (i t k v : Nat) (E : α → List D) (L : List α) : AO.rv cur T i (.os t k v (L.map (encA E))) = .os t k (T i) (L.map (encA E)) := by
  simp only [AO.rv, List.map_map, AO.os.injEq, true_and]
  refine List.map_congr_left fun x _ => ?_
  simp only [Function.comp, encA, List.map_map]
  exact List.map_congr_left fun d _ => rfl
theorem rv_fam {α : Type} (cur T : Nat → Nat) (i t k v : Nat) (E : α → List D) (L : List (List α)) : AO.rv cur T i (.fam t k v (famM E L)) = .fam t k (T i) (famM E L) := by
  simp only [AO.rv, famM, List.map_map, AO.fam.injEq, true_and]
  refine List.map_congr_left fun M _ => ?_
  have := rv_os cur T 0 0 0 0 E M
  simp only [AO.rv, AO.os.injEq, true_and] at this
  exact this
theorem rv_osf (cur T : Nat → Nat) (i t v fid fv n : Nat) (h : fv = cur fid) : AO.rv cur T i (.os t 1 v (famE fid fv n)) = .os t 1 (T i) (famE fid (T fid) n) := by
  simp only [AO.rv, famE, List.map_map, AO.os.injEq, true_and]
  refine List.map_congr_left fun j _ => ?_
  simp only [Function.comp, List.map_cons, List.map_nil, AV.rv, h, Nat.beq_refl, cond_true]
end Go.Sk
namespace Go.Sk
open Go.RowKit (Below)
abbrev nilOf (_ : Unit) : Value := .pointer none
section
variable {P : Program} {env : Env} {st : List AO} {dst : Option Tmp} {ty : TypeId} {pos : String} {after : Array Edge} {guard : Option (Nat × Bool)}
theorem y_sliceA {T len : Nat} {bb : Bool} {x y : Operand} {id off : Nat} {kk : IntKind} {h : Int} (hT : arrOf P T = some (len, 1, bb)) (hx : opv env x = some (.pt id off)) (hy : opv env y = some (.d (.v (.int kk h)))) (h0 : 0 ≤ h) (hl : h ≤ len) (hp : 0 < h) :
    Yields P env st ⟨dst, .slice T x none (some y) none, ty, pos, after, guard⟩ (.sr id off h.toNat len) := fun m φ a w _ he => by
  have h1 := opv_ok he hx
  simp only [RA] at h1
  obtain ⟨b, g0, h2⟩ := h1
  obtain ⟨t, g1, g2, g3⟩ := arrOf_spec hT
  refine ⟨.slice (some ⟨b, off, none⟩) h.toNat len, by simp only [RA]; exact ⟨b, g0, rfl⟩, fun w' _ => ?_⟩
  have hh := opv_v he hy
  have e1 : ¬ h < 0 := by omega
  have e2 : h.toNat ≤ len := by omega
  have e3 : ¬ (len : Int) < h := by omega
  simp [execOp, Instr.sliceAt, run_underlying g1, Instr.slice, h2, hh, Instr.sliceBounds, Instr.sureAddr, run_sizeOf' g2, Addr.add, asIntOf, h0, hl, Instr.sliceBound]
theorem d_copy_sr {T e by_ : Nat} {d s : Operand} {id off len cap T' : Nat} {xr : AV} {cs : List AV} {fs : List (List AV)} {c : Call} (hT : eltOf P T = some (e, 1, by_)) (hc : c = ⟨.builtin .copy, #[d, s], #[T, T]⟩) (hd : opv env d = some (.sr id off len cap)) (hi : st[id]? = some (.row T' cs)) (hx : opv env s = some xr) (hsrc : Src st xr 1 fs) (hf1 : fs.flatten.all AV.ok1 = true) (hn : fs.length = len) (h0 : 0 < len) (hfit : off + len ≤ cs.length) :
    Does P env st ⟨dst, .call c, ty, pos, after, guard⟩ (.d (.v (.int .i64 len))) (st.set id (.row T' (cs.take off ++ fs.flatten ++ cs.drop (off + len)))) := fun m φ a w hs he => by
  subst hc
  obtain ⟨i, ht, hi', hz, _⟩ := eltOf_spec hT
  have hso : szOf P e = some 1 := by simp [szOf, hi', hz]
  obtain ⟨b, g1, g2⟩ := opv_sr he hd
  obtain ⟨b', e1, e2, vs, e3, e4⟩ := hs.obj id _ _ hi g1
  simp only [Cz.blk.injEq] at e1
  subst e1
  obtain ⟨news, n1, n2, n3⟩ := hsrc m φ w _ hs (opv_ok he hx)
  have hvl := RAs_length e4
  rcases n3 with ⟨_, hb⟩ | ⟨aa, cc, q3, q4⟩
  · omega
  have hnl : news.length = len := by omega
  have hrun := run_copyN (P := P) (k := 1) w T T ty e b off len cap aa fs.length cc ⟨vs⟩ T' news ht hso e3 (by rw [hn, hnl]; simp) q4 (by show off + news.length ≤ vs.length; omega) (RAs_one n1 hf1)
  have hrow := set_row (ys := cs.take off ++ fs.flatten ++ cs.drop (off + len)) (vs := vs.take off ++ news ++ vs.drop (off + len)) hs hi g1 (RAs_append (RAs_append (RAs_take _ e4) n1) (RAs_drop _ e4))
  refine ⟨_, _, m, φ, .inl ?_, hrow.1, hrow.2, RAv⟩
  simp only [execOp, resolve, invoke, builtin]
  rw [hn] at hrun
  simp [hrun, hnl, goInt, g2, q3, hn]
end
end Go.Sk
namespace Go.Sk
abbrev AV.n (x : Int) : AV := .d (D.i .i64 x)
abbrev AV.l {α : Type} (E : α → List D) (L : List α) : AV := .d (.sl (L.map E))
theorem q {α : Sort _} {a : α} : a = a := rfl
abbrev Zt : True := trivial
abbrev Zs := @Les.refl
theorem Zp {T : Nat} {l : List AV} : OLe (.row T l) (.row T l) := ⟨rfl, Les.refl _⟩
theorem Zf {α β γ δ : Type} {a : α} {b : β} {c : γ} {d : δ} : a = a ∧ b = b ∧ c = c ∧ d = d := ⟨rfl, rfl, rfl, rfl⟩
abbrev Zw := @Wt.none
theorem Oi {α : Type} {a b : α} (h : some a = some b) : a = b := Option.some.inj h
abbrev Zd := @WL.done1
abbrev eM {α : Type} (E : α → List D) (L : List α) : List (List AV) := L.map (encA E)
abbrev rF (t f : Nat) : AO := .row t [.fn (.func f) [] []]
abbrev Zl {a : AV} : Le a a := Le.refl a
abbrev Zn := @WL.ns
abbrev Zm := @WL.mv
abbrev Za := @WL.as
abbrev Zq := @WL.qn
abbrev Zy := @WL.qy
abbrev Zr := @wc_sr
theorem Sx {env' env : Env} {t : Nat} {x : AV} (h : env.get t = some x) (hs : Sub env' env) : Sub ((t, x) :: env') env := Sub.cons h (Le.refl _) hs
theorem Lo {n T k v : Nat} {α : Type} {E : α → List D} {L : List α} {l : List AO} (k' : stLt n l = true) : stLt n (.os T k v (L.map (encA E)) :: l) = true := stLt_cons (lt_os _ _ _ _ _ _) k'
theorem Lf {n T k v : Nat} {α : Type} {E : α → List D} {L : List (List α)} {l : List AO} (k' : stLt n l = true) : stLt n (.fam T k v (famM E L) :: l) = true := stLt_cons (lt_fam _ _ _ _ _ _) k'
theorem Lg {n T k v fid ver m : Nat} {l : List AO} (h : Nat.ble (fid + 1) n = true) (k' : stLt n l = true) : stLt n (.os T k v (famE fid ver m) :: l) = true := stLt_cons (lt_osf _ _ _ _ _ _ _ h) k'
theorem Ro {js : List Nat} {T k v : Nat} {α : Type} {E : α → List D} {L : List α} {l l' : List AO} (h : l = l') : AO.ren js (.os T k v (L.map (encA E))) :: l = .os T k v (L.map (encA E)) :: l' := cons_eq (ren_os _ _ _ _ _ _) h
theorem Rf {js : List Nat} {T k v : Nat} {α : Type} {E : α → List D} {L : List (List α)} {l l' : List AO} (h : l = l') : AO.ren js (.fam T k v (famM E L)) :: l = .fam T k v (famM E L) :: l' := cons_eq (ren_fam _ _ _ _ _ _) h
theorem Rg {js : List Nat} {T v fid fv n : Nat} {l l' : List AO} (h : l = l') : AO.ren js (.os T 1 v (famE fid fv n)) :: l = .os T 1 v (famE (js.getD fid 0) fv n) :: l' := cons_eq (ren_osf _ _ _ _ _ _) h
end Go.Sk
