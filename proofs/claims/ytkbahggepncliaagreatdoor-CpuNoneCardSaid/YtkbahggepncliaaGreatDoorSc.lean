/-
  Pointers that are not nil; members of a family that are looked at where they lie.
-/
import Derived.WideLaws
import Derived.RecoverIn
import Derived.Test.YtkbahggepncliaaGreatDoorSb
set_option linter.unusedVariables false
set_option linter.unusedSimpArgs false
set_option linter.unusedSectionVars false
set_option linter.unnecessarySimpa false
namespace Go.Sk
open Go.RowKit (Below)
section
variable {P : Program} {e : En} {ops : Array Oper} {l rest : List Oper} {K : Ko} {env : Env} {st : List AO} {R : Env → List AO → Prop} {dst : Option Tmp} {ty : TypeId} {pos : String} {after : Array Edge} {guard : Option (Nat × Bool)}
theorem y_eqpt {x : Operand} {id off : Nat} {T T' E : TypeId} (hT : P.underlying T = some (.pointer E)) (hx : opv env x = some (.pt id off)) : Yields P env st ⟨dst,.binOp .eql T x (.const (.pointer none)) T',ty,pos,after,guard⟩ (.d (.v (.bool false))):=fun m φ a w _ he => by
  have h:=opv_ok he hx
  simp only [RA] at h
  obtain ⟨b,_,h2⟩:=h
  refine ⟨_,RAv,fun w' _ => ?_⟩
  have hp : P.pointee T = E:=by simp [Program.pointee,hT]
  have hc : a.eval (.const (.pointer none)) = .pointer none:=rfl
  simp [execOp,h2,hc,eqGuard,binOp,run_equal_pointer_nil w' T _ (by rw [hp]; exact hT)]
theorem y_eqnn {x : Operand} {T T' E : TypeId} (hT : P.underlying T = some (.pointer E)) (hx : opv env x = some (.d (.v (.pointer none)))) : Yields P env st ⟨dst,.binOp .eql T x (.const (.pointer none)) T',ty,pos,after,guard⟩ (.d (.v (.bool true))):=fun m φ a w _ he => by
  have h:=opv_ok he hx
  simp only [RA,RD] at h
  refine ⟨_,RAv,fun w' _ => ?_⟩
  have hp : P.pointee T = E:=by simp [Program.pointee,hT]
  have hc : a.eval (.const (.pointer none)) = .pointer none:=rfl
  simp [execOp,h,hc,eqGuard,binOp,run_equal_pointer_nil w' T none (by rw [hp]; exact hT)]
theorem y_nenn {x : Operand} {T T' E : TypeId} (hT : P.underlying T = some (.pointer E)) (hx : opv env x = some (.d (.v (.pointer none)))) : Yields P env st ⟨dst,.binOp .neq T x (.const (.pointer none)) T',ty,pos,after,guard⟩ (.d (.v (.bool false))):=fun m φ a w _ he => by
  have h:=opv_ok he hx
  simp only [RA,RD] at h
  refine ⟨_,RAv,fun w' _ => ?_⟩
  have hp : P.pointee T = E:=by simp [Program.pointee,hT]
  have hc : a.eval (.const (.pointer none)) = .pointer none:=rfl
  simp [execOp,h,hc,eqGuard,binOp,run_equal_pointer_nil w' T none (by rw [hp]; exact hT)]
theorem y_load_mem {T : TypeId} {x : Operand} {oid vo fid ver To n : Nat} {i : Int} (hx : opv env x = some (.pe oid vo (i.toNat * 1))) (hs : st[oid]? = some (.os To 1 vo (famE fid ver n))) (hT : aggOf P T = some false) (hi : i.toNat < n) :
    Yields P env st ⟨dst,.load T x,ty,pos,after,guard⟩ (.osf fid i.toNat ver):=y_load_pe hx hs hT (by rw [Nat.mul_one]; exact famE_get hi)
theorem y_len_mem {α : Type} {E : α → List D} {L : List (List α)} {M : List α} {T n : Nat} {bb : Bool} {x : Operand} {fid j vf T' k : Nat} {c : Call} (hT : elemOf' P T = some (n,bb)) (hc : c = ⟨.builtin .len,#[x],#[T]⟩) (hx : opv env x = some (.osf fid j vf)) (hi : st[fid]? = some (.fam T' k vf (famM E L))) (hj : L[j]? = some M) :
    Yields P env st ⟨dst,.call c,ty,pos,after,guard⟩ (.d (.v (.int .i64 M.length))):=fun m φ a w hs he => by
  have h:=opv_ok he hx
  simp only [RA] at h
  obtain ⟨v0,ys,h1,h2,h3⟩:=h
  obtain ⟨ys',h4,h5,h6,_⟩:=hs.obj _ _ _ hi h1
  simp only [Cz.fam.injEq] at h4
  obtain ⟨rfl,rfl⟩:=h4
  have hy:=h3 rfl
  have hess : (famM E L)[j]? = some (M.map (encA E)):=by simp [famM,hj]
  obtain ⟨xs,g1,_⟩:=h6 j _ _ hess hy
  obtain ⟨t,q1,_,_⟩:=elemOf'_spec hT
  refine ⟨_,RAv,fun w' _ => ?_⟩
  subst hc
  rw [List.length_map] at g1
  rcases g1.2 with ⟨h,h'⟩ | ⟨g,cap,cur,h,_⟩
  · simp [execOp,resolve,invoke,builtin,Builtin.len_,h,run_underlying q1,goInt,h']
  · simp [execOp,resolve,invoke,builtin,Builtin.len_,h,run_underlying q1,goInt]
theorem WE.sto {x : Exit} {st' : List AO} (hs : st = st') (h : WE P e x K env st') : WE P e x K env st:=hs ▸ h
theorem ren_osf (js : List Nat) (T v fid fv n : Nat) : AO.ren js (.os T 1 v (famE fid fv n)) = .os T 1 v (famE (js.getD fid 0) fv n):=by
  simp [AO.ren,famE,AV.rens,AV.ren]
theorem ren_fam {α : Type} (js : List Nat) (T k v : Nat) (E : α → List D) (L : List (List α)) : AO.ren js (.fam T k v (famM E L)) = .fam T k v (famM E L):=by
  simp only [AO.ren,famM,List.map_map,AO.fam.injEq,true_and]
  refine List.map_congr_left fun M _ => ?_
  have:=ren_os js 0 0 0 E M
  simp only [AO.ren,AO.os.injEq,true_and] at this
  exact this
theorem wc_defer' {k : Ko} {id : Nat} {x : Operand} {f : FuncId} {caps : List AV} {ty : TypeId} {pos : String} {after : Array Edge} {m0 φ0 w0 n} {xs : List Oper} (j : Nat)
    (hxs : xs.drop j = [⟨none,.defer ⟨.value x,#[],#[]⟩,ty,pos,after,none⟩]) (hk : k.plain = true) (hnd : noDefer (xs.take j) = true)
    (h : WL P ⟨m0,φ0,w0,n,none,some []⟩ xs.toArray (xs.take j) env st fun env' st' => opv env' x = some (.fn (.func f) [] caps) ∧ ∀ m φ w vs,m.length = st'.length → RAs m φ w caps vs → WE P ⟨m,φ,w,n,none,some [dfr f vs]⟩ .normal k env' st') :
    WC P ⟨m0,φ0,w0,n,none,some []⟩ (.region id xs.toArray false) k env st :=
  wc_defer (l:=xs.take j) (by rw [← hxs,List.take_append_drop]) hk hnd h
theorem condCases2 {α : Sort _} {b : Bool} {x y z : α} (h : (bif b then x else y) = z) : (b = true ∧ x = z) ∨ (b = false ∧ y = z):=by
  cases b
  · exact .inr ⟨rfl,h⟩
  · exact .inl ⟨rfl,h⟩
theorem set_idx_self {α : Type} {L : List α} {i : Int} {x : α} (h : idx L i = some x) : List.set L i.toNat x = L:=by
  have : L[i.toNat]? = some x:=idx_get h
  obtain ⟨h1,h2⟩:=List.getElem?_eq_some_iff.1 this
  rw [← h2]; exact List.set_getElem_self h1
end
end Go.Sk
namespace Go.Sk
open Go.RowKit (Below)
section
variable {P : Program} {e : En} {ops : Array Oper} {l rest : List Oper} {K : Ko} {env : Env} {st : List AO} {R : Env → List AO → Prop} {dst : Option Tmp} {ty : TypeId} {pos : String} {after : Array Edge} {guard : Option (Nat × Bool)}
theorem pem_spec {α : Type} {E : α → List D} {L : List (List α)} {M : List α} {m φ w} {x : Value} {fid j vf off T' k : Nat} (hs : SR m φ st w) (hx : RA m φ w (.pem fid j vf off) x) (hi : st[fid]? = some (.fam T' k vf (famM E L))) (hj : L[j]? = some M) :
    ∃ ys b len cap xs,m[fid]? = some (.fam vf ys) ∧ ys[j]? = some (.slice (some ⟨b,0,none⟩) len cap) ∧ x = .pointer (some ⟨b,off,none⟩) ∧ w.ownsRow 0 T' k (.slice (some ⟨b,0,none⟩) len cap) M.length xs ∧ RAs m φ w (M.map (encA E)).flatten xs ∧ (∀ e ∈ M.map (encA E),e.length = k) ∧ φ b = 0:=by
  simp only [RA] at hx
  obtain ⟨v0,ys,h1,h2,h3⟩:=hx
  obtain ⟨ys',h4,h5,h6,_⟩:=hs.obj _ _ _ hi h1
  simp only [Cz.fam.injEq] at h4
  obtain ⟨rfl,rfl⟩:=h4
  obtain ⟨b,len,cap,h7,rfl⟩:=h3 rfl
  have hess : (famM E L)[j]? = some (M.map (encA E)):=by simp [famM,hj]
  obtain ⟨xs,g1,g2,g3,g4⟩:=h6 j _ _ hess h7
  rw [List.length_map] at g1
  exact ⟨ys,b,len,cap,xs,h1,h7,rfl,g1,g2,g3,g4 b rfl⟩
theorem y_idx_mem {α : Type} {E : α → List D} {L : List (List α)} {M : List α} {v : α} {T n : Nat} {bb : Bool} {x ix : Operand} {fid j vf T' : Nat} {kk : IntKind} {i : Int} (hT : elemOf' P T = some (n,bb)) (hx : opv env x = some (.osf fid j vf)) (hi : st[fid]? = some (.fam T' n vf (famM E L))) (hj : L[j]? = some M) (hix : opv env ix = some (.d (.v (.int kk i)))) (hv : idx M i = some v) :
    Yields P env st ⟨dst,.indexAddr T x ix,ty,pos,after,guard⟩ (.pem fid j vf (i.toNat * n)):=fun m φ a w hs he => by
  have h:=opv_ok he hx
  simp only [RA] at h
  obtain ⟨v0,ys,h1,h2,h3⟩:=h
  obtain ⟨ys',h4,h5,h6,_⟩:=hs.obj _ _ _ hi h1
  simp only [Cz.fam.injEq] at h4
  obtain ⟨rfl,rfl⟩:=h4
  have hy:=h3 rfl
  have hess : (famM E L)[j]? = some (M.map (encA E)):=by simp [famM,hj]
  obtain ⟨xs,g1,_⟩:=h6 j _ _ hess hy
  rw [List.length_map] at g1
  have h0:=idx_nonneg hv
  have hlt:=idx_lt hv
  rcases g1.2 with ⟨h,h'⟩ | ⟨g,cap,cur,h,_⟩
  · omega
  · refine ⟨.pointer (some ⟨g,0 + i.toNat * n,none⟩),by simp only [RA]; exact ⟨_,_,h1,Nat.le_refl _,fun _ => ⟨g,_,cap,by rw [hy,h],by simp⟩⟩,fun w' _ => ?_⟩
    simp [execOp,h,opv_v he hix,run_indexAt_slice hT h0 hlt]
theorem y_load_pem {α : Type} {E : α → List D} {L : List (List α)} {M : List α} {v : α} {T : TypeId} {x : Operand} {fid j vf T' k : Nat} {i : Int} {r : AV} (hx : opv env x = some (.pem fid j vf (i.toNat * k))) (hi : st[fid]? = some (.fam T' k vf (famM E L))) (hj : L[j]? = some M) (hv : idx M i = some v) (hE : ∀ x,(E x).length = k) (hk0 : 0 < k) (hr : (encA E v)[0]? = some r) (hT : aggOf P T = some false) :
    Yields P env st ⟨dst,.load T x,ty,pos,after,guard⟩ r:=fun m φ a w hs he => by
  obtain ⟨ys,b,len,cap,xs,h1,h2,h3,h4,h5,h6,h7⟩:=pem_spec hs (opv_ok he hx) hi hj
  have hL : M[i.toNat]? = some v:=idx_get hv
  obtain ⟨l1,l2,f1,f2,_⟩:=flat_at (R:=E) hE hL
  have hfl : (M.map (encA E)).flatten[i.toNat * k]? = some r:=by
    rw [f1,← f2,List.append_assoc,List.getElem?_append_right (Nat.le_refl _),Nat.sub_self]
    have : 0 < (encA E v).length:=by rw [encA,List.length_map,hE]; exact hk0
    rw [List.getElem?_append_left this]; exact hr
  obtain ⟨u,h8,h9⟩:=RAs_get h5 hfl
  refine ⟨u,h9,fun w' hb => ?_⟩
  have hlt:=(h4.lt b rfl).2
  have hc : w'.cell? ⟨b,i.toNat * k,none⟩ = some u:=by rw [cell?_congr (hb.block b hlt)]; exact ownsRow_cell h4 h8
  simp [execOp,Instr.loadAt,Instr.sureAddr,h3,run_loadVar1 hT hc]
theorem set_mem {m φ w} {fid : Nat} {T k ver j b len cap : Nat} {ess : List (List (List AV))} {es es' : List (List AV)} {ys vs : List Value} (hs : SR m φ st w) (hi : st[fid]? = some (.fam T k ver ess)) (hb : m[fid]? = some (.fam ver ys)) (hyj : ys[j]? = some (.slice (some ⟨b,0,none⟩) len cap)) (hej : ess[j]? = some es)
    (h : RAs m φ w es'.flatten vs) (hl : es'.length = es.length) (hk : ∀ e ∈ es',e.length = k) (cur : Array Value) (hcur : w.heap[b]? = some (.cells cur T (0,0))) (new : Array Value) (hsz : new.size = cur.size) (htk : new.toList.take (es.length * k) = vs) :
    Ev m φ w m φ (w.setRow b new) ∧ SR m φ (st.set fid (.fam T k ver (ess.set j es'))) (w.setRow b new):=by
  obtain ⟨ys',e1,e2,e3,e4⟩:=hs.obj fid _ _ hi hb
  simp only [Cz.fam.injEq,true_and] at e1
  subst e1
  obtain ⟨xs,g1,g2,g3,g4⟩:=e3 j es _ hej hyj
  have h0 : φ b = 0:=g4 b rfl
  have hmem : (Cz.fam ver ys).has b:=⟨_,List.mem_of_getElem? hyj,rfl⟩
  have hF : Fz φ w φ (w.setRow b new):=fun b2 off c q1 q2 => ⟨q1,by
    have hne : b2 ≠ b:=fun e => by subst e; omega
    rw [cell?_congr (heap_setRow_ne hne)]; exact q2⟩
  have hsize : (w.setRow b new).heap.size = w.heap.size:=size_setRow w b _
  refine ⟨⟨Pre.refl m,fun _ h => .inl h,rfl,rfl,rfl,by rw [hsize]; exact Nat.le_refl _,fun b2 hb2 hn => ⟨heap_setRow_ne (fun e => hn ⟨fid,_,hb,by rw [e]; exact hmem⟩),rfl⟩,hF⟩,⟨by simp [hs.len],fun i o c q1 q2 => ?_,fun b2 hb2 => hs.lt b2 (by omega),fun i1 j1 o o' c c' b2 q1 q2 l1 l2 k1 k2 e1 e2 => ?_,hs.gl.mono hF,fun b2 hb2 => by rw [hsize]; exact hs.nb b2 hb2⟩⟩
  · by_cases hii : i = fid
    · subst hii
      rw [List.getElem?_set_self (lt_len hi)] at q1
      rw [hb] at q2
      simp only [Option.some.injEq] at q1 q2
      subst q1; subst q2
      refine ⟨ys,rfl,by simpa using e2,fun j2 es2 y2 hj2 hy2 => ?_,e4⟩
      by_cases hjj : j2 = j
      · subst hjj
        rw [List.getElem?_set_self (List.getElem?_eq_some_iff.1 hej).1] at hj2
        rw [hyj] at hy2
        simp only [Option.some.injEq] at hj2 hy2
        subst hj2; subst hy2
        refine ⟨vs,?_,RAs.mono (Pre.refl m) hF _ _ h,hk,g4⟩
        obtain ⟨r1,r2⟩:=g1
        have hvl : vs.length = es.length * k:=by
          have:=RAs_length h
          rw [this]
          clear this h htk
          have : ∀ l : List (List AV),(∀ e ∈ l,e.length = k) → l.flatten.length = l.length * k:=by
            intro l
            induction l with
            | nil => simp
            | cons x l ih => intro hh; simp only [List.flatten_cons,List.length_append,List.length_cons,ih (fun e he => hh e (by simp [he])),hh x (by simp),Nat.succ_mul]; omega
          rw [this es' hk,hl]
        rcases r2 with ⟨hv,_⟩ | ⟨g,cap',cur',hv,p1,p2,p3,p4,p5,p6⟩
        · cases hv
        · simp only [Value.slice.injEq,Option.some.injEq,Addr.mk.injEq,and_true] at hv
          obtain ⟨rfl,rfl,rfl⟩:=hv
          rw [hcur] at p2
          simp only [Option.some.injEq,Obj.cells.injEq,and_true] at p2
          subst p2
          rw [hl]
          exact ⟨hvl,.inr ⟨b,cap,new,rfl,p1,setRow_heap w b _ _ T (0,0) hcur,p3,p4,by rw [hsz]; exact p5,htk⟩⟩
      · rw [List.getElem?_set_ne (Ne.symm hjj)] at hj2
        obtain ⟨xs2,t1,t2,t3,t4⟩:=e3 j2 es2 y2 hj2 hy2
        exact ⟨xs2,ownsRow_congr t1 (fun b2 hb2 => heap_setRow_ne (fun e => by subst e; exact hjj (e4 j2 j y2 _ b2 hy2 hyj hb2 rfl))),RAs.mono (Pre.refl m) hF _ _ t2,t3,t4⟩
    · rw [List.getElem?_set_ne (Ne.symm hii)] at q1
      have h:=hs.obj i o c q1 q2
      cases hl : o.live with
      | true =>
        refine h.congr (Pre.refl m) hF (fun b2 hb2 => ⟨heap_setRow_ne (fun e => ?_),rfl⟩)
        subst e
        exact hii (hs.inj i fid o _ c _ b2 q1 hi hl rfl q2 hb hb2 hmem)
      | false => cases o <;> first | trivial | exact h | (simp [AO.live] at hl; done)
  · have back : ∀ (i : Nat) (o : AO),(st.set fid (.fam T k ver (ess.set j es')))[i]? = some o → o.live = true → ∃ o2,st[i]? = some o2 ∧ o2.live = true:=by
      intro i o g l
      by_cases hii : i = fid
      · subst hii; exact ⟨_,hi,rfl⟩
      · rw [List.getElem?_set_ne (Ne.symm hii)] at g; exact ⟨o,g,l⟩
    obtain ⟨p,p1,p2⟩:=back i1 o q1 l1
    obtain ⟨q,u1,u2⟩:=back j1 o' q2 l2
    exact hs.inj i1 j1 p q c c' b2 p1 u1 p2 u2 k1 k2 e1 e2
theorem d_store_pem {α : Type} {E : α → List D} {L : List (List α)} {M : List α} {v z : α} {T : TypeId} {x y : Operand} {fid j vf T' k : Nat} {i : Int} {r0 : AV} (hx : opv env x = some (.pem fid j vf (i.toNat * k))) (hi : st[fid]? = some (.fam T' k vf (famM E L))) (hj : L[j]? = some M) (hv : idx M i = some v) (hE : ∀ x,(E x).length = k) (hy : opv env y = some r0) (hk : r0.okc = true) (hc : Les r0.cells (encA E z)) (hk1 : (encA E z).all AV.ok1 = true) (hn : szOf P T = some k) :
    Does P env st ⟨dst,.store T x y,ty,pos,after,guard⟩ (.d (.v undef)) (st.set fid (.fam T' k vf (famM E (L.set j (M.set i.toNat z))))):=fun m φ a w hs he => by
  obtain ⟨ys,b,len,cap,xs,h1,h2,h3,g3,g4,h6,h7⟩:=pem_spec hs (opv_ok he hx) hi hj
  obtain ⟨us,q1,q2⟩:=RA_cells (opv_ok he hy) hk
  have q2:=hc.ras q2
  have hul:=RAs_length q2
  have hxl:=RAs_length g4
  have hL : M[i.toNat]? = some v:=idx_get hv
  obtain ⟨l1,l2,f1,f2,f3⟩:=flat_at (R:=E) hE hL
  have hze : (encA E z).length = k:=by rw [encA,List.length_map,hE]
  have hve : (encA E v).length = k:=by rw [encA,List.length_map,hE]
  have hnl : (M.map (encA E)).flatten.length = M.length * k:=flat_len hE M
  obtain ⟨r1,r2⟩:=g3
  rcases r2 with ⟨hv',_⟩ | ⟨g,cap',cur,hv',p1,p2,p3,p4,p5,p6⟩
  · cases hv'
  simp only [Value.slice.injEq,Option.some.injEq,Addr.mk.injEq,and_true] at hv'
  obtain ⟨rfl,rfl,rfl⟩:=hv'
  have hoff : i.toNat * k + k ≤ M.length * k:=by
    have : i.toNat + 1 ≤ M.length:=(List.getElem?_eq_some_iff.1 hL).1
    calc i.toNat * k + k = (i.toNat + 1) * k:=by rw [Nat.succ_mul]
      _ ≤ M.length * k:=Nat.mul_le_mul_right _ this
  have hcl : M.length * k ≤ cur.size:=by rw [p5]; exact Nat.mul_le_mul_right _ p3
  have hst:=run_storeCells_at P b (i.toNat * k) T' us 0 cur w p2 (by omega) (RAs_one q2 hk1)
  simp only [Nat.add_zero,hul,hze] at hst
  have hsize : us.length = k:=by omega
  have hes : ((M.set i.toNat z).map (encA E)).flatten = (M.map (encA E)).flatten.take (i.toNat * k) ++ encA E z ++ (M.map (encA E)).flatten.drop (i.toNat * k + k):=by
    rw [f3 z,f1,← f2]
    have : (l1 ++ encA E v ++ l2).drop (l1.length + k) = l2:=by
      rw [show l1.length + k = (l1 ++ encA E v).length by rw [List.length_append,hve],List.drop_left]
    have ht : (l1 ++ encA E v ++ l2).take l1.length = l1:=by rw [List.append_assoc,List.take_left]
    rw [this,ht]
  have hnew : RAs m φ w ((M.set i.toNat z).map (encA E)).flatten (xs.take (i.toNat * k) ++ us ++ xs.drop (i.toNat * k + k)):=by rw [hes]; exact RAs_append (RAs_append (RAs_take _ g4) q2) (RAs_drop _ g4)
  have htk : ((cur.toList.take (i.toNat * k) ++ us ++ cur.toList.drop (i.toNat * k + k)).toArray.toList).take ((M.map (encA E)).length * k) = xs.take (i.toNat * k) ++ us ++ xs.drop (i.toNat * k + k):=by
    rw [List.length_map,← p6]
    generalize i.toNat * k = off at *
    apply List.ext_getElem?
    intro j
    have hcz : cur.toList.length = cur.size:=by simp
    simp only [List.getElem?_take,List.getElem?_append,List.length_append,List.length_take,List.getElem?_drop,hsize,hcz]
    rw [Nat.min_eq_left (show off ≤ cur.size by omega),Nat.min_eq_left (show M.length * k ≤ cur.size by omega),Nat.min_eq_left (show off ≤ M.length * k by omega)]
    by_cases h1 : j < M.length * k
    · rw [if_pos h1]
      by_cases h2 : j < off + k
      · rw [if_pos h2,if_pos h2]
        by_cases h3 : j < off
        · simp only [if_pos h3,if_pos h1]
        · simp only [if_neg h3]
      · rw [if_neg h2,if_neg h2]
        have : off + k + (j - (off + k)) = j:=by omega
        rw [this,if_pos h1]
    · rw [if_neg h1,if_neg (show ¬ j < off + k by omega)]
      have : off + k + (j - (off + k)) = j:=by omega
      rw [this,if_neg h1]
  have hej : (famM E L)[j]? = some (M.map (encA E)):=by simp [famM,hj]
  obtain ⟨k1,k2⟩:=set_mem hs hi h1 h2 hej hnew (by simp) (fun e he => by
    obtain ⟨q,_,rfl⟩:=List.mem_map.1 he
    rw [encA,List.length_map,hE]) cur p2 (cur.toList.take (i.toNat * k) ++ us ++ cur.toList.drop (i.toNat * k + k)).toArray (by simp [hsize]; omega) htk
  have hfam : (famM E L).set j ((M.set i.toNat z).map (encA E)) = famM E (L.set j (M.set i.toNat z)):=by simp [famM,List.map_set]
  rw [hfam] at k2
  refine ⟨undef,_,m,φ,.inr ⟨?_,rfl⟩,k1,k2,RAv⟩
  simp [execOp,Instr.storeAt,Instr.sureAddr,h3,storeVar,q1,run_sizeOf' hn,hsize,hst]
theorem pem_ptr {α : Type} {E : α → List D} {L : List (List α)} {m φ a w} {x : Operand} {fid j vf off T k : Nat} (hs : SR m φ st w) (he : EnvOk m φ w env a) (hx : opv env x = some (.pem fid j vf off)) (hi : st[fid]? = some (.fam T k vf (famM E L))) : ∃ p,a.eval x = .pointer (some p):=by
  have h:=opv_ok he hx
  simp only [RA] at h
  obtain ⟨v0,ys,h1,_,h3⟩:=h
  obtain ⟨ys',h4,_⟩:=hs.obj _ _ _ hi h1
  simp only [Cz.fam.injEq] at h4
  obtain ⟨b,_,_,_,h5⟩:=h3 h4.1.symm
  exact ⟨_,h5⟩
theorem y_eqpm {α : Type} {E : α → List D} {L : List (List α)} {x : Operand} {fid j vf off Te k : Nat} {T T' T2 : TypeId} (hT : P.underlying T = some (.pointer T2)) (hx : opv env x = some (.pem fid j vf off)) (hi : st[fid]? = some (.fam Te k vf (famM E L))) : Yields P env st ⟨dst,.binOp .eql T x (.const (.pointer none)) T',ty,pos,after,guard⟩ (.d (.v (.bool false))):=fun m φ a w hs he => by
  obtain ⟨p,h2⟩:=pem_ptr hs he hx hi
  refine ⟨_,RAv,fun w' _ => ?_⟩
  have hp : P.pointee T = T2:=by simp [Program.pointee,hT]
  have hc : a.eval (.const (.pointer none)) = .pointer none:=rfl
  simp [execOp,h2,hc,eqGuard,binOp,run_equal_pointer_nil w' T _ (by rw [hp]; exact hT)]
theorem y_nepm {α : Type} {E : α → List D} {L : List (List α)} {x : Operand} {fid j vf off Te k : Nat} {T T' T2 : TypeId} (hT : P.underlying T = some (.pointer T2)) (hx : opv env x = some (.pem fid j vf off)) (hi : st[fid]? = some (.fam Te k vf (famM E L))) : Yields P env st ⟨dst,.binOp .neq T x (.const (.pointer none)) T',ty,pos,after,guard⟩ (.d (.v (.bool true))):=fun m φ a w hs he => by
  obtain ⟨p,h2⟩:=pem_ptr hs he hx hi
  refine ⟨_,RAv,fun w' _ => ?_⟩
  have hp : P.pointee T = T2:=by simp [Program.pointee,hT]
  have hc : a.eval (.const (.pointer none)) = .pointer none:=rfl
  simp [execOp,h2,hc,eqGuard,binOp,run_equal_pointer_nil w' T _ (by rw [hp]; exact hT)]
theorem y_nilCheckm {α : Type} {E : α → List D} {L : List (List α)} {x : Operand} {fid j vf off Te k : Nat} (hx : opv env x = some (.pem fid j vf off)) (hi : st[fid]? = some (.fam Te k vf (famM E L))) : Yields P env st ⟨dst,.nilCheck x,ty,pos,after,guard⟩ (.pem fid j vf off):=fun m φ a w hs he => by
  obtain ⟨p,h2⟩:=pem_ptr hs he hx hi
  refine ⟨_,opv_ok he hx,fun w' _ => ?_⟩
  simp [execOp,h2]
end
end Go.Sk
namespace Go.Sk
open Go.RowKit (Below)
section
variable {P : Program} {env : Env} {st : List AO} {dst : Option Tmp} {ty : TypeId} {pos : String} {after : Array Edge} {guard : Option (Nat × Bool)}
theorem y_eqifc {x : Operand} {t T T' : TypeId} {p : D} (hT : P.underlying T = some (.interface (P.methodsAt T))) (hx : opv env x = some (.d (.ifc t p))) : Yields P env st ⟨dst,.binOp .eql T x (.const .nilIface) T',ty,pos,after,guard⟩ (.d (.v (.bool false))):=fun m φ a w _ he => by
  have h:=opv_ok he hx
  simp only [RA,RD] at h
  obtain ⟨z,h,_⟩:=h
  refine ⟨_,RAv,fun w' _ => ?_⟩
  have hc : a.eval (.const .nilIface) = .nilIface:=rfl
  simp [execOp,h,hc,eqGuard,run_eql_held_nil w' T t z hT]
theorem y_eqifn {x : Operand} {T T' : TypeId} (hT : P.underlying T = some (.interface (P.methodsAt T))) (hx : opv env x = some (.d (.v .nilIface))) : Yields P env st ⟨dst,.binOp .eql T x (.const .nilIface) T',ty,pos,after,guard⟩ (.d (.v (.bool true))):=fun m φ a w _ he => by
  have h:=opv_ok he hx
  simp only [RA,RD] at h
  refine ⟨_,RAv,fun w' _ => ?_⟩
  have hc : a.eval (.const .nilIface) = .nilIface:=rfl
  simp [execOp,h,hc,eqGuard,binOp,run_equal_nil_nil w' T hT]
def tasOk (P : Program) (t : TypeId) : Bool:=match P.underlying t with
  | some (.interface _) => false
  | some _ => true
  | none => false
theorem y_tassert {x : Operand} {t T : TypeId} {p : D} (hA : tasOk P t = true) (hx : opv env x = some (.d (.ifc t p))) : Yields P env st ⟨dst,.typeAssert x T t true,ty,pos,after,guard⟩ (.tu [.d p,.d (.v (.bool true))]):=fun m φ a w _ he => by
  have h:=opv_ok he hx
  simp only [RA,RD] at h
  obtain ⟨z,h,hz⟩:=h
  refine ⟨.tuple #[z,.bool true],?_,fun w' _ => ?_⟩
  · simp only [RA]; exact ⟨[z,.bool true],rfl,RAs_cons (by simp only [RA]; exact hz) (RAs_cons RAv RAs_nil)⟩
  · unfold tasOk at hA
    split at hA
    · cases hA
    · rename_i dA hd hu
      cases dA <;> first | exact (hd _ rfl).elim | simp [execOp,h,Instr.typeAssert,run_underlying hu]
    · cases hA
end
theorem gnd_ifc {m φ w} {t : TypeId} {p : D} {v : Value} (h : D.gnd p = some v) : RA m φ w (.d (.ifc t p)) (.iface t v):=by
  simp only [RA,RD]; exact ⟨v,rfl,gnd_RD h⟩
theorem dsp_intro {P : Program} {f : FuncId} {fn : Func} {rest : Code} {id d n : Nat} {ty : TypeId} {pos : String} {after : Array Edge} {caps : List AV} {st st' : List AO} {v : Value} {va : AV} {u u' : FrameMode} (hf : P.funcs[f]? = some fn) (hname : (fn.name == "runtime.NumGoroutine") = false)
    (hb : fn.body = some (.seq (.region id #[⟨some d,.call ⟨.builtin .recover,#[],#[]⟩,ty,pos,after,none⟩] false) rest)) (hres : fn.results = #[]) (hn : fn.ntmps = n) (hle : Nat.ble caps.length n = true) (hd : Nat.ble (d + 1) n = true)
    (hu : ∀ (c0 : Frame) (cs : List Frame),c0.mode = u → (∃ cs',recoverD (c0 :: cs) = some (v,cs') ∧ cs' = { c0 with mode:=u' } :: cs) ∨ (recoverD (c0 :: cs) = none ∧ v = .nilIface ∧ u' = u))
    (hva : ∀ m φ w,RA m φ w va v)
    (h : ∀ m φ w,m.length = st.length → WC P ⟨m,φ,w,n,none,some []⟩ rest (.lp (fun _ st2 => SLe st2 st') (.rend fun _ _ => False)) ((d,va) :: zipEnv 0 caps) st) : DSp P f caps st u u' st':=by
  refine ⟨⟨fn,hf,hname,by simp [hb]⟩,fun m φ w vs hs ha => callsDIn_of_wpSIn hf hb trivial fun c0 cs hu0 => ?_⟩
  have hlen:=RAs_length ha
  have hle:=Nat.le_of_ble_eq_true hle
  have hd:=Nat.le_of_ble_eq_true hd
  refine wpSIn_seq (wpSIn_region ?_)
  generalize hR : bodyPostS P fn c0 cs _ = R
  have key : ∀ cs',cs' = { c0 with mode:=u' } :: cs → rest.wpSIn (EF none) 0 P R (({ tmps:=(⟨vs⟩ : Array Value) ++ Array.replicate (fn.ntmps - (⟨vs⟩ : Array Value).size) undef,defers:=[] } : Act).put (some d) v) cs' w:=by
    intro cs' hcs
    refine wpSIn_of_wpIn rfl ?_
    have hinv : Inv ⟨m,φ,w,n,none,some []⟩ m φ ((d,va) :: zipEnv 0 caps) st (({ tmps:=(⟨vs⟩ : Array Value) ++ Array.replicate (fn.ntmps - (⟨vs⟩ : Array Value).size) undef,defers:=[] } : Act).put (some d) v) w:=by
      refine Inv.put (e:=⟨m,φ,w,n,none,some []⟩) ⟨hs,Ev.refl m φ w,⟨fun t x hx => ?_,hs.gl⟩,?_,rfl⟩ hd (hva m φ w)
      · rw [zipEnv_get] at hx
        simp only [Nat.zero_le,if_true,Nat.sub_zero] at hx
        obtain ⟨y,h1,h2⟩:=RAs_get ha hx
        refine ⟨y,?_,h2⟩
        have hlt : t < vs.length:=by
          rcases Nat.lt_or_ge t vs.length with h' | h'
          · exact h'
          · simp [List.getElem?_eq_none h'] at h1
        rw [Array.getElem?_append_left (by simpa using hlt)]
        simpa using h1
      · simp [hn]; omega
    refine wpIn_mono (h m φ w hs.len m φ _ w hinv) fun x a' w' hx => ?_
    subst hR
    cases x with
    | normal =>
      obtain ⟨env2,st2,m2,φ2,hst2,hi2⟩:=hx
      refine ⟨hi2.df,u',hcs,.tuple #[],results_none hres _ _ _,⟨_,rfl⟩,rfl,m2,φ2,hi2.ev,hi2.sr.weak hst2⟩
    | _ => exact hx.elim
  have hexec : ∀ a : Act,(execOp a.eval (⟨some d,.call ⟨.builtin .recover,#[],#[]⟩,ty,pos,after,none⟩ : Oper)).run P w = .ok .recover w:=fun a => by
    simp [execOp,resolve,invoke,builtin]
  show wpOpsSIn (EF none) 0 P _ _ [0] _ _ w
  unfold wpOpsSIn
  simp only [List.getElem?_toArray,List.getElem?_cons_zero]
  refine ⟨fun _ _ => trivial,?_⟩
  rw [if_pos (by simp [Region.wanted]),hexec]
  rcases hu c0 cs hu0 with ⟨cs',h1,h2⟩ | ⟨h1,h2,h3⟩
  · simp only [h1]
    unfold wpOpsSIn
    exact key cs' h2
  · simp only [h1]
    unfold wpOpsSIn
    subst h2
    refine key _ ?_
    subst h3
    rw [← hu0]
theorem DSp.win {P : Program} {f : FuncId} {caps caps0 : List AV} {st st0 st1 st' : List AO} {u u' : FrameMode} (js : List Nat) (h : DSp P f caps0 st0 u u' st1) (hl : Les caps (AV.rens js caps0)) (hla : AV.lts js.length caps0 = true) (hj : js.Nodup) {st0' st1' : List AO} (hren0 : st0.map (AO.ren js) = st0') (hwin : isWin js st st0')
    (hlt : stLt js.length st0 = true) (hlive : allLr st0 = true) (hlen : st1.length = st0.length) (hlt1 : stLt js.length st1 = true) (hren1 : st1.map (AO.ren js) = st1') (hst : putWin js st1' st = st') : DSp P f caps st u u' st' :=
  ⟨h.1,fun m φ w vs hs ha => by
    obtain ⟨m0,g1,g2,g3⟩:=win_open hs hj (by rw [hren0]; exact hwin) hlt hlive
    refine (h.2 m0 φ w vs g1 (g2 _ _ hla (hl.ras ha))).mono ?_
    rintro en u2 w' ⟨h1,h2,m1,φ',hev,hsr⟩
    have htk : st1.take st0.length = st1:=by rw [← hlen,List.take_length]
    obtain ⟨m',p1,p2,_⟩:=g3 st1 m1 φ' w' hev hsr (by omega) (by rw [htk]; exact hlt1)
    rw [htk,hren1,hst] at p2
    exact ⟨h1,h2,m',φ',p1,p2⟩⟩
section
variable {P : Program} {fn : Func} {env : Env} {st st' : List AO} {f : FuncId} {caps : List AV} {k : Nat}
theorem we_ret_gdc {S : AV → List AO → Prop} {m0 φ0 w0 n} {vs : List Value} {r r0 : AV} {new : List AO} (hcap : RAs m0 φ0 w0 caps vs) (hD : DSp P f caps st .returning .returning st') (hr : Res P fn env st' r) (hl : Le r r0) (hk : Nat.ble k st'.length = true) (hs : SLe (st'.take k) new) (hS : S r0 new) :
    WE P ⟨m0,φ0,w0,n,none,some [dfr f vs]⟩ .ret (.fin fn (WinG k S)) env st:=fun m φ a w hi => by
  have hk:=Nat.le_of_ble_eq_true hk
  have hnl : new.length = k:=by rw [hs.length,List.length_take]; omega
  have h:=we_ret_dc (Q:=fun r' st2 => r' = r0 ∧ st2 = st') hcap hD (hr.le hl) ⟨rfl,rfl⟩ m φ a w hi
  refine LeavesInM.mono (R:=endPost ⟨m0,φ0,w0,n,none,some [dfr f vs]⟩ (fun r' st2 => r' = r0 ∧ st2 = st')) ?_ _ _ _ h
  rintro en w' ⟨v,r',st2,m',φ',rfl,⟨rfl,rfl⟩,hev,hsr,hra⟩
  exact ⟨v,r',_,m',φ',rfl,⟨by rw [List.length_append,hnl]; omega,by rw [← hnl,List.take_left]; exact hS⟩,hev,hsr.weak (sle_take k st2 new hs),hra⟩
theorem we_pan_gdc {S : AV → List AO → Prop} {m0 φ0 w0 n} {vs : List Value} {r r0 : AV} {new : List AO} {c : List PanicEntry} {u' : FrameMode} (hcap : RAs m0 φ0 w0 caps vs) (hD : DSp P f caps st (.panicking c) u' st') (hset : settle u' = .returning) (hr : Res P fn env st' r) (hl : Le r r0) (hk : Nat.ble k st'.length = true) (hs : SLe (st'.take k) new) (hS : S r0 new) :
    WE P ⟨m0,φ0,w0,n,none,some [dfr f vs]⟩ (.panic c) (.fin fn (WinG k S)) env st:=fun m φ a w hi => by
  have hk:=Nat.le_of_ble_eq_true hk
  have hnl : new.length = k:=by rw [hs.length,List.length_take]; omega
  have h:=we_pan_dc (Q:=fun r' st2 => r' = r0 ∧ st2 = st') hcap hD hset (hr.le hl) ⟨rfl,rfl⟩ m φ a w hi
  refine LeavesInM.mono (R:=endPost ⟨m0,φ0,w0,n,none,some [dfr f vs]⟩ (fun r' st2 => r' = r0 ∧ st2 = st')) ?_ _ _ _ h
  rintro en w' ⟨v,r',st2,m',φ',rfl,⟨rfl,rfl⟩,hev,hsr,hra⟩
  exact ⟨v,r',_,m',φ',rfl,⟨by rw [List.length_append,hnl]; omega,by rw [← hnl,List.take_left]; exact hS⟩,hev,hsr.weak (sle_take k st2 new hs),hra⟩
end
end Go.Sk
namespace Go.Sk
open Go.RowKit (Below)
section
variable {P : Program} {e : En} {ops : Array Oper} {rest : List Oper} {env : Env} {st : List AO} {R : Env → List AO → Prop} {ty : TypeId} {pos : String} {after : Array Edge} {guard : Option (Nat × Bool)}
theorem isnil_gen {T T' E d : Nat} {x : Operand} {m φ a w} (hT : P.underlying T = some (.slice E)) (hi : Inv e m φ env st a w) {ad : Option Addr} {ll cc : Nat} (h2 : a.eval x = .slice ad ll cc)
    (hw : Wt ops env ⟨some d,.binOp .eql T x (.const (.slice none 0 0)) T',ty,pos,after,guard⟩ true) (hd : Nat.ble (d + 1) e.n = true) (h : WL P e ops rest ((d,.d (.v (.bool ad.isNone))) :: env) st R) :
    wpLx P ops (okPost e R) (⟨some d,.binOp .eql T x (.const (.slice none 0 0)) T',ty,pos,after,guard⟩ :: rest) a w:=by
  unfold wpLx
  rw [if_pos (hw _ _ _ _ hi.env)]
  refine .inl ?_
  have hrun : (execOp a.eval ⟨some d,.binOp .eql T x (.const (.slice none 0 0)) T',ty,pos,after,guard⟩).run P w = .ok (.value (.bool ad.isNone)) w:=by
    have hc : a.eval (.const (.slice none 0 0)) = .slice none 0 0:=rfl
    simp [execOp,h2,hc,eqGuard,binOp,run_equal_slice_nil w T E ad ll cc hT]
  simp only [Oper.wp,hrun,Oper.upon]
  exact h m φ _ w (hi.put (Nat.le_of_ble_eq_true hd) RAv)
theorem WL.isnilO {T T' E d : Nat} {x : Operand} {id ver Te k : Nat} {α : Type} {RR : α → List D} {L : List α} (hT : P.underlying T = some (.slice E)) (hx : opv env x = some (.os id ver)) (hs : st[id]? = some (.os Te k ver (L.map (encA RR))))
    (hw : Wt ops env ⟨some d,.binOp .eql T x (.const (.slice none 0 0)) T',ty,pos,after,guard⟩ true) (hd : Nat.ble (d + 1) e.n = true) (h : ∀ b : Bool,(b = true → L = []) → WL P e ops rest ((d,.d (.v (.bool b))) :: env) st R) :
    WL P e ops (⟨some d,.binOp .eql T x (.const (.slice none 0 0)) T',ty,pos,after,guard⟩ :: rest) env st R:=fun m φ a w hi => by
  obtain ⟨y,xs,h1,h2,h3,_⟩:=opv_os hi.sr hi.env hx hs
  rw [List.length_map] at h3
  rcases h3.2 with ⟨rfl,hn⟩ | ⟨g,cap,cur,rfl,_⟩
  · exact isnil_gen hT hi h2 hw hd (h true (fun _ => List.eq_nil_of_length_eq_zero (by simpa using hn)))
  · exact isnil_gen hT hi h2 hw hd (h false (fun hb => by cases hb))
theorem mem_val {α : Type} {E : α → List D} {L : List (List α)} {M : List α} {m φ w} {x : Value} {fid j vf T' k : Nat} (hs : SR m φ st w) (hx : RA m φ w (.osf fid j vf) x) (hi : st[fid]? = some (.fam T' k vf (famM E L))) (hj : L[j]? = some M) :
    ∃ xs,w.ownsRow 0 T' k x M.length xs ∧ RAs m φ w (M.map (encA E)).flatten xs:=by
  simp only [RA] at hx
  obtain ⟨v0,ys,h1,h2,h3⟩:=hx
  obtain ⟨ys',h4,h5,h6,_⟩:=hs.obj _ _ _ hi h1
  simp only [Cz.fam.injEq] at h4
  obtain ⟨rfl,rfl⟩:=h4
  have hess : (famM E L)[j]? = some (M.map (encA E)):=by simp [famM,hj]
  obtain ⟨xs,g1,g2,_⟩:=h6 j _ _ hess (h3 rfl)
  rw [List.length_map] at g1
  exact ⟨xs,g1,g2⟩
theorem WL.isnilM {T T' E d : Nat} {x : Operand} {fid j vf Te k : Nat} {α : Type} {RR : α → List D} {L : List (List α)} {M : List α} (hT : P.underlying T = some (.slice E)) (hx : opv env x = some (.osf fid j vf)) (hs : st[fid]? = some (.fam Te k vf (famM RR L))) (hj : L[j]? = some M)
    (hw : Wt ops env ⟨some d,.binOp .eql T x (.const (.slice none 0 0)) T',ty,pos,after,guard⟩ true) (hd : Nat.ble (d + 1) e.n = true) (h : ∀ b : Bool,(b = true → M = []) → WL P e ops rest ((d,.d (.v (.bool b))) :: env) st R) :
    WL P e ops (⟨some d,.binOp .eql T x (.const (.slice none 0 0)) T',ty,pos,after,guard⟩ :: rest) env st R:=fun m φ a w hi => by
  obtain ⟨xs,h3,_⟩:=mem_val hi.sr (opv_ok hi.env hx) hs hj
  rcases h3.2 with ⟨h2,hn⟩ | ⟨g,cap,cur,h2,_⟩
  · exact isnil_gen hT hi h2 hw hd (h true (fun _ => List.eq_nil_of_length_eq_zero (by simpa using hn)))
  · exact isnil_gen hT hi h2 hw hd (h false (fun hb => by cases hb))
theorem Src.mem {α : Type} {E : α → List D} {L : List (List α)} {M : List α} {fid j vf T' k : Nat} (hi : st[fid]? = some (.fam T' k vf (famM E L))) (hj : L[j]? = some M) : Src st (.osf fid j vf) k (M.map (encA E)):=fun m φ w v hs h => by
  obtain ⟨xs,h1,h2⟩:=mem_val hs h hi hj
  refine ⟨xs,h2,by rw [List.length_map]; exact h1.1,?_⟩
  rw [List.length_map]
  rcases h1.2 with ⟨rfl,hn⟩ | ⟨g,cap,cur,rfl,_⟩
  · exact .inl ⟨rfl,hn⟩
  · exact .inr ⟨_,cap,rfl,fun j u hj => h1.cells (g:=g) rfl j u hj⟩
end
def rsvs (k : Nat) (st : List AO) : Bool:=(List.range k).all fun i => match st[i]? with | some .rsv => true | _ => false
theorem rsvs_get {k : Nat} {st : List AO} (h : rsvs k st = true) {i : Nat} (hi : i < k) : st[i]? = some .rsv:=by
  have:=List.all_eq_true.1 h i (List.mem_range.2 hi)
  split at this
  · assumption
  · cases this
end Go.Sk
namespace Go.Sk
open Go.RowKit (Below)
def Cz.rv (t : Nat) : Cz → Cz
  | .tok _ y => .tok t y
  | .fam _ ys => .fam t ys
  | c => c
theorem Cz.rv_has {t : Nat} {c : Cz} {b : Nat} : (c.rv t).has b ↔ c.has b:=by cases c <;> exact Iff.rfl
mutual
def AV.rv (cur T : Nat → Nat) : AV → AV
  | .d x => .d x
  | .pt i o => .pt i o
  | .os i v => bif Nat.beq v (cur i) then .os i (T i) else .u
  | .osf i j v => bif Nat.beq v (cur i) then .osf i j (T i) else .u
  | .tu l => .tu (AV.rvs cur T l)
  | _ => .u
def AV.rvs (cur T : Nat → Nat) : List AV → List AV
  | [] => []
  | x :: l => AV.rv cur T x :: AV.rvs cur T l
end
theorem AV.rvs_map (cur T : Nat → Nat) : ∀ l : List AV,AV.rvs cur T l = l.map (AV.rv cur T)
  | [] => rfl
  | x :: l => by rw [AV.rvs,AV.rvs_map cur T l]; rfl
def AO.rv (cur T : Nat → Nat) (i : Nat) : AO → AO
  | .row t cs => .row t (cs.map (AV.rv cur T))
  | .os t k _ es => .os t k (T i) (es.map fun e => e.map (AV.rv cur T))
  | .fam t k _ ess => .fam t k (T i) (ess.map fun es => es.map fun e => e.map (AV.rv cur T))
  | .rsv => .rsv
  | _ => .dead
def AO.curOk (cur : Nat → Nat) (i : Nat) : AO → Prop
  | .os _ _ v _ => v = cur i
  | .fam _ _ v _ => v = cur i
  | _ => True
section
variable {m m3 : List Cz} {φ : Nat → Nat} {w : World} {cur T : Nat → Nat}
mutual
theorem RA.rv (h3 : ∀ (i : Nat) (c : Cz),m[i]? = some c → m3[i]? = some (c.rv (T i))) (hc : ∀ (i v : Nat) (y : Value),m[i]? = some (.tok v y) → v = cur i) (hf : ∀ (i v : Nat) (y : List Value),m[i]? = some (.fam v y) → v = cur i) : ∀ (x : AV) (y : Value),RA m φ w x y → RA m3 φ w (x.rv cur T) y
  | .d x,y,h => by simpa [RA,AV.rv] using h
  | .pt i o,y,h => by
    simp only [RA,AV.rv] at h ⊢
    obtain ⟨b,h1,h2⟩:=h
    exact ⟨b,h3 _ _ h1,h2⟩
  | .os i v,y,h => by
    simp only [RA] at h
    obtain ⟨v0,y0,h1,_,h2⟩:=h
    simp only [AV.rv]
    cases hb : Nat.beq v (cur i) with
    | false => simp [RA]
    | true =>
      have hv:=Nat.eq_of_beq_eq_true hb
      have:=hc i _ _ h1
      simp only [cond_true,RA]
      exact ⟨T i,y0,h3 _ _ h1,Nat.le_refl _,fun _ => h2 (by omega)⟩
  | .osf i j v,y,h => by
    simp only [RA] at h
    obtain ⟨v0,y0,h1,_,h2⟩:=h
    simp only [AV.rv]
    cases hb : Nat.beq v (cur i) with
    | false => simp [RA]
    | true =>
      have hv:=Nat.eq_of_beq_eq_true hb
      have:=hf i _ _ h1
      simp only [cond_true,RA]
      exact ⟨T i,y0,h3 _ _ h1,Nat.le_refl _,fun _ => h2 (by omega)⟩
  | .tu l,y,h => by
    simp only [RA,AV.rv] at h ⊢
    obtain ⟨cs,h1,h2⟩:=h
    exact ⟨cs,h1,RAs.rv h3 hc hf l cs h2⟩
  | .u,_,_ => by simp [AV.rv,RA]
  | .ag _,_,_ => by simp [AV.rv,RA]
  | .sr _ _ _ _,_,_ => by simp [AV.rv,RA]
  | .fn _ _ _,_,_ => by simp [AV.rv,RA]
  | .mp _,_,_ => by simp [AV.rv,RA]
  | .pe _ _ _,_,_ => by simp [AV.rv,RA]
  | .ow _ _ _ _ _,_,_ => by simp [AV.rv,RA]
  | .fs _,_,_ => by simp [AV.rv,RA]
  | .ifc _ _,_,_ => by simp [AV.rv,RA]
  | .pem _ _ _ _,_,_ => by simp [AV.rv,RA]
  | .yl _,_,_ => by simp [AV.rv,RA]
theorem RAs.rv (h3 : ∀ (i : Nat) (c : Cz),m[i]? = some c → m3[i]? = some (c.rv (T i))) (hc : ∀ (i v : Nat) (y : Value),m[i]? = some (.tok v y) → v = cur i) (hf : ∀ (i v : Nat) (y : List Value),m[i]? = some (.fam v y) → v = cur i) : ∀ (xs : List AV) (ys : List Value),RAs m φ w xs ys → RAs m3 φ w (AV.rvs cur T xs) ys
  | [],ys,h => by simpa [RAs,AV.rvs] using h
  | x :: xs,ys,h => by
    simp only [RAs,AV.rvs] at h ⊢
    obtain ⟨c,cs,h1,h2,h4⟩:=h
    exact ⟨c,cs,h1,RA.rv h3 hc hf x c h2,RAs.rv h3 hc hf xs cs h4⟩
end
theorem RAs.rvm (h3 : ∀ (i : Nat) (c : Cz),m[i]? = some c → m3[i]? = some (c.rv (T i))) (hc : ∀ (i v : Nat) (y : Value),m[i]? = some (.tok v y) → v = cur i) (hf : ∀ (i v : Nat) (y : List Value),m[i]? = some (.fam v y) → v = cur i) {xs : List AV} {ys : List Value} (h : RAs m φ w xs ys) : RAs m3 φ w (xs.map (AV.rv cur T)) ys:=by
  rw [← AV.rvs_map]; exact RAs.rv h3 hc hf xs ys h
theorem OR.rv (h3 : ∀ (i : Nat) (c : Cz),m[i]? = some c → m3[i]? = some (c.rv (T i))) (hc : ∀ (i v : Nat) (y : Value),m[i]? = some (.tok v y) → v = cur i) (hf : ∀ (i v : Nat) (y : List Value),m[i]? = some (.fam v y) → v = cur i) {i : Nat} {o : AO} {c : Cz} (h : OR m φ w o c) : OR m3 φ w (o.rv cur T i) (c.rv (T i)):=by
  cases o with
  | row t cs =>
    obtain ⟨b,rfl,h0,vs,h1,h2⟩:=h
    exact ⟨b,rfl,h0,vs,h1,h2.rvm h3 hc hf⟩
  | os t k v es =>
    obtain ⟨y,xs,rfl,h1,h2,h4,h5⟩:=h
    refine ⟨y,xs,rfl,by rw [List.length_map]; exact h1,?_,fun e he => ?_,h5⟩
    · rw [flatten_mapc]; exact h2.rvm h3 hc hf
    · obtain ⟨e',he',rfl⟩:=List.mem_map.1 he
      rw [List.length_map]; exact h4 e' he'
  | fam t k v ess =>
    obtain ⟨ys,rfl,h1,h2,h4⟩:=h
    refine ⟨ys,rfl,by rw [List.length_map]; exact h1,fun j es y hj hy => ?_,h4⟩
    rw [List.getElem?_map] at hj
    cases hg : ess[j]? with
    | none => rw [hg] at hj; cases hj
    | some es0 =>
      rw [hg,Option.map_some,Option.some.injEq] at hj
      subst hj
      obtain ⟨xs,g1,g2,g3,g4⟩:=h2 j es0 y hg hy
      refine ⟨xs,by rw [List.length_map]; exact g1,?_,fun e he => ?_,g4⟩
      · rw [flatten_mapc]; exact g2.rvm h3 hc hf
      · obtain ⟨e',he',rfl⟩:=List.mem_map.1 he
        rw [List.length_map]; exact g3 e' he'
  | rsv => simp only [OR] at h; subst h; rfl
  | _ => trivial
end
def rvList (cur T : Nat → Nat) : Nat → List AO → List AO
  | _,[] => []
  | i,o :: l => o.rv cur T i :: rvList cur T (i + 1) l
theorem rvList_get {cur T : Nat → Nat} : ∀ {l : List AO} {k i : Nat},(rvList cur T k l)[i]? = (l[i]?).map (AO.rv cur T (k + i))
  | [],k,i => by simp [rvList]
  | o :: l,k,0 => by simp [rvList]
  | o :: l,k,i + 1 => by simp only [rvList,List.getElem?_cons_succ,rvList_get (l:=l)]; congr 2; omega
theorem rvList_len {cur T : Nat → Nat} : ∀ {l : List AO} {k : Nat},(rvList cur T k l).length = l.length
  | [],_ => rfl
  | o :: l,k => by simp [rvList,rvList_len (l:=l)]
def rvCz (T : Nat → Nat) : Nat → List Cz → List Cz
  | _,[] => []
  | i,c :: l => c.rv (T i) :: rvCz T (i + 1) l
theorem rvCz_get {T : Nat → Nat} : ∀ {l : List Cz} {k i : Nat},(rvCz T k l)[i]? = (l[i]?).map (fun c => c.rv (T (k + i)))
  | [],k,i => by simp [rvCz]
  | o :: l,k,0 => by simp [rvCz]
  | o :: l,k,i + 1 => by simp only [rvCz,List.getElem?_cons_succ,rvCz_get (l:=l)]; congr 2; funext c; congr 1; congr 1; omega
theorem rvCz_len {T : Nat → Nat} : ∀ {l : List Cz} {k : Nat},(rvCz T k l).length = l.length
  | [],_ => rfl
  | o :: l,k => by simp [rvCz,rvCz_len (l:=l)]
theorem AO.rv_live {cur T : Nat → Nat} {i : Nat} {o : AO} (h : (o.rv cur T i).live = true) : o.live = true:=by cases o <;> first | rfl | exact h | (simp [AO.rv,AO.live] at h)
theorem SR.rv {m : List Cz} {φ w} {st : List AO} {cur T : Nat → Nat} (hs : SR m φ st w) (hcur : ∀ (i : Nat) (o : AO),st[i]? = some o → o.curOk cur i) (hall : ∀ o ∈ st,o ≠ .dead ∧ (∀ s p,o ≠ .si s p) ∧ (∀ a b c d,o ≠ .lp a b c d) ∧ ∀ l,o ≠ .mp l) :
    SR (rvCz T 0 m) φ (rvList cur T 0 st) w ∧ (∀ x v,RA m φ w x v → RA (rvCz T 0 m) φ w (x.rv cur T) v):=by
  have h3 : ∀ (i : Nat) (c : Cz),m[i]? = some c → (rvCz T 0 m)[i]? = some (c.rv (T i)):=fun i c h => by rw [rvCz_get,h]; simp
  have hobj : ∀ (i : Nat) (c : Cz),m[i]? = some c → ∃ o,st[i]? = some o ∧ OR m φ w o c:=fun i c h => by
    have hi : i < st.length:=by rw [← hs.len]; exact (List.getElem?_eq_some_iff.1 h).1
    exact ⟨_,List.getElem?_eq_getElem hi,hs.obj i _ c (List.getElem?_eq_getElem hi) h⟩
  have hc : ∀ (i v : Nat) (y : Value),m[i]? = some (.tok v y) → v = cur i:=fun i v y h => by
    obtain ⟨o,h1,h2⟩:=hobj i _ h
    have h4:=hcur i o h1
    have h5:=hall o (List.mem_of_getElem? h1)
    cases o with
    | os t k v' es => obtain ⟨y',_,h6,_⟩:=h2; simp only [Cz.tok.injEq] at h6; rw [h6.1]; exact h4
    | row t cs => obtain ⟨b,h6,_⟩:=h2; cases h6
    | fam t k v' es => obtain ⟨ys,h6,_⟩:=h2; cases h6
    | rsv => simp only [OR] at h2; cases h2
    | dead => exact absurd rfl h5.1
    | mp l => exact absurd rfl (h5.2.2.2 _)
    | si s p => exact absurd rfl (h5.2.1 _ _)
    | lp a b c d => exact absurd rfl (h5.2.2.1 _ _ _ _)
  have hf : ∀ (i v : Nat) (y : List Value),m[i]? = some (.fam v y) → v = cur i:=fun i v y h => by
    obtain ⟨o,h1,h2⟩:=hobj i _ h
    have h4:=hcur i o h1
    have h5:=hall o (List.mem_of_getElem? h1)
    cases o with
    | os t k v' es => obtain ⟨y',_,h6,_⟩:=h2; cases h6
    | row t cs => obtain ⟨b,h6,_⟩:=h2; cases h6
    | fam t k v' es => obtain ⟨ys,h6,_⟩:=h2; simp only [Cz.fam.injEq] at h6; rw [h6.1]; exact h4
    | rsv => simp only [OR] at h2; cases h2
    | dead => exact absurd rfl h5.1
    | mp l => exact absurd rfl (h5.2.2.2 _)
    | si s p => exact absurd rfl (h5.2.1 _ _)
    | lp a b c d => exact absurd rfl (h5.2.2.1 _ _ _ _)
  have back : ∀ (i : Nat) (c : Cz),(rvCz T 0 m)[i]? = some c → ∃ c0,m[i]? = some c0 ∧ c = c0.rv (T i):=fun i c h => by
    rw [rvCz_get] at h
    cases hg : m[i]? with
    | none => rw [hg] at h; cases h
    | some c0 => rw [hg,Option.map_some,Option.some.injEq,Nat.zero_add] at h; exact ⟨c0,rfl,h.symm⟩
  have backO : ∀ (i : Nat) (o : AO),(rvList cur T 0 st)[i]? = some o → ∃ o0,st[i]? = some o0 ∧ o = o0.rv cur T i:=fun i c h => by
    rw [rvList_get] at h
    cases hg : st[i]? with
    | none => rw [hg] at h; cases h
    | some c0 => rw [hg,Option.map_some,Option.some.injEq,Nat.zero_add] at h; exact ⟨c0,rfl,h.symm⟩
  refine ⟨⟨by rw [rvCz_len,rvList_len]; exact hs.len,fun i o c h1 h2 => ?_,hs.lt,fun i j o o' c c' b h1 h2 l1 l2 k1 k2 e1 e2 => ?_,hs.gl,fun b ⟨i,c,h1,h2⟩ => ?_⟩,fun x v h => RA.rv h3 hc hf x v h⟩
  · obtain ⟨o0,g1,rfl⟩:=backO i o h1
    obtain ⟨c0,g2,rfl⟩:=back i c h2
    exact OR.rv h3 hc hf (hs.obj i o0 c0 g1 g2)
  · obtain ⟨o0,g1,rfl⟩:=backO i o h1
    obtain ⟨o1,g2,rfl⟩:=backO j o' h2
    obtain ⟨c0,g3,rfl⟩:=back i c k1
    obtain ⟨c1,g4,rfl⟩:=back j c' k2
    exact hs.inj i j o0 o1 c0 c1 b g1 g2 (AO.rv_live l1) (AO.rv_live l2) g3 g4 (Cz.rv_has.1 e1) (Cz.rv_has.1 e2)
  · obtain ⟨c0,g3,rfl⟩:=back i c h1
    exact hs.nb b ⟨i,c0,g3,Cz.rv_has.1 h2⟩
def AO.plainB : AO → Bool | .dead => false | .si _ _ => false | .lp _ _ _ _ => false | .mp _ => false | _ => true
theorem plainB_spec {l : List AO} (h : l.all AO.plainB = true) : ∀ o ∈ l,o ≠ .dead ∧ (∀ s p,o ≠ .si s p) ∧ (∀ a b c d,o ≠ .lp a b c d) ∧ ∀ l,o ≠ .mp l:=fun o ho => by
  have:=List.all_eq_true.1 h o ho
  cases o <;> simp_all [AO.plainB]
def curOks (cur : Nat → Nat) : Nat → List AO → Prop
  | _,[] => True
  | i,o :: l => o.curOk cur i ∧ curOks cur (i + 1) l
theorem curOks_get {cur : Nat → Nat} : ∀ {l : List AO} {k : Nat},curOks cur k l → ∀ (i : Nat) (o : AO),l[i]? = some o → o.curOk cur (k + i)
  | o :: l,k,h,0,o',ho => by simp only [List.getElem?_cons_zero,Option.some.injEq] at ho; subst ho; exact h.1
  | o :: l,k,h,i + 1,o',ho => by
    have:=curOks_get h.2 i o' (by simpa using ho)
    rw [show k + (i + 1) = k + 1 + i by omega]; exact this
  | [],_,_,i,o',ho => by simp at ho
theorem we_ret_newv {P : Program} {fn : Func} {env : Env} {st st1 : List AO} {k : Nat} {S : AV → List AO → Prop} {m0 φ0 w0 n} {r r1 r2 : AV} (perm : List Nat) (r0 : AV) (new : List AO) (cur T : Nat → Nat) {new' new2 : List AO} (hr : Res P fn env st r) (hrr : r0.ren perm = r1) (hl : Le r r1) (hwk : SLe st st1)
    (hp : perm.Nodup) (hren : new.map (AO.ren perm) = new') (hwin : isWin perm st1 new') (hlt : stLt perm.length new = true) (hr0 : r0.lt perm.length = true) (hm0 : m0.length = k) (hk : k = perm.length)
    (hfix : rsvs k st = true) (hcur : curOks cur 0 new) (hpl : new.all AO.plainB = true) (hn2 : rvList cur T 0 new = new2) (hr2 : r0.rv cur T = r2) (hS : S r2 new2) : WE P ⟨m0,φ0,w0,n,none,none⟩ .ret (.fin fn (WinG k S)) env st:=fun m φ a w hi => by
  have h:=leaves_marks (F:=EF none) (n:=0) (e:=⟨m0,φ0,w0,n,none,none⟩) (Q:=fun r' st' => r' = r0.ren perm ∧ st' = st) (hr.le (by rw [hrr]; exact hl)) ⟨rfl,rfl⟩ a.defers w hi.df.marks hi.sr hi.env hi.ev
  refine LeavesInM.mono (R:=endPost ⟨m0,φ0,w0,n,none,none⟩ (fun r' st' => r' = r0.ren perm ∧ st' = st)) ?_ _ _ _ h
  rintro en w' ⟨v,r',st',m',φ',rfl,⟨rfl,rfl⟩,hev,hsr,hra⟩
  obtain ⟨m2,g1,g2,g3⟩:=win_end hsr hev hra hwk hp (by rw [hren]; exact hwin) hlt hr0 (by show m0.length = _; rw [hm0,hk]) (fun i hi => .inr (rsvs_get hfix (by omega)))
  have hnl : new.length = k:=by
    have:=(isWin_spec hwin).1
    rw [← hren,List.length_map] at this; rw [this,hk]
  obtain ⟨q1,q2⟩:=SR.rv (T:=T) g2 (fun i o ho => by have:=curOks_get hcur i o ho; rwa [Nat.zero_add] at this) (plainB_spec hpl)
  rw [hn2] at q1
  have q3:=q2 _ _ g3
  rw [hr2] at q3
  have hl2 : new2.length = k:=by rw [← hn2,rvList_len,hnl]
  have hm2 : m2.length = k:=by rw [g2.len,hnl]
  have hrs : ∀ (i : Nat) (c : Cz),m0[i]? = some c → c = .non:=fun i c hc => by
    have hik : i < k:=by rw [← hm0]; exact (List.getElem?_eq_some_iff.1 hc).1
    obtain ⟨c',h1,h2⟩:=hev.pre i c hc
    have h3 : c' = .non:=hsr.obj i _ c' (rsvs_get hfix hik) h1
    subst h3
    cases c with
    | non => rfl
    | blk b => simp [Cz.le] at h2
    | tok v y => simp [Cz.le] at h2
    | fam v y => simp [Cz.le] at h2
  refine ⟨v,r2,new2,_,φ',rfl,⟨by omega,by rw [← hl2,List.take_length]; exact hS⟩,⟨fun i c hc => ?_,fun b ⟨i,c,h1,h2⟩ => ?_,g1.os,g1.tape,g1.output,g1.size,g1.keep,g1.fz⟩,q1,q3⟩
  · have:=hrs i c hc
    subst this
    have hik : i < (rvCz T 0 m2).length:=by rw [rvCz_len,hm2,← hm0]; exact (List.getElem?_eq_some_iff.1 hc).1
    exact ⟨_,List.getElem?_eq_getElem hik,trivial⟩
  · rw [rvCz_get] at h1
    cases hg : m2[i]? with
    | none => rw [hg] at h1; cases h1
    | some c0 =>
      rw [hg,Option.map_some,Option.some.injEq] at h1
      subst h1
      exact g1.new b ⟨i,c0,hg,Cz.rv_has.1 h2⟩
theorem rv_os {α : Type} (cur T : Nat → Nat) (i t k v : Nat) (E : α → List D) (L : List α) : AO.rv cur T i (.os t k v (L.map (encA E))) = .os t k (T i) (L.map (encA E)):=by
  simp only [AO.rv,List.map_map,AO.os.injEq,true_and]
  refine List.map_congr_left fun x _ => ?_
  simp only [Function.comp,encA,List.map_map]
  exact List.map_congr_left fun d _ => rfl
theorem rv_fam {α : Type} (cur T : Nat → Nat) (i t k v : Nat) (E : α → List D) (L : List (List α)) : AO.rv cur T i (.fam t k v (famM E L)) = .fam t k (T i) (famM E L):=by
  simp only [AO.rv,famM,List.map_map,AO.fam.injEq,true_and]
  refine List.map_congr_left fun M _ => ?_
  have:=rv_os cur T 0 0 0 0 E M
  simp only [AO.rv,AO.os.injEq,true_and] at this
  exact this
theorem rv_osf (cur T : Nat → Nat) (i t v fid fv n : Nat) (h : fv = cur fid) : AO.rv cur T i (.os t 1 v (famE fid fv n)) = .os t 1 (T i) (famE fid (T fid) n):=by
  simp only [AO.rv,famE,List.map_map,AO.os.injEq,true_and]
  refine List.map_congr_left fun j _ => ?_
  simp only [Function.comp,List.map_cons,List.map_nil,AV.rv,h,Nat.beq_refl,cond_true]
end Go.Sk
namespace Go.Sk
open Go.RowKit (Below)
abbrev nilOf (_ : Unit) : Value:=.pointer none
section
variable {P : Program} {env : Env} {st : List AO} {dst : Option Tmp} {ty : TypeId} {pos : String} {after : Array Edge} {guard : Option (Nat × Bool)}
end
end Go.Sk
namespace Go.Sk
open Go.RowKit (Below)
section
variable {P : Program} {env : Env} {st : List AO} {dst : Option Tmp} {ty : TypeId} {pos : String} {after : Array Edge} {guard : Option (Nat × Bool)}
end
section
variable {P : Program} {env : Env} {st : List AO}
end
section
variable {P : Program} {env : Env} {st : List AO} {dst : Option Tmp} {ty : TypeId} {pos : String} {after : Array Edge} {guard : Option (Nat × Bool)}
end
section
variable {e : En} {env : Env} {st : List AO}
end
end Go.Sk
namespace Go.Sk
abbrev AV.n (x : Int) : AV:=.d (D.i .i64 x)
abbrev AV.l {α : Type} (E : α → List D) (L : List α) : AV:=.d (.sl (L.map E))
theorem q {α : Sort _} {a : α} : a = a:=rfl
abbrev Zt : True:=trivial
abbrev Zs:=@Les.refl
theorem Zp {T : Nat} {l : List AV} : OLe (.row T l) (.row T l):=⟨rfl,Les.refl _⟩
theorem Zf {α β γ δ : Type} {a : α} {b : β} {c : γ} {d : δ} : a = a ∧ b = b ∧ c = c ∧ d = d:=⟨rfl,rfl,rfl,rfl⟩
abbrev Zw:=@Wt.none
theorem Oi {α : Type} {a b : α} (h : some a = some b) : a = b:=Option.some.inj h
abbrev Zd:=@WL.done1
abbrev eM {α : Type} (E : α → List D) (L : List α) : List (List AV):=L.map (encA E)
abbrev rF (t f : Nat) : AO:=.row t [.fn (.func f) [] []]
abbrev Zl {a : AV} : Le a a:=Le.refl a
abbrev Zn:=@WL.ns
abbrev Zq:=@WL.qn
abbrev Zy:=@WL.qy
theorem Sx {env' env : Env} {t : Nat} {x : AV} (h : env.get t = some x) (hs : Sub env' env) : Sub ((t,x) :: env') env:=Sub.cons h (Le.refl _) hs
theorem Ro {js : List Nat} {T k v : Nat} {α : Type} {E : α → List D} {L : List α} {l l' : List AO} (h : l = l') : AO.ren js (.os T k v (L.map (encA E))) :: l = .os T k v (L.map (encA E)) :: l':=cons_eq (ren_os _ _ _ _ _ _) h
theorem Rf {js : List Nat} {T k v : Nat} {α : Type} {E : α → List D} {L : List (List α)} {l l' : List AO} (h : l = l') : AO.ren js (.fam T k v (famM E L)) :: l = .fam T k v (famM E L) :: l':=cons_eq (ren_fam _ _ _ _ _ _) h
theorem Rg {js : List Nat} {T v fid fv n : Nat} {l l' : List AO} (h : l = l') : AO.ren js (.os T 1 v (famE fid fv n)) :: l = .os T 1 v (famE (js.getD fid 0) fv n) :: l':=cons_eq (ren_osf _ _ _ _ _ _) h
end Go.Sk
namespace Go.Sk
inductive NT (α : Type) where
  | lf
  | nd (k : Nat) (v : α) (l r : NT α)
def NT.get {α : Type} : NT α → Nat → Option α
  | .lf,_ => none
  | .nd k v l r,i => bif Nat.beq i k then some v else bif Nat.blt i k then l.get i else r.get i
def NT.chk {α : Type} (f : Nat → Option α) (eq : α → α → Bool) : NT α → Bool
  | .lf => true
  | .nd k v l r => (match f k with | some u => eq u v | none => false) && (l.chk f eq && r.chk f eq)
theorem NT.chk_get {α : Type} {f : Nat → Option α} {eq : α → α → Bool} (he : ∀ a b,eq a b = true → a = b) : ∀ {t : NT α},t.chk f eq = true → ∀ {i : Nat} {v : α},t.get i = some v → f i = some v
  | .lf,_,i,v,h => by cases h
  | .nd k u l r,hc,i,v,h => by
    simp only [NT.chk,Bool.and_eq_true] at hc
    unfold NT.get at h
    cases hb : Nat.beq i k with
    | true =>
      rw [hb] at h
      obtain rfl:=Nat.eq_of_beq_eq_true hb
      obtain rfl:=Option.some.inj h
      have h1:=hc.1
      cases hf : f i with
      | none => rw [hf] at h1; cases h1
      | some w => rw [hf] at h1; rw [he _ _ h1]
    | false =>
      rw [hb] at h
      simp only [cond_false] at h
      cases hl : Nat.blt i k with
      | true => rw [hl] at h; exact NT.chk_get he hc.2.1 h
      | false => rw [hl] at h; exact NT.chk_get he hc.2.2 h
structure Ty where
  ag : NT Bool
  sz : NT Nat
  fo : NT (Nat × Nat × Bool)
  un : NT IntKind
def unK (P : Program) (T : Nat) : Option IntKind:=match P.underlying T with
  | some (.int k) => some k
  | _ => none
def foEq (a b : Nat × Nat × Bool) : Bool:=Nat.beq a.1 b.1 && (Nat.beq a.2.1 b.2.1 && (a.2.2 == b.2.2))
def Ty.ok (P : Program) (t : Ty) : Bool :=
  t.ag.chk (aggOf P) (· == ·) && (t.sz.chk (szOf P) Nat.beq && (t.fo.chk (fun i => fieldOf P (i / 64) (i % 64)) foEq && t.un.chk (unK P) (fun a b => decide (a = b))))
def Ty.fo' (t : Ty) (S i : Nat) : Option (Nat × Nat × Bool):=bif Nat.blt i 64 then t.fo.get (S * 64 + i) else none
class Tys (P : Program) where
  t : Ty
  h : t.ok P = true
section
variable {P : Program} {t : Ty} (ht : t.ok P = true)
include ht
theorem Ty.ag_ok {T : Nat} {b : Bool} (h : t.ag.get T = some b) : aggOf P T = some b:=by
  simp only [Ty.ok,Bool.and_eq_true] at ht
  exact NT.chk_get (fun a b h => by simpa using h) ht.1 h
theorem Ty.sz_ok {T : Nat} {b : Nat} (h : t.sz.get T = some b) : szOf P T = some b:=by
  simp only [Ty.ok,Bool.and_eq_true] at ht
  exact NT.chk_get (fun a b h => Nat.eq_of_beq_eq_true h) ht.2.1 h
theorem Ty.fo_ok {S i : Nat} {b : Nat × Nat × Bool} (h : t.fo' S i = some b) : fieldOf P S i = some b:=by
  simp only [Ty.ok,Bool.and_eq_true] at ht
  unfold Ty.fo' at h
  cases hb : Nat.blt i 64 with
  | false => rw [hb] at h; cases h
  | true =>
    rw [hb] at h
    have hlt : i < 64:=by have:=Nat.le_of_ble_eq_true hb; omega
    have:=NT.chk_get (fun a b h => by
      simp only [foEq,Bool.and_eq_true] at h
      obtain ⟨h1,h2,h3⟩:=h
      obtain ⟨a1,a2,a3⟩:=a
      obtain ⟨b1,b2,b3⟩:=b
      simp only at h1 h2 h3
      rw [Nat.eq_of_beq_eq_true h1,Nat.eq_of_beq_eq_true h2,eq_of_beq h3]) ht.2.2.1 h
    have e1 : (S * 64 + i) / 64 = S:=by omega
    have e2 : (S * 64 + i) % 64 = i:=by omega
    simpa only [e1,e2] using this
theorem Ty.un_ok {T : Nat} {k : IntKind} (h : t.un.get T = some k) : P.underlying T = some (.int k):=by
  simp only [Ty.ok,Bool.and_eq_true] at ht
  have:=NT.chk_get (fun a b h => of_decide_eq_true h) ht.2.2.2 h
  unfold unK at this
  split at this
  · rename_i hu; rw [hu]; rw [Option.some.inj this]
  · cases this
end
def intOp (k : IntKind) (p q : Int) : BinOp → Option AV
  | .add => some (.d (.v (.int k (k.wrap (p + q)))))
  | .sub => some (.d (.v (.int k (k.wrap (p - q)))))
  | .mul => some (.d (.v (.int k (k.wrap (p * q)))))
  | .lss => some (.d (.v (.bool (decide (p < q)))))
  | .leq => some (.d (.v (.bool (decide (p ≤ q)))))
  | .gtr => some (.d (.v (.bool (decide (p > q)))))
  | .geq => some (.d (.v (.bool (decide (p ≥ q)))))
  | .eql => some (.d (.v (.bool (decide (p = q)))))
  | .neq => some (.d (.v (.bool (!decide (p = q)))))
  | _ => none
def strOp (p q : ByteArray) : BinOp → Option AV
  | .eql => some (.d (.v (.bool (p.toList == q.toList))))
  | .neq => some (.d (.v (.bool (!(p.toList == q.toList)))))
  | _ => none
def binS (b : BinOp) : AV → AV → Option AV
  | .d (.v (.int k p)),.d (.v (.int k' q)) => bif decide (k = k') then intOp k p q b else none
  | .d (.v (.string p)),.d (.v (.string q)) => strOp p q b
  | _,_ => none
def loadS (t : Ty) (st : List AO) (T : Nat) : AV → Option AV
  | .pt id off => match t.ag.get T with
    | some false => match st[id]? with
      | some (.row _ cs) => cs[off]?
      | _ => none
    | some true => match st[id]?,t.sz.get T with
      | some (.row _ cs),some n => bif Nat.ble (off + n) cs.length then some (.ag ((cs.drop off).take n)) else none
      | _,_ => none
    | none => none
  | .d (.pc ps) => match t.ag.get T with
    | some false => match ps[0]? with
      | some p => some (.d p)
      | none => none
    | some true => match t.sz.get T with
      | some n => bif Nat.ble n ps.length then some (.d (.ag (ps.take n))) else none
      | none => none
    | none => none
  | _ => none
def faS (fo : Nat) : AV → Option AV
  | .pt id off => some (.pt id (off + fo))
  | .d (.pc ps) => some (.d (.pc (ps.drop fo)))
  | _ => none
def fldS (f : Nat × Nat × Bool) : AV → Option AV
  | .d (.ag ps) => match f with
    | (fo,_,false) => match ps[fo]? with
      | some p => some (.d p)
      | none => none
    | (fo,n,true) => some (.d (.ag ((ps.drop fo).take n)))
  | .ag ps => match f with
    | (fo,_,false) => ps[fo]?
    | (fo,n,true) => some (.ag ((ps.drop fo).take n))
  | _ => none
def nilS : AV → Option AV
  | .pt id off => some (.pt id off)
  | .d (.pc ps) => some (.d (.pc ps))
  | .fn (.func f) a b => some (.fn (.func f) a b)
  | _ => none
def extS (i : Nat) : AV → Option AV
  | .tu l => l[i]?
  | .d (.tu l) => match l[i]? with
    | some p => some (.d p)
    | none => none
  | _ => none
def notS : AV → Option AV
  | .d (.v (.bool b)) => some (.d (.v (.bool (!b))))
  | _ => none
def negS : AV → Option AV
  | .d (.v (.int k p)) => some (.d (.v (.int k (k.wrap (0 - p)))))
  | _ => none
def convS (k : IntKind) : AV → Option AV
  | .d (.v (.int _ p)) => some (.d (.v (.int k (k.wrap p))))
  | _ => none
def boolS : AV → Option Bool
  | .d (.v (.bool b)) => some b
  | _ => none
theorem boolS_eq {x : AV} {b : Bool} (h : boolS x = some b) : x = .d (.v (.bool b)):=by
  unfold boolS at h
  split at h
  · rw [Option.some.inj h]
  · cases h
def stepY (t : Ty) (env : Env) (st : List AO) : Op → Option AV
  | .move x => opv env x
  | .assign x => opv env x
  | .pick c x y => match (opv env c).bind boolS with
    | some true => opv env x
    | some false => opv env y
    | none => none
  | .load T x => (opv env x).bind (loadS t st T)
  | .fieldAddr S x i => match t.fo' S i with
    | some (fo,_ + 1,_) => (opv env x).bind (faS fo)
    | _ => none
  | .field S x i => match t.fo' S i with
    | some f => (opv env x).bind (fldS f)
    | none => none
  | .nilCheck x => (opv env x).bind nilS
  | .extract x i => (opv env x).bind (extS i)
  | .unOp .not _ x => (opv env x).bind notS
  | .unOp .neg _ x => (opv env x).bind negS
  | .binOp b _ x y _ => match opv env x,opv env y with
    | some u1,some v1 => binS b u1 v1
    | _,_ => none
  | .convert S T x => match t.un.get S,t.un.get T with
    | some _,some k => (opv env x).bind (convS k)
    | _,_ => none
  | .makeFunc f first caps => match opvs env first.toList,opvs env caps.toList with
    | some a,some b => some (.fn f a b)
    | _,_ => none
  | _ => none
theorem bindE {α β : Type} {o : Option α} {f : α → Option β} {r : β} (h : o.bind f = some r) : ∃ x,o = some x ∧ f x = some r:=by
  cases o with
  | none => cases h
  | some x => exact ⟨x,rfl,h⟩
section
variable {P : Program} {t : Ty} (ht : t.ok P = true) {env : Env} {st : List AO} {dst : Option Tmp} {ty : TypeId} {pos : String} {after : Array Edge} {guard : Option (Nat × Bool)}
include ht
theorem stepY_ok {op : Op} {r : AV} (h : stepY t env st op = some r) : Yields P env st ⟨dst,op,ty,pos,after,guard⟩ r:=by
  cases op with
  | move x => exact y_move h
  | assign x => exact y_assign h
  | pick c x y =>
    dsimp only [stepY] at h
    split at h
    · rename_i hc; obtain ⟨z,h1,h2⟩:=bindE hc; rw [boolS_eq h2] at h1; exact y_pick_t h1 h
    · rename_i hc; obtain ⟨z,h1,h2⟩:=bindE hc; rw [boolS_eq h2] at h1; exact y_pick_f h1 h
    · cases h
  | load T x =>
    obtain ⟨z,h1,h2⟩:=bindE h
    unfold loadS at h2
    split at h2
    · split at h2
      · rename_i ha
        split at h2
        · rename_i hs; exact y_load h1 hs (Ty.ag_ok ht ha) h2
        · cases h2
      · rename_i ha
        split at h2
        · rename_i hs hn
          cases hb : Nat.ble (_ + _) (List.length _) with
          | false => rw [hb] at h2; cases h2
          | true => rw [hb] at h2; obtain rfl:=Option.some.inj h2; exact y_loadN h1 hs (Ty.ag_ok ht ha) (Ty.sz_ok ht hn) hb
        · cases h2
      · cases h2
    · split at h2
      · rename_i ha
        split at h2
        · rename_i hp; obtain rfl:=Option.some.inj h2; exact y_loadc h1 (Ty.ag_ok ht ha) hp
        · cases h2
      · rename_i ha
        split at h2
        · rename_i hn
          cases hb : Nat.ble _ (List.length _) with
          | false => rw [hb] at h2; cases h2
          | true => rw [hb] at h2; obtain rfl:=Option.some.inj h2; exact y_loadcN h1 (Ty.ag_ok ht ha) (Ty.sz_ok ht hn) hb
        · cases h2
      · cases h2
    · cases h2
  | fieldAddr S x i =>
    dsimp only [stepY] at h
    split at h
    · rename_i hf
      obtain ⟨z,h1,h2⟩:=bindE h
      unfold faS at h2
      split at h2
      · obtain rfl:=Option.some.inj h2; exact y_fieldAddr (Ty.fo_ok ht hf) h1
      · obtain rfl:=Option.some.inj h2; exact y_fieldAddrc (Ty.fo_ok ht hf) h1
      · cases h2
    · cases h
  | field S x i =>
    dsimp only [stepY] at h
    split at h
    · rename_i hf
      obtain ⟨z,h1,h2⟩:=bindE h
      unfold fldS at h2
      split at h2
      · split at h2
        · split at h2
          · rename_i hp; obtain rfl:=Option.some.inj h2; exact y_field (Ty.fo_ok ht hf) h1 hp
          · cases h2
        · obtain rfl:=Option.some.inj h2; exact y_fieldN (Ty.fo_ok ht hf) h1
      · split at h2
        · exact y_fielda (Ty.fo_ok ht hf) h1 h2
        · obtain rfl:=Option.some.inj h2; exact y_fieldaN (Ty.fo_ok ht hf) h1
      · cases h2
    · cases h
  | nilCheck x =>
    obtain ⟨z,h1,h2⟩:=bindE h
    unfold nilS at h2
    split at h2
    · obtain rfl:=Option.some.inj h2; exact y_nilCheckp h1
    · obtain rfl:=Option.some.inj h2; exact y_nilCheckc h1
    · obtain rfl:=Option.some.inj h2; exact y_nilCheckf h1
    · cases h2
  | extract x i =>
    obtain ⟨z,h1,h2⟩:=bindE h
    unfold extS at h2
    split at h2
    · exact y_extract h1 h2
    · split at h2
      · rename_i hp; obtain rfl:=Option.some.inj h2; exact y_extractd h1 hp
      · cases h2
    · cases h2
  | unOp u T x =>
    cases u with
    | not =>
      obtain ⟨z,h1,h2⟩:=bindE h
      unfold notS at h2
      split at h2
      · obtain rfl:=Option.some.inj h2; exact y_not h1
      · cases h2
    | neg =>
      obtain ⟨z,h1,h2⟩:=bindE h
      unfold negS at h2
      split at h2
      · obtain rfl:=Option.some.inj h2; exact y_neg h1 rfl
      · cases h2
    | _ => cases h
  | binOp b T x y T' =>
    dsimp only [stepY] at h
    split at h
    · rename_i hu hv
      unfold binS at h
      split at h
      · rename_i k p k' q
        cases hk : decide (k = k') with
        | false => rw [hk] at h; cases h
        | true =>
          rw [hk] at h
          have hk:=of_decide_eq_true hk
          subst hk
          simp only [cond_true] at h
          cases b <;> simp only [intOp] at h <;> first | cases h | (obtain rfl:=Option.some.inj h)
          · exact y_add hu hv rfl
          · exact y_sub hu hv rfl
          · exact y_mul hu hv rfl
          · exact y_eql hu hv
          · exact y_neq hu hv
          · exact y_lss hu hv
          · exact y_leq hu hv
          · exact y_gtr hu hv
          · exact y_geq hu hv
      · cases b <;> simp only [strOp] at h <;> first | cases h | (obtain rfl:=Option.some.inj h)
        · exact y_eqs hu hv
        · exact y_nes hu hv
      · cases h
    · cases h
  | convert S T x =>
    dsimp only [stepY] at h
    split at h
    · rename_i hS hT
      obtain ⟨z,h1,h2⟩:=bindE h
      unfold convS at h2
      split at h2
      · obtain rfl:=Option.some.inj h2; exact y_conv (Ty.un_ok ht hS) (Ty.un_ok ht hT) h1 rfl
      · cases h2
    · cases h
  | makeFunc f a b =>
    dsimp only [stepY] at h
    split at h
    · rename_i h1 h2
      obtain rfl:=Option.some.inj h
      exact y_makeFunc h1 h2
    · cases h
  | _ => cases h
end
def wantS (ops : Array Oper) (env : Env) : Option (Nat × Bool) → Option Bool
  | none => some true
  | some (j,b) => match (ops[j]?).bind (·.dst) with
    | some t => match env.get t with
      | some (.d (.v (.bool x))) => some (x == b)
      | some (.d (.v (.tuple _))) => some false
      | _ => none
    | none => none
def stepL (t : Ty) (n : Nat) (ops : Array Oper) (st : List AO) (env : Env) (o : Oper) : Option Env :=
  match wantS ops env o.guard with
  | some true => match o.dst with
    | some d => bif Nat.ble (d + 1) n then (match stepY t env st o.op with
      | some r => some ((d,r) :: env)
      | none => none) else none
    | none => none
  | some false => match o.dst with
    | some d => bif Nat.ble (d + 1) n then some ((d,.d (.v undef)) :: env) else none
    | none => some env
  | none => none
def runL (t : Ty) (n : Nat) (ops : Array Oper) (st : List AO) : Nat → List Oper → Env → Option (List Oper × Env)
  | 0,l,env => some (l,env)
  | k + 1,o :: l,env => match stepL t n ops st env o with
    | some env' => runL t n ops st k l env'
    | none => none
  | _ + 1,[],_ => none
section
variable {P : Program} {t : Ty} (ht : t.ok P = true) {e : En} {ops : Array Oper} {st : List AO} {R : Env → List AO → Prop} {n : Nat} {RQ : Env → Prop}
omit ht in
theorem wantS_true {env : Env} {o : Oper} (h : wantS ops env o.guard = some true) : Wt ops env o true:=by
  unfold wantS at h
  split at h
  · rename_i hg; exact Wt.none hg
  · rename_i j b hg
    split at h
    · rename_i hj
      split at h
      · rename_i x hx
        have : x = b:=by simpa using h
        subst this
        exact Wt.yes hg hj hx
      · cases h
      · cases h
    · cases h
omit ht in
theorem wantS_false {env : Env} {o : Oper} (h : wantS ops env o.guard = some false) : Wt ops env o false:=by
  unfold wantS at h
  split at h
  · cases h
  · rename_i j b hg
    split at h
    · rename_i hj
      split at h
      · rename_i x hx
        exact Wt.no hg hj hx (Option.some.inj h)
      · rename_i x hx
        intro m φ w a he
        simp only [Region.wanted,hg,yielded_of he hj hx]; rfl
      · cases h
    · cases h
include ht
theorem stepL_WL {env env' : Env} {o : Oper} {l : List Oper} (h : stepL t e.n ops st env o = some env') (k : WL P e ops l env' st R) : WL P e ops (o :: l) env st R:=by
  unfold stepL at h
  split at h
  · rename_i hw
    split at h
    · rename_i d hd
      cases hb : Nat.ble (d + 1) e.n with
      | false => rw [hb] at h; cases h
      | true =>
        rw [hb] at h
        simp only [cond_true] at h
        split at h
        · rename_i r hr
          obtain rfl:=Option.some.inj h
          obtain ⟨od,oop,oty,opos,oaf,og⟩:=o
          exact WL.q (stepY_ok ht hr) (wantS_true hw) hd hb k
        · cases h
    · cases h
  · rename_i hw
    split at h
    · rename_i d hd
      cases hb : Nat.ble (d + 1) e.n with
      | false => rw [hb] at h; cases h
      | true => rw [hb] at h; obtain rfl:=Option.some.inj h; exact WL.skip (wantS_false hw) hd hb k
    · rename_i hd; obtain rfl:=Option.some.inj h; exact WL.skip0 (wantS_false hw) hd k
  · cases h
theorem stepL_WQ {env env' : Env} {o : Oper} {l : List Oper} (h : stepL t n ops st env o = some env') (k : WQ P n ops l env' st RQ) : WQ P n ops (o :: l) env st RQ:=by
  unfold stepL at h
  split at h
  · rename_i hw
    split at h
    · rename_i d hd
      cases hb : Nat.ble (d + 1) n with
      | false => rw [hb] at h; cases h
      | true =>
        rw [hb] at h
        simp only [cond_true] at h
        split at h
        · rename_i r hr
          obtain rfl:=Option.some.inj h
          obtain ⟨od,oop,oty,opos,oaf,og⟩:=o
          exact WQ.q (Yields.quiet (stepY_ok ht hr)) (wantS_true hw) hd hb k
        · cases h
    · cases h
  · rename_i hw
    split at h
    · rename_i d hd
      cases hb : Nat.ble (d + 1) n with
      | false => rw [hb] at h; cases h
      | true => rw [hb] at h; obtain rfl:=Option.some.inj h; exact WQ.skip (wantS_false hw) hd hb k
    · rename_i hd; obtain rfl:=Option.some.inj h; exact WQ.skip0 (wantS_false hw) hd k
  · cases h
theorem runL_WL : ∀ {k : Nat} {l l' : List Oper} {env env' : Env},runL t e.n ops st k l env = some (l',env') → WL P e ops l' env' st R → WL P e ops l env st R
  | 0,l,l',env,env',h,k => by obtain ⟨rfl,rfl⟩:=Prod.mk.inj (Option.some.inj h); exact k
  | j + 1,[],l',env,env',h,k => by cases h
  | j + 1,o :: l,l',env,env',h,k => by
    unfold runL at h
    split at h
    · rename_i hs; exact stepL_WL ht hs (runL_WL h k)
    · cases h
theorem runL_WQ : ∀ {k : Nat} {l l' : List Oper} {env env' : Env},runL t n ops st k l env = some (l',env') → WQ P n ops l' env' st RQ → WQ P n ops l env st RQ
  | 0,l,l',env,env',h,k => by obtain ⟨rfl,rfl⟩:=Prod.mk.inj (Option.some.inj h); exact k
  | j + 1,[],l',env,env',h,k => by cases h
  | j + 1,o :: l,l',env,env',h,k => by
    unfold runL at h
    split at h
    · rename_i hs; exact stepL_WQ ht hs (runL_WQ h k)
    · cases h
end
theorem Rl {P : Program} [T : Tys P] {e : En} {ops : Array Oper} {st : List AO} {R : Env → List AO → Prop} {l l' : List Oper} {env env' : Env} (k : Nat) (h : runL T.t e.n ops st k l env = some (l',env')) (hw : WL P e ops l' env' st R) : WL P e ops l env st R:=runL_WL T.h h hw
theorem Rq {P : Program} [T : Tys P] {n : Nat} {ops : Array Oper} {st : List AO} {R : Env → Prop} {l l' : List Oper} {env env' : Env} (k : Nat) (h : runL T.t n ops st k l env = some (l',env')) (hw : WQ P n ops l' env' st R) : WQ P n ops l env st R:=runL_WQ T.h h hw
inductive SS where
  | c (c : Code) (k : Ko)
  | x (x : Exit) (k : Ko)
  | l (ops : Array Oper) (l : List Oper) (k : Ko)
@[reducible] def SS.den (P : Program) (e : En) (env : Env) (st : List AO) : SS → Prop
  | .c cd k => WC P e cd k env st
  | .x ex k => WE P e ex k env st
  | .l ops ol k => WL P e ops ol env st (fun env' st' => WE P e .normal k env' st')
def ctlC (k : Ko) : Code → Option SS
  | .seq x y => some (.c x (.seq y k))
  | .skip => some (.x .normal k)
  | .ret => some (.x .ret k)
  | .exit i => some (.x (.exit i) k)
  | .block i x => some (.c x (.blk i k))
  | .region _ a false => bif noDefer a.toList then some (.l a a.toList k) else none
  | _ => none
def ctlX : Exit → Ko → Option SS
  | .normal,.seq c k => some (.c c k)
  | .ret,.seq _ k => some (.x .ret k)
  | .exit i,.seq _ k => some (.x (.exit i) k)
  | .normal,.blk _ k => some (.x .normal k)
  | .ret,.blk _ k => some (.x .ret k)
  | .exit i,.blk j k => bif Nat.beq i j then some (.x .normal k) else some (.x (.exit i) k)
  | .ret,.lp _ k => some (.x .ret k)
  | .exit i,.lp _ k => some (.x (.exit i) k)
  | _,_ => none
def stepS (t : Ty) (n : Nat) (st : List AO) (env : Env) : SS → Option (SS × Env)
  | .c cd k => match ctlC k cd with
    | some s => some (s,env)
    | none => none
  | .x ex k => match ctlX ex k with
    | some s => some (s,env)
    | none => none
  | .l _ [] k => some (.x .normal k,env)
  | .l ops (o :: l) k => match stepL t n ops st env o with
    | some env' => some (.l ops l k,env')
    | none => none
def runS (t : Ty) (n : Nat) (st : List AO) : Nat → SS → Env → Option (SS × Env)
  | 0,s,env => some (s,env)
  | k + 1,s,env => match stepS t n st env s with
    | some (s',env') => runS t n st k s' env'
    | none => none
section
variable {P : Program} {t : Ty} (ht : t.ok P = true) {e : En} {st : List AO}
include ht
theorem stepS_ok {env env' : Env} {s s' : SS} (h : stepS t e.n st env s = some (s',env')) (k : s'.den P e env' st) : s.den P e env st:=by
  cases s with
  | c c κ =>
    dsimp only [stepS] at h
    split at h
    · rename_i s1 hc
      obtain ⟨rfl,rfl⟩:=Prod.mk.inj (Option.some.inj h)
      cases c with
      | seq x y => obtain rfl:=Option.some.inj hc; exact wc_seq k
      | skip => obtain rfl:=Option.some.inj hc; exact wc_skip k
      | ret => obtain rfl:=Option.some.inj hc; exact wc_ret k
      | exit i => obtain rfl:=Option.some.inj hc; exact wc_exit k
      | block i x => obtain rfl:=Option.some.inj hc; exact wc_block k
      | region i a b =>
        cases b with
        | true => cases hc
        | false =>
          dsimp only [ctlC] at hc
          cases hb : noDefer a.toList with
          | false => rw [hb] at hc; cases hc
          | true =>
            rw [hb] at hc
            obtain rfl:=Option.some.inj hc
            exact wc_region (l:=a.toList) k hb
      | _ => cases hc
    · cases h
  | x x κ =>
    dsimp only [stepS] at h
    split at h
    · rename_i s1 hc
      obtain ⟨rfl,rfl⟩:=Prod.mk.inj (Option.some.inj h)
      unfold ctlX at hc
      split at hc
      · obtain rfl:=Option.some.inj hc; exact we_seq k
      · obtain rfl:=Option.some.inj hc; exact we_seq_ret k
      · obtain rfl:=Option.some.inj hc; exact we_seq_exit k
      · obtain rfl:=Option.some.inj hc; exact we_blk k
      · obtain rfl:=Option.some.inj hc; exact we_blk_ret k
      · rename_i i j κ'
        cases hb : Nat.beq i j with
        | true => rw [hb] at hc; obtain rfl:=Option.some.inj hc; obtain rfl:=Nat.eq_of_beq_eq_true hb; exact we_blk_hit k
        | false => rw [hb] at hc; obtain rfl:=Option.some.inj hc; exact we_blk_miss hb k
      · obtain rfl:=Option.some.inj hc; exact we_lp_ret k
      · obtain rfl:=Option.some.inj hc; exact we_lp_exit k
      · cases hc
    · cases h
  | l ops l κ =>
    cases l with
    | nil => obtain ⟨rfl,rfl⟩:=Prod.mk.inj (Option.some.inj h); exact WL.nil k
    | cons o l =>
      dsimp only [stepS] at h
      split at h
      · rename_i env1 hs
        obtain ⟨rfl,rfl⟩:=Prod.mk.inj (Option.some.inj h)
        exact stepL_WL ht hs k
      · cases h
theorem runS_ok : ∀ {k : Nat} {s s' : SS} {env env' : Env},runS t e.n st k s env = some (s',env') → s'.den P e env' st → s.den P e env st
  | 0,s,s',env,env',h,k => by obtain ⟨rfl,rfl⟩:=Prod.mk.inj (Option.some.inj h); exact k
  | j + 1,s,s',env,env',h,k => by
    unfold runS at h
    split at h
    · rename_i hs; exact stepS_ok ht hs (runS_ok h k)
    · cases h
end
section
variable {P : Program} [T : Tys P] {e : En} {st : List AO} {env env' : Env} {κ κ' : Ko}
theorem Rcc {c : Code} {c' : Code} (k : Nat) (h : runS T.t e.n st k (.c c κ) env = some ((.c c' κ'),env')) (hw : WC P e c' κ' env' st) : WC P e c κ env st:=runS_ok (s:=(.c c κ)) T.h h hw
theorem Rcx {c : Code} {x' : Exit} (k : Nat) (h : runS T.t e.n st k (.c c κ) env = some ((.x x' κ'),env')) (hw : WE P e x' κ' env' st) : WC P e c κ env st:=runS_ok (s:=(.c c κ)) T.h h hw
theorem Rcl {c : Code} {ops' : Array Oper} {l' : List Oper} (k : Nat) (h : runS T.t e.n st k (.c c κ) env = some ((.l ops' l' κ'),env')) (hw : WL P e ops' l' env' st (fun env' st' => WE P e .normal κ' env' st')) : WC P e c κ env st:=runS_ok (s:=(.c c κ)) T.h h hw
theorem Rxc {x : Exit} {c' : Code} (k : Nat) (h : runS T.t e.n st k (.x x κ) env = some ((.c c' κ'),env')) (hw : WC P e c' κ' env' st) : WE P e x κ env st:=runS_ok (s:=(.x x κ)) T.h h hw
theorem Rxx {x : Exit} {x' : Exit} (k : Nat) (h : runS T.t e.n st k (.x x κ) env = some ((.x x' κ'),env')) (hw : WE P e x' κ' env' st) : WE P e x κ env st:=runS_ok (s:=(.x x κ)) T.h h hw
theorem Rxl {x : Exit} {ops' : Array Oper} {l' : List Oper} (k : Nat) (h : runS T.t e.n st k (.x x κ) env = some ((.l ops' l' κ'),env')) (hw : WL P e ops' l' env' st (fun env' st' => WE P e .normal κ' env' st')) : WE P e x κ env st:=runS_ok (s:=(.x x κ)) T.h h hw
theorem Rlc {ops : Array Oper} {l : List Oper} {c' : Code} (k : Nat) (h : runS T.t e.n st k (.l ops l κ) env = some ((.c c' κ'),env')) (hw : WC P e c' κ' env' st) : WL P e ops l env st (fun env' st' => WE P e .normal κ env' st'):=runS_ok (s:=(.l ops l κ)) T.h h hw
theorem Rlx {ops : Array Oper} {l : List Oper} {x' : Exit} (k : Nat) (h : runS T.t e.n st k (.l ops l κ) env = some ((.x x' κ'),env')) (hw : WE P e x' κ' env' st) : WL P e ops l env st (fun env' st' => WE P e .normal κ env' st'):=runS_ok (s:=(.l ops l κ)) T.h h hw
theorem Rll {ops : Array Oper} {l : List Oper} {ops' : Array Oper} {l' : List Oper} (k : Nat) (h : runS T.t e.n st k (.l ops l κ) env = some ((.l ops' l' κ'),env')) (hw : WL P e ops' l' env' st (fun env' st' => WE P e .normal κ' env' st')) : WL P e ops l env st (fun env' st' => WE P e .normal κ env' st'):=runS_ok (s:=(.l ops l κ)) T.h h hw
end
end Go.Sk
namespace Go.Sk
open Go.RowKit (Below)
section
variable {P : Program} {e : En} {ops : Array Oper} {rest : List Oper} {env : Env} {st : List AO} {R : Env → List AO → Prop} {κ : Ko} {x y : Code}
theorem Lv {a b : AV} (h : Le a b:=by
  repeat' (first | exact Le.refl _ | exact Le.nil | exact Le.u _ | exact Le.fs _ | exact Les.refl _ | exact trivial | refine Le.tud ?_ | refine Le.agd ?_ | refine Le.fnc ?_ ?_ | refine ⟨?_,?_⟩)) : Le a b:=h
theorem Rv {f : Func} {r : AV} (h : Res P f env st r:=by
  first | exact rs1 rfl (rv_t rfl) | exact rs2 rfl (rv_t rfl) (rv_t rfl) | exact res0 rfl | exact rs3 rfl (rv_t rfl) (rv_t rfl) (rv_t rfl)) : Res P f env st r:=h
theorem Ci {c : Operand} {t : Bool} {β : Sort _} {a b z : β} (h : (bif t then a else b) = z) (hc : opv env c = some (.d (.v (.bool t)))) (h1 : a = z → WC P e x κ env st) (h0 : b = z → WC P e y κ env st) : WC P e (.cond c x y) κ env st:=wc_cond hc (fun hh => h1 (condT h hh)) (fun hh => h0 (condF h hh))
theorem Ix {α β : Type} {E Q : α → List D} {L : List α} {i : Int} {F : α → Option β} {r : β} {T n d : Nat} {bb : Bool} {x ix : Operand} {xr : AV} {kk : IntKind} {ty : TypeId} {pos : String} {after : Array Edge} (h : Option.bind (idx L i) F = some r) (hT : elemOf' P T = some (n,bb)) (hE : ∀ x,E x = Q x) (hx : opv env x = some xr) (hle : Le xr (.d (.sl (L.map E)))) (hi : opv env ix = some (.d (.v (.int kk i)))) (hd : Nat.ble (d + 1) e.n = true)
    (k : ∀ x,idx L i = some x → F x = some r → WL P e ops rest ((d,.d (.pc (Q x))) :: env) st R) (hn : ∀ x,(Q x).length = n:=by exact fun _ => rfl) : WL P e ops (⟨some d,.indexAddr T x ix,ty,pos,after,none⟩ :: rest) env st R:=by
  obtain ⟨z,hz,h⟩:=bindS h
  exact WL.qn (y_indexAddr hT hx hle hi (idx_nonneg hz) (idx_row hE hz) (hn z)) hd (k z hz h)
theorem FA {a p : Prop} (ha : a) (h : a → p:=by
  intro h
  obtain rfl:=Option.some.inj h
  exact we_ret_fn Rv Lv) : p:=h ha
theorem FB {a p : Prop} (ha : a) (h : a → p:=by
  intro h
  subst h
  exact we_ret_fn Rv Lv) : p:=h ha
variable {dd : Nat} {ty : TypeId} {pos : String} {after : Array Edge}
theorem Bd {T : TypeId} {x : Operand} {r : AV} {ds : List D} (hx : opv env x = some r) (hk : r.okc = true) (hc : Les r.cells (ds.map .d)) (hd : Nat.ble (dd + 1) e.n = true) (h : WL P e ops rest ((dd,.d (.pc ds)) :: env) st R) : WL P e ops (⟨some dd,.box T x,ty,pos,after,none⟩ :: rest) env st R:=WL.s (b_boxd hx hk hc).does (Wt.none rfl) rfl hd h
theorem Bx {T : TypeId} {x : Operand} {r : AV} (hx : opv env x = some r) (hk : r.okc = true) (hd : Nat.ble (dd + 1) e.n = true) (h : WL P e ops rest ((dd,.pt st.length 0) :: env) (st ++ [.row T r.cells]) R) : WL P e ops (⟨some dd,.box T x,ty,pos,after,none⟩ :: rest) env st R:=WL.s (b_box hx hk).does (Wt.none rfl) rfl hd h
theorem Al {T : TypeId} {vs : List Value} (hz : zeroOf P T = some vs) (hd : Nat.ble (dd + 1) e.n = true) (h : WL P e ops rest ((dd,.pt st.length 0) :: env) (st ++ [.row T (vs.map fun v => .d (.v v))]) R) : WL P e ops (⟨some dd,.alloc T,ty,pos,after,none⟩ :: rest) env st R:=WL.s (b_alloc hz).does (Wt.none rfl) rfl hd h
theorem Tv {a b : List AO} (h : SLe a b:=by
  first | exact SLe.refl _ | repeat' (first | exact rfl | exact Le.refl _ | exact Le.nil | exact Le.u _ | exact Le.fs _ | exact Les.refl _ | exact trivial | refine Le.tud ?_ | refine Le.agd ?_ | refine Le.fnc ?_ ?_ | refine ⟨?_,?_⟩)) : SLe a b:=h
theorem Cb {b c : Bool} (h : b = c) : D.v (Value.bool b) = D.v (Value.bool c):=by rw [h]
theorem Re {α : Type} {a : α} {l l' : List α} (k : l = l') : a :: l = a :: l':=by rw [k]
theorem Kv {n : Nat} {l : List AO} (h : stLt n l = true:=by
  first | exact rfl | repeat' (first | exact rfl | refine stLt_cons rfl ?_ | refine stLt_cons (lt_os _ _ _ _ _ _) ?_ | refine stLt_cons (lt_fam _ _ _ _ _ _) ?_ | refine stLt_cons (lt_osf _ _ _ _ _ _ _ rfl) ?_)) : stLt n l = true:=h
theorem Jn0 {β : Sort _} {z : β} (A : Env) (S : List AO) {K : Unit → β} {F : (Unit → β) → β} (h : letk K F = z) (h1 : ∀ k : Unit → β,F k = z → WC P e x (.lp (fun env' st' => k () = z ∧ Sub (A) env' ∧ SLe st' (S)) κ) env st) (h2 : K () = z → WC P e y κ (A) (S)) : WC P e (.seq x y) κ env st:=by
  refine wc_cut _ (h1 K h) ?_
  rintro env' st' ⟨h,hs,hw⟩
  exact WC.sub hs (WC.weak hw (h2 h))
theorem En0 {β : Sort _} {z : β} {A : Env} {S : List AO} {k : Unit → β} (h : k () = z) (h0 : Sub (A) env:=by
    repeat' (first | exact Sub.nil _ | refine Sub.cons rfl ?_ ?_ | exact Le.refl _ | exact Le.nil | exact Le.u _ | exact Le.fs _ | exact Les.refl _ | exact trivial | refine Le.tud ?_ | refine Le.agd ?_ | refine Le.fnc ?_ ?_ | refine ⟨?_,?_⟩)) (h1 : SLe st (S):=by
    first | exact SLe.refl _ | repeat' (first | exact rfl | exact Le.refl _ | exact Le.nil | exact Le.u _ | exact Le.fs _ | exact Les.refl _ | exact trivial | refine Le.tud ?_ | refine Le.agd ?_ | refine Le.fnc ?_ ?_ | refine ⟨?_,?_⟩)) : WE P e .normal (.lp (fun env' st' => k () = z ∧ Sub (A) env' ∧ SLe st' (S)) κ) env st:=we_lp ⟨h,h0,h1⟩
theorem Jn1 {β : Sort _} {z : β} {α0 : Type} (A : α0 → Env) (S : α0 → List AO) {K : α0 → β} {F : (α0 → β) → β} (h : letk K F = z) (h1 : ∀ k : α0 → β,F k = z → WC P e x (.lp (fun env' st' => ∃ x0 : α0,k x0 = z ∧ Sub (A x0) env' ∧ SLe st' (S x0)) κ) env st) (h2 : ∀ (x0 : α0),K x0 = z → WC P e y κ (A x0) (S x0)) : WC P e (.seq x y) κ env st:=by
  refine wc_cut _ (h1 K h) ?_
  rintro env' st' ⟨x0,h,hs,hw⟩
  exact WC.sub hs (WC.weak hw (h2 x0 h))
theorem Ln1 {β : Sort _} {z : β} {α0 : Type} (A : α0 → Env) (S : α0 → List AO) (L : Nat → α0 → β) {N : Nat} {i0 : α0} (h : L N i0 = z) (hz : ∀ (x0 : α0),L 0 x0 = z → False) (hs : ∀ n (x0 : α0),L (n + 1) x0 = z → WC P e x (.lp (fun env' st' => ∃ y,(∃ x0 : α0,L y x0 = z ∧ Sub (A x0) env' ∧ SLe st' (S x0)) ∧ y < n + 1) κ) (A x0) (S x0)) (h0 : Sub (A i0) env:=by
    repeat' (first | exact Sub.nil _ | refine Sub.cons rfl ?_ ?_ | exact Le.refl _ | exact Le.nil | exact Le.u _ | exact Le.fs _ | exact Les.refl _ | exact trivial | refine Le.tud ?_ | refine Le.agd ?_ | refine Le.fnc ?_ ?_ | refine ⟨?_,?_⟩)) (h1 : SLe st (S i0):=by
    first | exact SLe.refl _ | repeat' (first | exact rfl | exact Le.refl _ | exact Le.nil | exact Le.u _ | exact Le.fs _ | exact Les.refl _ | exact trivial | refine Le.tud ?_ | refine Le.agd ?_ | refine Le.fnc ?_ ?_ | refine ⟨?_,?_⟩)) : WC P e (.loop x) κ env st:=by
  refine wc_loop (fun n env' st' => ∃ x0 : α0,L n x0 = z ∧ Sub (A x0) env' ∧ SLe st' (S x0)) (fun n => n) N ⟨i0,h,h0,h1⟩ ?_
  rintro n env1 st1 ⟨x0,h,hsub,hst⟩
  rcases n with _ | n
  · exact (hz x0 h).elim
  · exact WC.sub hsub (WC.weak hst (hs n x0 h))
theorem En1 {β : Sort _} {z : β} {α0 : Type} {A : α0 → Env} {S : α0 → List AO} {k : α0 → β} {i0 : α0} (h : k i0 = z) (h0 : Sub (A i0) env:=by
    repeat' (first | exact Sub.nil _ | refine Sub.cons rfl ?_ ?_ | exact Le.refl _ | exact Le.nil | exact Le.u _ | exact Le.fs _ | exact Les.refl _ | exact trivial | refine Le.tud ?_ | refine Le.agd ?_ | refine Le.fnc ?_ ?_ | refine ⟨?_,?_⟩)) (h1 : SLe st (S i0):=by
    first | exact SLe.refl _ | repeat' (first | exact rfl | exact Le.refl _ | exact Le.nil | exact Le.u _ | exact Le.fs _ | exact Les.refl _ | exact trivial | refine Le.tud ?_ | refine Le.agd ?_ | refine Le.fnc ?_ ?_ | refine ⟨?_,?_⟩)) : WE P e .normal (.lp (fun env' st' => ∃ x0 : α0,k x0 = z ∧ Sub (A x0) env' ∧ SLe st' (S x0)) κ) env st:=we_lp ⟨i0,h,h0,h1⟩
theorem Fn1 {β : Sort _} {z : β} {n : Nat} {α0 : Type} {A : α0 → Env} {S : α0 → List AO} {L : Nat → α0 → β} {i0 : α0} (h : L n i0 = z) (h0 : Sub (A i0) env:=by
    repeat' (first | exact Sub.nil _ | refine Sub.cons rfl ?_ ?_ | exact Le.refl _ | exact Le.nil | exact Le.u _ | exact Le.fs _ | exact Les.refl _ | exact trivial | refine Le.tud ?_ | refine Le.agd ?_ | refine Le.fnc ?_ ?_ | refine ⟨?_,?_⟩)) (h1 : SLe st (S i0):=by
    first | exact SLe.refl _ | repeat' (first | exact rfl | exact Le.refl _ | exact Le.nil | exact Le.u _ | exact Le.fs _ | exact Les.refl _ | exact trivial | refine Le.tud ?_ | refine Le.agd ?_ | refine Le.fnc ?_ ?_ | refine ⟨?_,?_⟩)) : WE P e .normal (.lp (fun env' st' => ∃ y,(∃ x0 : α0,L y x0 = z ∧ Sub (A x0) env' ∧ SLe st' (S x0)) ∧ y < n + 1) κ) env st:=we_lp ⟨n,⟨i0,h,h0,h1⟩,Nat.lt_succ_self n⟩
theorem Jn2 {β : Sort _} {z : β} {α0 α1 : Type} (A : α0 → α1 → Env) (S : α0 → α1 → List AO) {K : α0 → α1 → β} {F : (α0 → α1 → β) → β} (h : letk K F = z) (h1 : ∀ k : α0 → α1 → β,F k = z → WC P e x (.lp (fun env' st' => ∃ x0 : α0,∃ x1 : α1,k x0 x1 = z ∧ Sub (A x0 x1) env' ∧ SLe st' (S x0 x1)) κ) env st) (h2 : ∀ (x0 : α0) (x1 : α1),K x0 x1 = z → WC P e y κ (A x0 x1) (S x0 x1)) : WC P e (.seq x y) κ env st:=by
  refine wc_cut _ (h1 K h) ?_
  rintro env' st' ⟨x0,x1,h,hs,hw⟩
  exact WC.sub hs (WC.weak hw (h2 x0 x1 h))
theorem Ln2 {β : Sort _} {z : β} {α0 α1 : Type} (A : α0 → α1 → Env) (S : α0 → α1 → List AO) (L : Nat → α0 → α1 → β) {N : Nat} {i0 : α0} {i1 : α1} (h : L N i0 i1 = z) (hz : ∀ (x0 : α0) (x1 : α1),L 0 x0 x1 = z → False) (hs : ∀ n (x0 : α0) (x1 : α1),L (n + 1) x0 x1 = z → WC P e x (.lp (fun env' st' => ∃ y,(∃ x0 : α0,∃ x1 : α1,L y x0 x1 = z ∧ Sub (A x0 x1) env' ∧ SLe st' (S x0 x1)) ∧ y < n + 1) κ) (A x0 x1) (S x0 x1)) (h0 : Sub (A i0 i1) env:=by
    repeat' (first | exact Sub.nil _ | refine Sub.cons rfl ?_ ?_ | exact Le.refl _ | exact Le.nil | exact Le.u _ | exact Le.fs _ | exact Les.refl _ | exact trivial | refine Le.tud ?_ | refine Le.agd ?_ | refine Le.fnc ?_ ?_ | refine ⟨?_,?_⟩)) (h1 : SLe st (S i0 i1):=by
    first | exact SLe.refl _ | repeat' (first | exact rfl | exact Le.refl _ | exact Le.nil | exact Le.u _ | exact Le.fs _ | exact Les.refl _ | exact trivial | refine Le.tud ?_ | refine Le.agd ?_ | refine Le.fnc ?_ ?_ | refine ⟨?_,?_⟩)) : WC P e (.loop x) κ env st:=by
  refine wc_loop (fun n env' st' => ∃ x0 : α0,∃ x1 : α1,L n x0 x1 = z ∧ Sub (A x0 x1) env' ∧ SLe st' (S x0 x1)) (fun n => n) N ⟨i0,i1,h,h0,h1⟩ ?_
  rintro n env1 st1 ⟨x0,x1,h,hsub,hst⟩
  rcases n with _ | n
  · exact (hz x0 x1 h).elim
  · exact WC.sub hsub (WC.weak hst (hs n x0 x1 h))
theorem En2 {β : Sort _} {z : β} {α0 α1 : Type} {A : α0 → α1 → Env} {S : α0 → α1 → List AO} {k : α0 → α1 → β} {i0 : α0} {i1 : α1} (h : k i0 i1 = z) (h0 : Sub (A i0 i1) env:=by
    repeat' (first | exact Sub.nil _ | refine Sub.cons rfl ?_ ?_ | exact Le.refl _ | exact Le.nil | exact Le.u _ | exact Le.fs _ | exact Les.refl _ | exact trivial | refine Le.tud ?_ | refine Le.agd ?_ | refine Le.fnc ?_ ?_ | refine ⟨?_,?_⟩)) (h1 : SLe st (S i0 i1):=by
    first | exact SLe.refl _ | repeat' (first | exact rfl | exact Le.refl _ | exact Le.nil | exact Le.u _ | exact Le.fs _ | exact Les.refl _ | exact trivial | refine Le.tud ?_ | refine Le.agd ?_ | refine Le.fnc ?_ ?_ | refine ⟨?_,?_⟩)) : WE P e .normal (.lp (fun env' st' => ∃ x0 : α0,∃ x1 : α1,k x0 x1 = z ∧ Sub (A x0 x1) env' ∧ SLe st' (S x0 x1)) κ) env st:=we_lp ⟨i0,i1,h,h0,h1⟩
theorem Fn2 {β : Sort _} {z : β} {n : Nat} {α0 α1 : Type} {A : α0 → α1 → Env} {S : α0 → α1 → List AO} {L : Nat → α0 → α1 → β} {i0 : α0} {i1 : α1} (h : L n i0 i1 = z) (h0 : Sub (A i0 i1) env:=by
    repeat' (first | exact Sub.nil _ | refine Sub.cons rfl ?_ ?_ | exact Le.refl _ | exact Le.nil | exact Le.u _ | exact Le.fs _ | exact Les.refl _ | exact trivial | refine Le.tud ?_ | refine Le.agd ?_ | refine Le.fnc ?_ ?_ | refine ⟨?_,?_⟩)) (h1 : SLe st (S i0 i1):=by
    first | exact SLe.refl _ | repeat' (first | exact rfl | exact Le.refl _ | exact Le.nil | exact Le.u _ | exact Le.fs _ | exact Les.refl _ | exact trivial | refine Le.tud ?_ | refine Le.agd ?_ | refine Le.fnc ?_ ?_ | refine ⟨?_,?_⟩)) : WE P e .normal (.lp (fun env' st' => ∃ y,(∃ x0 : α0,∃ x1 : α1,L y x0 x1 = z ∧ Sub (A x0 x1) env' ∧ SLe st' (S x0 x1)) ∧ y < n + 1) κ) env st:=we_lp ⟨n,⟨i0,i1,h,h0,h1⟩,Nat.lt_succ_self n⟩
theorem Jn3 {β : Sort _} {z : β} {α0 α1 α2 : Type} (A : α0 → α1 → α2 → Env) (S : α0 → α1 → α2 → List AO) {K : α0 → α1 → α2 → β} {F : (α0 → α1 → α2 → β) → β} (h : letk K F = z) (h1 : ∀ k : α0 → α1 → α2 → β,F k = z → WC P e x (.lp (fun env' st' => ∃ x0 : α0,∃ x1 : α1,∃ x2 : α2,k x0 x1 x2 = z ∧ Sub (A x0 x1 x2) env' ∧ SLe st' (S x0 x1 x2)) κ) env st) (h2 : ∀ (x0 : α0) (x1 : α1) (x2 : α2),K x0 x1 x2 = z → WC P e y κ (A x0 x1 x2) (S x0 x1 x2)) : WC P e (.seq x y) κ env st:=by
  refine wc_cut _ (h1 K h) ?_
  rintro env' st' ⟨x0,x1,x2,h,hs,hw⟩
  exact WC.sub hs (WC.weak hw (h2 x0 x1 x2 h))
theorem En3 {β : Sort _} {z : β} {α0 α1 α2 : Type} {A : α0 → α1 → α2 → Env} {S : α0 → α1 → α2 → List AO} {k : α0 → α1 → α2 → β} {i0 : α0} {i1 : α1} {i2 : α2} (h : k i0 i1 i2 = z) (h0 : Sub (A i0 i1 i2) env:=by
    repeat' (first | exact Sub.nil _ | refine Sub.cons rfl ?_ ?_ | exact Le.refl _ | exact Le.nil | exact Le.u _ | exact Le.fs _ | exact Les.refl _ | exact trivial | refine Le.tud ?_ | refine Le.agd ?_ | refine Le.fnc ?_ ?_ | refine ⟨?_,?_⟩)) (h1 : SLe st (S i0 i1 i2):=by
    first | exact SLe.refl _ | repeat' (first | exact rfl | exact Le.refl _ | exact Le.nil | exact Le.u _ | exact Le.fs _ | exact Les.refl _ | exact trivial | refine Le.tud ?_ | refine Le.agd ?_ | refine Le.fnc ?_ ?_ | refine ⟨?_,?_⟩)) : WE P e .normal (.lp (fun env' st' => ∃ x0 : α0,∃ x1 : α1,∃ x2 : α2,k x0 x1 x2 = z ∧ Sub (A x0 x1 x2) env' ∧ SLe st' (S x0 x1 x2)) κ) env st:=we_lp ⟨i0,i1,i2,h,h0,h1⟩
theorem Fn3 {β : Sort _} {z : β} {n : Nat} {α0 α1 α2 : Type} {A : α0 → α1 → α2 → Env} {S : α0 → α1 → α2 → List AO} {L : Nat → α0 → α1 → α2 → β} {i0 : α0} {i1 : α1} {i2 : α2} (h : L n i0 i1 i2 = z) (h0 : Sub (A i0 i1 i2) env:=by
    repeat' (first | exact Sub.nil _ | refine Sub.cons rfl ?_ ?_ | exact Le.refl _ | exact Le.nil | exact Le.u _ | exact Le.fs _ | exact Les.refl _ | exact trivial | refine Le.tud ?_ | refine Le.agd ?_ | refine Le.fnc ?_ ?_ | refine ⟨?_,?_⟩)) (h1 : SLe st (S i0 i1 i2):=by
    first | exact SLe.refl _ | repeat' (first | exact rfl | exact Le.refl _ | exact Le.nil | exact Le.u _ | exact Le.fs _ | exact Les.refl _ | exact trivial | refine Le.tud ?_ | refine Le.agd ?_ | refine Le.fnc ?_ ?_ | refine ⟨?_,?_⟩)) : WE P e .normal (.lp (fun env' st' => ∃ y,(∃ x0 : α0,∃ x1 : α1,∃ x2 : α2,L y x0 x1 x2 = z ∧ Sub (A x0 x1 x2) env' ∧ SLe st' (S x0 x1 x2)) ∧ y < n + 1) κ) env st:=we_lp ⟨n,⟨i0,i1,i2,h,h0,h1⟩,Nat.lt_succ_self n⟩
theorem Jn4 {β : Sort _} {z : β} {α0 α1 α2 α3 : Type} (A : α0 → α1 → α2 → α3 → Env) (S : α0 → α1 → α2 → α3 → List AO) {K : α0 → α1 → α2 → α3 → β} {F : (α0 → α1 → α2 → α3 → β) → β} (h : letk K F = z) (h1 : ∀ k : α0 → α1 → α2 → α3 → β,F k = z → WC P e x (.lp (fun env' st' => ∃ x0 : α0,∃ x1 : α1,∃ x2 : α2,∃ x3 : α3,k x0 x1 x2 x3 = z ∧ Sub (A x0 x1 x2 x3) env' ∧ SLe st' (S x0 x1 x2 x3)) κ) env st) (h2 : ∀ (x0 : α0) (x1 : α1) (x2 : α2) (x3 : α3),K x0 x1 x2 x3 = z → WC P e y κ (A x0 x1 x2 x3) (S x0 x1 x2 x3)) : WC P e (.seq x y) κ env st:=by
  refine wc_cut _ (h1 K h) ?_
  rintro env' st' ⟨x0,x1,x2,x3,h,hs,hw⟩
  exact WC.sub hs (WC.weak hw (h2 x0 x1 x2 x3 h))
theorem Ln4 {β : Sort _} {z : β} {α0 α1 α2 α3 : Type} (A : α0 → α1 → α2 → α3 → Env) (S : α0 → α1 → α2 → α3 → List AO) (L : Nat → α0 → α1 → α2 → α3 → β) {N : Nat} {i0 : α0} {i1 : α1} {i2 : α2} {i3 : α3} (h : L N i0 i1 i2 i3 = z) (hz : ∀ (x0 : α0) (x1 : α1) (x2 : α2) (x3 : α3),L 0 x0 x1 x2 x3 = z → False) (hs : ∀ n (x0 : α0) (x1 : α1) (x2 : α2) (x3 : α3),L (n + 1) x0 x1 x2 x3 = z → WC P e x (.lp (fun env' st' => ∃ y,(∃ x0 : α0,∃ x1 : α1,∃ x2 : α2,∃ x3 : α3,L y x0 x1 x2 x3 = z ∧ Sub (A x0 x1 x2 x3) env' ∧ SLe st' (S x0 x1 x2 x3)) ∧ y < n + 1) κ) (A x0 x1 x2 x3) (S x0 x1 x2 x3)) (h0 : Sub (A i0 i1 i2 i3) env:=by
    repeat' (first | exact Sub.nil _ | refine Sub.cons rfl ?_ ?_ | exact Le.refl _ | exact Le.nil | exact Le.u _ | exact Le.fs _ | exact Les.refl _ | exact trivial | refine Le.tud ?_ | refine Le.agd ?_ | refine Le.fnc ?_ ?_ | refine ⟨?_,?_⟩)) (h1 : SLe st (S i0 i1 i2 i3):=by
    first | exact SLe.refl _ | repeat' (first | exact rfl | exact Le.refl _ | exact Le.nil | exact Le.u _ | exact Le.fs _ | exact Les.refl _ | exact trivial | refine Le.tud ?_ | refine Le.agd ?_ | refine Le.fnc ?_ ?_ | refine ⟨?_,?_⟩)) : WC P e (.loop x) κ env st:=by
  refine wc_loop (fun n env' st' => ∃ x0 : α0,∃ x1 : α1,∃ x2 : α2,∃ x3 : α3,L n x0 x1 x2 x3 = z ∧ Sub (A x0 x1 x2 x3) env' ∧ SLe st' (S x0 x1 x2 x3)) (fun n => n) N ⟨i0,i1,i2,i3,h,h0,h1⟩ ?_
  rintro n env1 st1 ⟨x0,x1,x2,x3,h,hsub,hst⟩
  rcases n with _ | n
  · exact (hz x0 x1 x2 x3 h).elim
  · exact WC.sub hsub (WC.weak hst (hs n x0 x1 x2 x3 h))
theorem En4 {β : Sort _} {z : β} {α0 α1 α2 α3 : Type} {A : α0 → α1 → α2 → α3 → Env} {S : α0 → α1 → α2 → α3 → List AO} {k : α0 → α1 → α2 → α3 → β} {i0 : α0} {i1 : α1} {i2 : α2} {i3 : α3} (h : k i0 i1 i2 i3 = z) (h0 : Sub (A i0 i1 i2 i3) env:=by
    repeat' (first | exact Sub.nil _ | refine Sub.cons rfl ?_ ?_ | exact Le.refl _ | exact Le.nil | exact Le.u _ | exact Le.fs _ | exact Les.refl _ | exact trivial | refine Le.tud ?_ | refine Le.agd ?_ | refine Le.fnc ?_ ?_ | refine ⟨?_,?_⟩)) (h1 : SLe st (S i0 i1 i2 i3):=by
    first | exact SLe.refl _ | repeat' (first | exact rfl | exact Le.refl _ | exact Le.nil | exact Le.u _ | exact Le.fs _ | exact Les.refl _ | exact trivial | refine Le.tud ?_ | refine Le.agd ?_ | refine Le.fnc ?_ ?_ | refine ⟨?_,?_⟩)) : WE P e .normal (.lp (fun env' st' => ∃ x0 : α0,∃ x1 : α1,∃ x2 : α2,∃ x3 : α3,k x0 x1 x2 x3 = z ∧ Sub (A x0 x1 x2 x3) env' ∧ SLe st' (S x0 x1 x2 x3)) κ) env st:=we_lp ⟨i0,i1,i2,i3,h,h0,h1⟩
theorem Fn4 {β : Sort _} {z : β} {n : Nat} {α0 α1 α2 α3 : Type} {A : α0 → α1 → α2 → α3 → Env} {S : α0 → α1 → α2 → α3 → List AO} {L : Nat → α0 → α1 → α2 → α3 → β} {i0 : α0} {i1 : α1} {i2 : α2} {i3 : α3} (h : L n i0 i1 i2 i3 = z) (h0 : Sub (A i0 i1 i2 i3) env:=by
    repeat' (first | exact Sub.nil _ | refine Sub.cons rfl ?_ ?_ | exact Le.refl _ | exact Le.nil | exact Le.u _ | exact Le.fs _ | exact Les.refl _ | exact trivial | refine Le.tud ?_ | refine Le.agd ?_ | refine Le.fnc ?_ ?_ | refine ⟨?_,?_⟩)) (h1 : SLe st (S i0 i1 i2 i3):=by
    first | exact SLe.refl _ | repeat' (first | exact rfl | exact Le.refl _ | exact Le.nil | exact Le.u _ | exact Le.fs _ | exact Les.refl _ | exact trivial | refine Le.tud ?_ | refine Le.agd ?_ | refine Le.fnc ?_ ?_ | refine ⟨?_,?_⟩)) : WE P e .normal (.lp (fun env' st' => ∃ y,(∃ x0 : α0,∃ x1 : α1,∃ x2 : α2,∃ x3 : α3,L y x0 x1 x2 x3 = z ∧ Sub (A x0 x1 x2 x3) env' ∧ SLe st' (S x0 x1 x2 x3)) ∧ y < n + 1) κ) env st:=we_lp ⟨n,⟨i0,i1,i2,i3,h,h0,h1⟩,Nat.lt_succ_self n⟩
theorem Jn5 {β : Sort _} {z : β} {α0 α1 α2 α3 α4 : Type} (A : α0 → α1 → α2 → α3 → α4 → Env) (S : α0 → α1 → α2 → α3 → α4 → List AO) {K : α0 → α1 → α2 → α3 → α4 → β} {F : (α0 → α1 → α2 → α3 → α4 → β) → β} (h : letk K F = z) (h1 : ∀ k : α0 → α1 → α2 → α3 → α4 → β,F k = z → WC P e x (.lp (fun env' st' => ∃ x0 : α0,∃ x1 : α1,∃ x2 : α2,∃ x3 : α3,∃ x4 : α4,k x0 x1 x2 x3 x4 = z ∧ Sub (A x0 x1 x2 x3 x4) env' ∧ SLe st' (S x0 x1 x2 x3 x4)) κ) env st) (h2 : ∀ (x0 : α0) (x1 : α1) (x2 : α2) (x3 : α3) (x4 : α4),K x0 x1 x2 x3 x4 = z → WC P e y κ (A x0 x1 x2 x3 x4) (S x0 x1 x2 x3 x4)) : WC P e (.seq x y) κ env st:=by
  refine wc_cut _ (h1 K h) ?_
  rintro env' st' ⟨x0,x1,x2,x3,x4,h,hs,hw⟩
  exact WC.sub hs (WC.weak hw (h2 x0 x1 x2 x3 x4 h))
theorem En5 {β : Sort _} {z : β} {α0 α1 α2 α3 α4 : Type} {A : α0 → α1 → α2 → α3 → α4 → Env} {S : α0 → α1 → α2 → α3 → α4 → List AO} {k : α0 → α1 → α2 → α3 → α4 → β} {i0 : α0} {i1 : α1} {i2 : α2} {i3 : α3} {i4 : α4} (h : k i0 i1 i2 i3 i4 = z) (h0 : Sub (A i0 i1 i2 i3 i4) env:=by
    repeat' (first | exact Sub.nil _ | refine Sub.cons rfl ?_ ?_ | exact Le.refl _ | exact Le.nil | exact Le.u _ | exact Le.fs _ | exact Les.refl _ | exact trivial | refine Le.tud ?_ | refine Le.agd ?_ | refine Le.fnc ?_ ?_ | refine ⟨?_,?_⟩)) (h1 : SLe st (S i0 i1 i2 i3 i4):=by
    first | exact SLe.refl _ | repeat' (first | exact rfl | exact Le.refl _ | exact Le.nil | exact Le.u _ | exact Le.fs _ | exact Les.refl _ | exact trivial | refine Le.tud ?_ | refine Le.agd ?_ | refine Le.fnc ?_ ?_ | refine ⟨?_,?_⟩)) : WE P e .normal (.lp (fun env' st' => ∃ x0 : α0,∃ x1 : α1,∃ x2 : α2,∃ x3 : α3,∃ x4 : α4,k x0 x1 x2 x3 x4 = z ∧ Sub (A x0 x1 x2 x3 x4) env' ∧ SLe st' (S x0 x1 x2 x3 x4)) κ) env st:=we_lp ⟨i0,i1,i2,i3,i4,h,h0,h1⟩
theorem Jn6 {β : Sort _} {z : β} {α0 α1 α2 α3 α4 α5 : Type} (A : α0 → α1 → α2 → α3 → α4 → α5 → Env) (S : α0 → α1 → α2 → α3 → α4 → α5 → List AO) {K : α0 → α1 → α2 → α3 → α4 → α5 → β} {F : (α0 → α1 → α2 → α3 → α4 → α5 → β) → β} (h : letk K F = z) (h1 : ∀ k : α0 → α1 → α2 → α3 → α4 → α5 → β,F k = z → WC P e x (.lp (fun env' st' => ∃ x0 : α0,∃ x1 : α1,∃ x2 : α2,∃ x3 : α3,∃ x4 : α4,∃ x5 : α5,k x0 x1 x2 x3 x4 x5 = z ∧ Sub (A x0 x1 x2 x3 x4 x5) env' ∧ SLe st' (S x0 x1 x2 x3 x4 x5)) κ) env st) (h2 : ∀ (x0 : α0) (x1 : α1) (x2 : α2) (x3 : α3) (x4 : α4) (x5 : α5),K x0 x1 x2 x3 x4 x5 = z → WC P e y κ (A x0 x1 x2 x3 x4 x5) (S x0 x1 x2 x3 x4 x5)) : WC P e (.seq x y) κ env st:=by
  refine wc_cut _ (h1 K h) ?_
  rintro env' st' ⟨x0,x1,x2,x3,x4,x5,h,hs,hw⟩
  exact WC.sub hs (WC.weak hw (h2 x0 x1 x2 x3 x4 x5 h))
theorem En6 {β : Sort _} {z : β} {α0 α1 α2 α3 α4 α5 : Type} {A : α0 → α1 → α2 → α3 → α4 → α5 → Env} {S : α0 → α1 → α2 → α3 → α4 → α5 → List AO} {k : α0 → α1 → α2 → α3 → α4 → α5 → β} {i0 : α0} {i1 : α1} {i2 : α2} {i3 : α3} {i4 : α4} {i5 : α5} (h : k i0 i1 i2 i3 i4 i5 = z) (h0 : Sub (A i0 i1 i2 i3 i4 i5) env:=by
    repeat' (first | exact Sub.nil _ | refine Sub.cons rfl ?_ ?_ | exact Le.refl _ | exact Le.nil | exact Le.u _ | exact Le.fs _ | exact Les.refl _ | exact trivial | refine Le.tud ?_ | refine Le.agd ?_ | refine Le.fnc ?_ ?_ | refine ⟨?_,?_⟩)) (h1 : SLe st (S i0 i1 i2 i3 i4 i5):=by
    first | exact SLe.refl _ | repeat' (first | exact rfl | exact Le.refl _ | exact Le.nil | exact Le.u _ | exact Le.fs _ | exact Les.refl _ | exact trivial | refine Le.tud ?_ | refine Le.agd ?_ | refine Le.fnc ?_ ?_ | refine ⟨?_,?_⟩)) : WE P e .normal (.lp (fun env' st' => ∃ x0 : α0,∃ x1 : α1,∃ x2 : α2,∃ x3 : α3,∃ x4 : α4,∃ x5 : α5,k x0 x1 x2 x3 x4 x5 = z ∧ Sub (A x0 x1 x2 x3 x4 x5) env' ∧ SLe st' (S x0 x1 x2 x3 x4 x5)) κ) env st:=we_lp ⟨i0,i1,i2,i3,i4,i5,h,h0,h1⟩
theorem Ln7 {β : Sort _} {z : β} {α0 α1 α2 α3 α4 α5 α6 : Type} (A : α0 → α1 → α2 → α3 → α4 → α5 → α6 → Env) (S : α0 → α1 → α2 → α3 → α4 → α5 → α6 → List AO) (L : Nat → α0 → α1 → α2 → α3 → α4 → α5 → α6 → β) {N : Nat} {i0 : α0} {i1 : α1} {i2 : α2} {i3 : α3} {i4 : α4} {i5 : α5} {i6 : α6} (h : L N i0 i1 i2 i3 i4 i5 i6 = z) (hz : ∀ (x0 : α0) (x1 : α1) (x2 : α2) (x3 : α3) (x4 : α4) (x5 : α5) (x6 : α6),L 0 x0 x1 x2 x3 x4 x5 x6 = z → False) (hs : ∀ n (x0 : α0) (x1 : α1) (x2 : α2) (x3 : α3) (x4 : α4) (x5 : α5) (x6 : α6),L (n + 1) x0 x1 x2 x3 x4 x5 x6 = z → WC P e x (.lp (fun env' st' => ∃ y,(∃ x0 : α0,∃ x1 : α1,∃ x2 : α2,∃ x3 : α3,∃ x4 : α4,∃ x5 : α5,∃ x6 : α6,L y x0 x1 x2 x3 x4 x5 x6 = z ∧ Sub (A x0 x1 x2 x3 x4 x5 x6) env' ∧ SLe st' (S x0 x1 x2 x3 x4 x5 x6)) ∧ y < n + 1) κ) (A x0 x1 x2 x3 x4 x5 x6) (S x0 x1 x2 x3 x4 x5 x6)) (h0 : Sub (A i0 i1 i2 i3 i4 i5 i6) env:=by
    repeat' (first | exact Sub.nil _ | refine Sub.cons rfl ?_ ?_ | exact Le.refl _ | exact Le.nil | exact Le.u _ | exact Le.fs _ | exact Les.refl _ | exact trivial | refine Le.tud ?_ | refine Le.agd ?_ | refine Le.fnc ?_ ?_ | refine ⟨?_,?_⟩)) (h1 : SLe st (S i0 i1 i2 i3 i4 i5 i6):=by
    first | exact SLe.refl _ | repeat' (first | exact rfl | exact Le.refl _ | exact Le.nil | exact Le.u _ | exact Le.fs _ | exact Les.refl _ | exact trivial | refine Le.tud ?_ | refine Le.agd ?_ | refine Le.fnc ?_ ?_ | refine ⟨?_,?_⟩)) : WC P e (.loop x) κ env st:=by
  refine wc_loop (fun n env' st' => ∃ x0 : α0,∃ x1 : α1,∃ x2 : α2,∃ x3 : α3,∃ x4 : α4,∃ x5 : α5,∃ x6 : α6,L n x0 x1 x2 x3 x4 x5 x6 = z ∧ Sub (A x0 x1 x2 x3 x4 x5 x6) env' ∧ SLe st' (S x0 x1 x2 x3 x4 x5 x6)) (fun n => n) N ⟨i0,i1,i2,i3,i4,i5,i6,h,h0,h1⟩ ?_
  rintro n env1 st1 ⟨x0,x1,x2,x3,x4,x5,x6,h,hsub,hst⟩
  rcases n with _ | n
  · exact (hz x0 x1 x2 x3 x4 x5 x6 h).elim
  · exact WC.sub hsub (WC.weak hst (hs n x0 x1 x2 x3 x4 x5 x6 h))
theorem Fn7 {β : Sort _} {z : β} {n : Nat} {α0 α1 α2 α3 α4 α5 α6 : Type} {A : α0 → α1 → α2 → α3 → α4 → α5 → α6 → Env} {S : α0 → α1 → α2 → α3 → α4 → α5 → α6 → List AO} {L : Nat → α0 → α1 → α2 → α3 → α4 → α5 → α6 → β} {i0 : α0} {i1 : α1} {i2 : α2} {i3 : α3} {i4 : α4} {i5 : α5} {i6 : α6} (h : L n i0 i1 i2 i3 i4 i5 i6 = z) (h0 : Sub (A i0 i1 i2 i3 i4 i5 i6) env:=by
    repeat' (first | exact Sub.nil _ | refine Sub.cons rfl ?_ ?_ | exact Le.refl _ | exact Le.nil | exact Le.u _ | exact Le.fs _ | exact Les.refl _ | exact trivial | refine Le.tud ?_ | refine Le.agd ?_ | refine Le.fnc ?_ ?_ | refine ⟨?_,?_⟩)) (h1 : SLe st (S i0 i1 i2 i3 i4 i5 i6):=by
    first | exact SLe.refl _ | repeat' (first | exact rfl | exact Le.refl _ | exact Le.nil | exact Le.u _ | exact Le.fs _ | exact Les.refl _ | exact trivial | refine Le.tud ?_ | refine Le.agd ?_ | refine Le.fnc ?_ ?_ | refine ⟨?_,?_⟩)) : WE P e .normal (.lp (fun env' st' => ∃ y,(∃ x0 : α0,∃ x1 : α1,∃ x2 : α2,∃ x3 : α3,∃ x4 : α4,∃ x5 : α5,∃ x6 : α6,L y x0 x1 x2 x3 x4 x5 x6 = z ∧ Sub (A x0 x1 x2 x3 x4 x5 x6) env' ∧ SLe st' (S x0 x1 x2 x3 x4 x5 x6)) ∧ y < n + 1) κ) env st:=we_lp ⟨n,⟨i0,i1,i2,i3,i4,i5,i6,h,h0,h1⟩,Nat.lt_succ_self n⟩
theorem Jn8 {β : Sort _} {z : β} {α0 α1 α2 α3 α4 α5 α6 α7 : Type} (A : α0 → α1 → α2 → α3 → α4 → α5 → α6 → α7 → Env) (S : α0 → α1 → α2 → α3 → α4 → α5 → α6 → α7 → List AO) {K : α0 → α1 → α2 → α3 → α4 → α5 → α6 → α7 → β} {F : (α0 → α1 → α2 → α3 → α4 → α5 → α6 → α7 → β) → β} (h : letk K F = z) (h1 : ∀ k : α0 → α1 → α2 → α3 → α4 → α5 → α6 → α7 → β,F k = z → WC P e x (.lp (fun env' st' => ∃ x0 : α0,∃ x1 : α1,∃ x2 : α2,∃ x3 : α3,∃ x4 : α4,∃ x5 : α5,∃ x6 : α6,∃ x7 : α7,k x0 x1 x2 x3 x4 x5 x6 x7 = z ∧ Sub (A x0 x1 x2 x3 x4 x5 x6 x7) env' ∧ SLe st' (S x0 x1 x2 x3 x4 x5 x6 x7)) κ) env st) (h2 : ∀ (x0 : α0) (x1 : α1) (x2 : α2) (x3 : α3) (x4 : α4) (x5 : α5) (x6 : α6) (x7 : α7),K x0 x1 x2 x3 x4 x5 x6 x7 = z → WC P e y κ (A x0 x1 x2 x3 x4 x5 x6 x7) (S x0 x1 x2 x3 x4 x5 x6 x7)) : WC P e (.seq x y) κ env st:=by
  refine wc_cut _ (h1 K h) ?_
  rintro env' st' ⟨x0,x1,x2,x3,x4,x5,x6,x7,h,hs,hw⟩
  exact WC.sub hs (WC.weak hw (h2 x0 x1 x2 x3 x4 x5 x6 x7 h))
theorem En8 {β : Sort _} {z : β} {α0 α1 α2 α3 α4 α5 α6 α7 : Type} {A : α0 → α1 → α2 → α3 → α4 → α5 → α6 → α7 → Env} {S : α0 → α1 → α2 → α3 → α4 → α5 → α6 → α7 → List AO} {k : α0 → α1 → α2 → α3 → α4 → α5 → α6 → α7 → β} {i0 : α0} {i1 : α1} {i2 : α2} {i3 : α3} {i4 : α4} {i5 : α5} {i6 : α6} {i7 : α7} (h : k i0 i1 i2 i3 i4 i5 i6 i7 = z) (h0 : Sub (A i0 i1 i2 i3 i4 i5 i6 i7) env:=by
    repeat' (first | exact Sub.nil _ | refine Sub.cons rfl ?_ ?_ | exact Le.refl _ | exact Le.nil | exact Le.u _ | exact Le.fs _ | exact Les.refl _ | exact trivial | refine Le.tud ?_ | refine Le.agd ?_ | refine Le.fnc ?_ ?_ | refine ⟨?_,?_⟩)) (h1 : SLe st (S i0 i1 i2 i3 i4 i5 i6 i7):=by
    first | exact SLe.refl _ | repeat' (first | exact rfl | exact Le.refl _ | exact Le.nil | exact Le.u _ | exact Le.fs _ | exact Les.refl _ | exact trivial | refine Le.tud ?_ | refine Le.agd ?_ | refine Le.fnc ?_ ?_ | refine ⟨?_,?_⟩)) : WE P e .normal (.lp (fun env' st' => ∃ x0 : α0,∃ x1 : α1,∃ x2 : α2,∃ x3 : α3,∃ x4 : α4,∃ x5 : α5,∃ x6 : α6,∃ x7 : α7,k x0 x1 x2 x3 x4 x5 x6 x7 = z ∧ Sub (A x0 x1 x2 x3 x4 x5 x6 x7) env' ∧ SLe st' (S x0 x1 x2 x3 x4 x5 x6 x7)) κ) env st:=we_lp ⟨i0,i1,i2,i3,i4,i5,i6,i7,h,h0,h1⟩
theorem Jn13 {β : Sort _} {z : β} {α0 α1 α2 α3 α4 α5 α6 α7 α8 α9 α10 α11 α12 : Type} (A : α0 → α1 → α2 → α3 → α4 → α5 → α6 → α7 → α8 → α9 → α10 → α11 → α12 → Env) (S : α0 → α1 → α2 → α3 → α4 → α5 → α6 → α7 → α8 → α9 → α10 → α11 → α12 → List AO) {K : α0 → α1 → α2 → α3 → α4 → α5 → α6 → α7 → α8 → α9 → α10 → α11 → α12 → β} {F : (α0 → α1 → α2 → α3 → α4 → α5 → α6 → α7 → α8 → α9 → α10 → α11 → α12 → β) → β} (h : letk K F = z) (h1 : ∀ k : α0 → α1 → α2 → α3 → α4 → α5 → α6 → α7 → α8 → α9 → α10 → α11 → α12 → β,F k = z → WC P e x (.lp (fun env' st' => ∃ x0 : α0,∃ x1 : α1,∃ x2 : α2,∃ x3 : α3,∃ x4 : α4,∃ x5 : α5,∃ x6 : α6,∃ x7 : α7,∃ x8 : α8,∃ x9 : α9,∃ x10 : α10,∃ x11 : α11,∃ x12 : α12,k x0 x1 x2 x3 x4 x5 x6 x7 x8 x9 x10 x11 x12 = z ∧ Sub (A x0 x1 x2 x3 x4 x5 x6 x7 x8 x9 x10 x11 x12) env' ∧ SLe st' (S x0 x1 x2 x3 x4 x5 x6 x7 x8 x9 x10 x11 x12)) κ) env st) (h2 : ∀ (x0 : α0) (x1 : α1) (x2 : α2) (x3 : α3) (x4 : α4) (x5 : α5) (x6 : α6) (x7 : α7) (x8 : α8) (x9 : α9) (x10 : α10) (x11 : α11) (x12 : α12),K x0 x1 x2 x3 x4 x5 x6 x7 x8 x9 x10 x11 x12 = z → WC P e y κ (A x0 x1 x2 x3 x4 x5 x6 x7 x8 x9 x10 x11 x12) (S x0 x1 x2 x3 x4 x5 x6 x7 x8 x9 x10 x11 x12)) : WC P e (.seq x y) κ env st:=by
  refine wc_cut _ (h1 K h) ?_
  rintro env' st' ⟨x0,x1,x2,x3,x4,x5,x6,x7,x8,x9,x10,x11,x12,h,hs,hw⟩
  exact WC.sub hs (WC.weak hw (h2 x0 x1 x2 x3 x4 x5 x6 x7 x8 x9 x10 x11 x12 h))
theorem En13 {β : Sort _} {z : β} {α0 α1 α2 α3 α4 α5 α6 α7 α8 α9 α10 α11 α12 : Type} {A : α0 → α1 → α2 → α3 → α4 → α5 → α6 → α7 → α8 → α9 → α10 → α11 → α12 → Env} {S : α0 → α1 → α2 → α3 → α4 → α5 → α6 → α7 → α8 → α9 → α10 → α11 → α12 → List AO} {k : α0 → α1 → α2 → α3 → α4 → α5 → α6 → α7 → α8 → α9 → α10 → α11 → α12 → β} {i0 : α0} {i1 : α1} {i2 : α2} {i3 : α3} {i4 : α4} {i5 : α5} {i6 : α6} {i7 : α7} {i8 : α8} {i9 : α9} {i10 : α10} {i11 : α11} {i12 : α12} (h : k i0 i1 i2 i3 i4 i5 i6 i7 i8 i9 i10 i11 i12 = z) (h0 : Sub (A i0 i1 i2 i3 i4 i5 i6 i7 i8 i9 i10 i11 i12) env:=by
    repeat' (first | exact Sub.nil _ | refine Sub.cons rfl ?_ ?_ | exact Le.refl _ | exact Le.nil | exact Le.u _ | exact Le.fs _ | exact Les.refl _ | exact trivial | refine Le.tud ?_ | refine Le.agd ?_ | refine Le.fnc ?_ ?_ | refine ⟨?_,?_⟩)) (h1 : SLe st (S i0 i1 i2 i3 i4 i5 i6 i7 i8 i9 i10 i11 i12):=by
    first | exact SLe.refl _ | repeat' (first | exact rfl | exact Le.refl _ | exact Le.nil | exact Le.u _ | exact Le.fs _ | exact Les.refl _ | exact trivial | refine Le.tud ?_ | refine Le.agd ?_ | refine Le.fnc ?_ ?_ | refine ⟨?_,?_⟩)) : WE P e .normal (.lp (fun env' st' => ∃ x0 : α0,∃ x1 : α1,∃ x2 : α2,∃ x3 : α3,∃ x4 : α4,∃ x5 : α5,∃ x6 : α6,∃ x7 : α7,∃ x8 : α8,∃ x9 : α9,∃ x10 : α10,∃ x11 : α11,∃ x12 : α12,k x0 x1 x2 x3 x4 x5 x6 x7 x8 x9 x10 x11 x12 = z ∧ Sub (A x0 x1 x2 x3 x4 x5 x6 x7 x8 x9 x10 x11 x12) env' ∧ SLe st' (S x0 x1 x2 x3 x4 x5 x6 x7 x8 x9 x10 x11 x12)) κ) env st:=we_lp ⟨i0,i1,i2,i3,i4,i5,i6,i7,i8,i9,i10,i11,i12,h,h0,h1⟩
theorem Ln14 {β : Sort _} {z : β} {α0 α1 α2 α3 α4 α5 α6 α7 α8 α9 α10 α11 α12 α13 : Type} (A : α0 → α1 → α2 → α3 → α4 → α5 → α6 → α7 → α8 → α9 → α10 → α11 → α12 → α13 → Env) (S : α0 → α1 → α2 → α3 → α4 → α5 → α6 → α7 → α8 → α9 → α10 → α11 → α12 → α13 → List AO) (L : Nat → α0 → α1 → α2 → α3 → α4 → α5 → α6 → α7 → α8 → α9 → α10 → α11 → α12 → α13 → β) {N : Nat} {i0 : α0} {i1 : α1} {i2 : α2} {i3 : α3} {i4 : α4} {i5 : α5} {i6 : α6} {i7 : α7} {i8 : α8} {i9 : α9} {i10 : α10} {i11 : α11} {i12 : α12} {i13 : α13} (h : L N i0 i1 i2 i3 i4 i5 i6 i7 i8 i9 i10 i11 i12 i13 = z) (hz : ∀ (x0 : α0) (x1 : α1) (x2 : α2) (x3 : α3) (x4 : α4) (x5 : α5) (x6 : α6) (x7 : α7) (x8 : α8) (x9 : α9) (x10 : α10) (x11 : α11) (x12 : α12) (x13 : α13),L 0 x0 x1 x2 x3 x4 x5 x6 x7 x8 x9 x10 x11 x12 x13 = z → False) (hs : ∀ n (x0 : α0) (x1 : α1) (x2 : α2) (x3 : α3) (x4 : α4) (x5 : α5) (x6 : α6) (x7 : α7) (x8 : α8) (x9 : α9) (x10 : α10) (x11 : α11) (x12 : α12) (x13 : α13),L (n + 1) x0 x1 x2 x3 x4 x5 x6 x7 x8 x9 x10 x11 x12 x13 = z → WC P e x (.lp (fun env' st' => ∃ y,(∃ x0 : α0,∃ x1 : α1,∃ x2 : α2,∃ x3 : α3,∃ x4 : α4,∃ x5 : α5,∃ x6 : α6,∃ x7 : α7,∃ x8 : α8,∃ x9 : α9,∃ x10 : α10,∃ x11 : α11,∃ x12 : α12,∃ x13 : α13,L y x0 x1 x2 x3 x4 x5 x6 x7 x8 x9 x10 x11 x12 x13 = z ∧ Sub (A x0 x1 x2 x3 x4 x5 x6 x7 x8 x9 x10 x11 x12 x13) env' ∧ SLe st' (S x0 x1 x2 x3 x4 x5 x6 x7 x8 x9 x10 x11 x12 x13)) ∧ y < n + 1) κ) (A x0 x1 x2 x3 x4 x5 x6 x7 x8 x9 x10 x11 x12 x13) (S x0 x1 x2 x3 x4 x5 x6 x7 x8 x9 x10 x11 x12 x13)) (h0 : Sub (A i0 i1 i2 i3 i4 i5 i6 i7 i8 i9 i10 i11 i12 i13) env:=by
    repeat' (first | exact Sub.nil _ | refine Sub.cons rfl ?_ ?_ | exact Le.refl _ | exact Le.nil | exact Le.u _ | exact Le.fs _ | exact Les.refl _ | exact trivial | refine Le.tud ?_ | refine Le.agd ?_ | refine Le.fnc ?_ ?_ | refine ⟨?_,?_⟩)) (h1 : SLe st (S i0 i1 i2 i3 i4 i5 i6 i7 i8 i9 i10 i11 i12 i13):=by
    first | exact SLe.refl _ | repeat' (first | exact rfl | exact Le.refl _ | exact Le.nil | exact Le.u _ | exact Le.fs _ | exact Les.refl _ | exact trivial | refine Le.tud ?_ | refine Le.agd ?_ | refine Le.fnc ?_ ?_ | refine ⟨?_,?_⟩)) : WC P e (.loop x) κ env st:=by
  refine wc_loop (fun n env' st' => ∃ x0 : α0,∃ x1 : α1,∃ x2 : α2,∃ x3 : α3,∃ x4 : α4,∃ x5 : α5,∃ x6 : α6,∃ x7 : α7,∃ x8 : α8,∃ x9 : α9,∃ x10 : α10,∃ x11 : α11,∃ x12 : α12,∃ x13 : α13,L n x0 x1 x2 x3 x4 x5 x6 x7 x8 x9 x10 x11 x12 x13 = z ∧ Sub (A x0 x1 x2 x3 x4 x5 x6 x7 x8 x9 x10 x11 x12 x13) env' ∧ SLe st' (S x0 x1 x2 x3 x4 x5 x6 x7 x8 x9 x10 x11 x12 x13)) (fun n => n) N ⟨i0,i1,i2,i3,i4,i5,i6,i7,i8,i9,i10,i11,i12,i13,h,h0,h1⟩ ?_
  rintro n env1 st1 ⟨x0,x1,x2,x3,x4,x5,x6,x7,x8,x9,x10,x11,x12,x13,h,hsub,hst⟩
  rcases n with _ | n
  · exact (hz x0 x1 x2 x3 x4 x5 x6 x7 x8 x9 x10 x11 x12 x13 h).elim
  · exact WC.sub hsub (WC.weak hst (hs n x0 x1 x2 x3 x4 x5 x6 x7 x8 x9 x10 x11 x12 x13 h))
theorem Fn14 {β : Sort _} {z : β} {n : Nat} {α0 α1 α2 α3 α4 α5 α6 α7 α8 α9 α10 α11 α12 α13 : Type} {A : α0 → α1 → α2 → α3 → α4 → α5 → α6 → α7 → α8 → α9 → α10 → α11 → α12 → α13 → Env} {S : α0 → α1 → α2 → α3 → α4 → α5 → α6 → α7 → α8 → α9 → α10 → α11 → α12 → α13 → List AO} {L : Nat → α0 → α1 → α2 → α3 → α4 → α5 → α6 → α7 → α8 → α9 → α10 → α11 → α12 → α13 → β} {i0 : α0} {i1 : α1} {i2 : α2} {i3 : α3} {i4 : α4} {i5 : α5} {i6 : α6} {i7 : α7} {i8 : α8} {i9 : α9} {i10 : α10} {i11 : α11} {i12 : α12} {i13 : α13} (h : L n i0 i1 i2 i3 i4 i5 i6 i7 i8 i9 i10 i11 i12 i13 = z) (h0 : Sub (A i0 i1 i2 i3 i4 i5 i6 i7 i8 i9 i10 i11 i12 i13) env:=by
    repeat' (first | exact Sub.nil _ | refine Sub.cons rfl ?_ ?_ | exact Le.refl _ | exact Le.nil | exact Le.u _ | exact Le.fs _ | exact Les.refl _ | exact trivial | refine Le.tud ?_ | refine Le.agd ?_ | refine Le.fnc ?_ ?_ | refine ⟨?_,?_⟩)) (h1 : SLe st (S i0 i1 i2 i3 i4 i5 i6 i7 i8 i9 i10 i11 i12 i13):=by
    first | exact SLe.refl _ | repeat' (first | exact rfl | exact Le.refl _ | exact Le.nil | exact Le.u _ | exact Le.fs _ | exact Les.refl _ | exact trivial | refine Le.tud ?_ | refine Le.agd ?_ | refine Le.fnc ?_ ?_ | refine ⟨?_,?_⟩)) : WE P e .normal (.lp (fun env' st' => ∃ y,(∃ x0 : α0,∃ x1 : α1,∃ x2 : α2,∃ x3 : α3,∃ x4 : α4,∃ x5 : α5,∃ x6 : α6,∃ x7 : α7,∃ x8 : α8,∃ x9 : α9,∃ x10 : α10,∃ x11 : α11,∃ x12 : α12,∃ x13 : α13,L y x0 x1 x2 x3 x4 x5 x6 x7 x8 x9 x10 x11 x12 x13 = z ∧ Sub (A x0 x1 x2 x3 x4 x5 x6 x7 x8 x9 x10 x11 x12 x13) env' ∧ SLe st' (S x0 x1 x2 x3 x4 x5 x6 x7 x8 x9 x10 x11 x12 x13)) ∧ y < n + 1) κ) env st:=we_lp ⟨n,⟨i0,i1,i2,i3,i4,i5,i6,i7,i8,i9,i10,i11,i12,i13,h,h0,h1⟩,Nat.lt_succ_self n⟩
theorem En29 {β : Sort _} {z : β} {α0 α1 α2 α3 α4 α5 α6 α7 α8 α9 α10 α11 α12 α13 α14 α15 α16 α17 α18 α19 α20 α21 α22 α23 α24 α25 α26 α27 α28 : Type} {A : α0 → α1 → α2 → α3 → α4 → α5 → α6 → α7 → α8 → α9 → α10 → α11 → α12 → α13 → α14 → α15 → α16 → α17 → α18 → α19 → α20 → α21 → α22 → α23 → α24 → α25 → α26 → α27 → α28 → Env} {S : α0 → α1 → α2 → α3 → α4 → α5 → α6 → α7 → α8 → α9 → α10 → α11 → α12 → α13 → α14 → α15 → α16 → α17 → α18 → α19 → α20 → α21 → α22 → α23 → α24 → α25 → α26 → α27 → α28 → List AO} {k : α0 → α1 → α2 → α3 → α4 → α5 → α6 → α7 → α8 → α9 → α10 → α11 → α12 → α13 → α14 → α15 → α16 → α17 → α18 → α19 → α20 → α21 → α22 → α23 → α24 → α25 → α26 → α27 → α28 → β} {i0 : α0} {i1 : α1} {i2 : α2} {i3 : α3} {i4 : α4} {i5 : α5} {i6 : α6} {i7 : α7} {i8 : α8} {i9 : α9} {i10 : α10} {i11 : α11} {i12 : α12} {i13 : α13} {i14 : α14} {i15 : α15} {i16 : α16} {i17 : α17} {i18 : α18} {i19 : α19} {i20 : α20} {i21 : α21} {i22 : α22} {i23 : α23} {i24 : α24} {i25 : α25} {i26 : α26} {i27 : α27} {i28 : α28} (h : k i0 i1 i2 i3 i4 i5 i6 i7 i8 i9 i10 i11 i12 i13 i14 i15 i16 i17 i18 i19 i20 i21 i22 i23 i24 i25 i26 i27 i28 = z) (h0 : Sub (A i0 i1 i2 i3 i4 i5 i6 i7 i8 i9 i10 i11 i12 i13 i14 i15 i16 i17 i18 i19 i20 i21 i22 i23 i24 i25 i26 i27 i28) env:=by
    repeat' (first | exact Sub.nil _ | refine Sub.cons rfl ?_ ?_ | exact Le.refl _ | exact Le.nil | exact Le.u _ | exact Le.fs _ | exact Les.refl _ | exact trivial | refine Le.tud ?_ | refine Le.agd ?_ | refine Le.fnc ?_ ?_ | refine ⟨?_,?_⟩)) (h1 : SLe st (S i0 i1 i2 i3 i4 i5 i6 i7 i8 i9 i10 i11 i12 i13 i14 i15 i16 i17 i18 i19 i20 i21 i22 i23 i24 i25 i26 i27 i28):=by
    first | exact SLe.refl _ | repeat' (first | exact rfl | exact Le.refl _ | exact Le.nil | exact Le.u _ | exact Le.fs _ | exact Les.refl _ | exact trivial | refine Le.tud ?_ | refine Le.agd ?_ | refine Le.fnc ?_ ?_ | refine ⟨?_,?_⟩)) : WE P e .normal (.lp (fun env' st' => ∃ x0 : α0,∃ x1 : α1,∃ x2 : α2,∃ x3 : α3,∃ x4 : α4,∃ x5 : α5,∃ x6 : α6,∃ x7 : α7,∃ x8 : α8,∃ x9 : α9,∃ x10 : α10,∃ x11 : α11,∃ x12 : α12,∃ x13 : α13,∃ x14 : α14,∃ x15 : α15,∃ x16 : α16,∃ x17 : α17,∃ x18 : α18,∃ x19 : α19,∃ x20 : α20,∃ x21 : α21,∃ x22 : α22,∃ x23 : α23,∃ x24 : α24,∃ x25 : α25,∃ x26 : α26,∃ x27 : α27,∃ x28 : α28,k x0 x1 x2 x3 x4 x5 x6 x7 x8 x9 x10 x11 x12 x13 x14 x15 x16 x17 x18 x19 x20 x21 x22 x23 x24 x25 x26 x27 x28 = z ∧ Sub (A x0 x1 x2 x3 x4 x5 x6 x7 x8 x9 x10 x11 x12 x13 x14 x15 x16 x17 x18 x19 x20 x21 x22 x23 x24 x25 x26 x27 x28) env' ∧ SLe st' (S x0 x1 x2 x3 x4 x5 x6 x7 x8 x9 x10 x11 x12 x13 x14 x15 x16 x17 x18 x19 x20 x21 x22 x23 x24 x25 x26 x27 x28)) κ) env st:=we_lp ⟨i0,i1,i2,i3,i4,i5,i6,i7,i8,i9,i10,i11,i12,i13,i14,i15,i16,i17,i18,i19,i20,i21,i22,i23,i24,i25,i26,i27,i28,h,h0,h1⟩
theorem RO {id : Nat} {l : List Oper} (rs : List AV) (tc : List (List Nat)) (es : List Nat) (L : List (List AO)) (plan : List (List Nat × List Nat × List Nat)) (hm : P.follows .mixedOrders = true) (hok : allOk l tc es plan = true) (hrs : Nat.beq rs.length l.length = true) (hes : es.all (fun y => Nat.blt y l.length) = true)
    (hobs : Obs P e l rs env (fun c => List.getD (st :: L) c []) es 0 l plan) (h : WE P e .normal κ (FL env (fun k => Nat.blt k l.length) (regOf l rs 0)) (List.getD (st :: L) es.length [])) (hnf : noDefer l = true:=by kernel_rfl) : WC P e (.region id l.toArray true) κ env st:=wc_region_all rs tc es _ plan hm hok hrs hes rfl hobs h hnf
def insN (x : Nat) : List Nat → List Nat
  | [] => [x]
  | y :: l => bif Nat.beq x y then y :: l else y :: insN x l
def tcF (l : List Oper) : List (List Nat):=l.foldl (fun acc o => acc ++ [o.after.toList.foldl (fun r e => bif Region.binds .any e then (acc.getD e.on []).foldl (fun r x => insN x r) (insN e.on r) else r) []]) []
theorem RT {id : Nat} {l : List Oper} (rs : List AV) (es : List Nat) (L : List (List AO)) (plan : List (List Nat × List Nat × List Nat)) (hm : P.follows .mixedOrders = true) (hok : allOk l (tcF l) es plan = true) (hrs : Nat.beq rs.length l.length = true) (hes : es.all (fun y => Nat.blt y l.length) = true)
    (hobs : Obs P e l rs env (fun c => List.getD (st :: L) c []) es 0 l plan) (h : WE P e .normal κ (FL env (fun k => Nat.blt k l.length) (regOf l rs 0)) (List.getD (st :: L) es.length [])) (hnf : noDefer l = true:=by kernel_rfl) : WC P e (.region id l.toArray true) κ env st:=RO rs (tcF l) es L plan hm hok hrs hes hobs h hnf
theorem O1 [T : Tys P] {l : List Oper} {rs : List AV} {base : Env} {sts : Nat → List AO} {k d c : Nat} {o : Oper} {pk bk : List Nat} {up : Bool} {r : AV} (hd : o.dst = some d) (h : ∀ F : Env,stepL T.t e.n l.toArray (sts c) (ekOf l rs base pk bk ++ F) o = some ((d,r) :: (ekOf l rs base pk bk ++ F))) (hr : rs[k]? = some r) (hu : up = false) : ObC P e l rs base sts k o pk bk up [c] :=
  ⟨fun F => stepL_WL T.h (h F) (WL.done1 hd hr (by rw [hu]; rfl)),trivial⟩
theorem O2 [T : Tys P] {l : List Oper} {rs : List AV} {base : Env} {sts : Nat → List AO} {k d c c' : Nat} {o : Oper} {pk bk : List Nat} {r : AV} (hd : o.dst = some d) (h : ∀ F : Env,stepL T.t e.n l.toArray (sts c) (ekOf l rs base pk bk ++ F) o = some ((d,r) :: (ekOf l rs base pk bk ++ F))) (hr : rs[k]? = some r) (hu : c' = c) : Ob P e l rs base sts k o pk bk c c' :=
  fun F => stepL_WL T.h (h F) (WL.done1 hd hr (by rw [hu]))
def nrmL {α : Type} : List α → Option (List α)
  | [] => some []
  | a :: l => match nrmL l with
    | some l' => some (a :: l')
    | none => none
theorem nrmL_eq {α : Type} : ∀ {l l' : List α},nrmL l = some l' → l = l'
  | [],l',h => Option.some.inj h
  | a :: l,l',h => by
    dsimp only [nrmL] at h
    split at h
    · rename_i hl; rw [nrmL_eq hl]; exact Option.some.inj h
    · cases h
def nrmO : AO → Option AO
  | .row T cs => match nrmL cs with
    | some c => some (.row T c)
    | none => none
  | o => some o
theorem nrmO_eq {o o' : AO} (h : nrmO o = some o') : o = o':=by
  cases o with
  | row T cs =>
    dsimp only [nrmO] at h
    split at h
    · rename_i hl; rw [nrmL_eq hl]; exact Option.some.inj h
    · cases h
  | _ => exact Option.some.inj h
def nrmS : List AO → Option (List AO)
  | [] => some []
  | a :: l => match nrmO a,nrmS l with
    | some a',some l' => some (a' :: l')
    | _,_ => none
theorem nrmS_eq : ∀ {l l' : List AO},nrmS l = some l' → l = l'
  | [],l',h => Option.some.inj h
  | a :: l,l',h => by
    dsimp only [nrmS] at h
    split at h
    · rename_i ha hl; rw [nrmO_eq ha,nrmS_eq hl]; exact Option.some.inj h
    · cases h
theorem St {st' : List AO} (h : nrmS st = some st') (k : WL P e ops rest env st' R) : WL P e ops rest env st R:=WL.st (nrmS_eq h) k
end
end Go.Sk
namespace Go.Sk
open Go.RowKit (Below)
def ObX (P : Program) (e : En) (l : List Oper) (rs : List AV) (base : Env) (s s' : List AO → Prop) (k : Nat) (o : Oper) (pk bk : List Nat) : Prop :=
  ∀ (F : Env) (st : List AO),s st → WL P e l.toArray [o] (ekOf l rs base pk bk ++ F) st fun env' st' => s' st' ∧ ∃ pre,env' = pre ++ (ekOf l rs base pk bk ++ F) ∧
    (∀ t x,pre.get t = some x → o.dst = some t) ∧ ∀ d r,o.dst = some d → rs[k]? = some r → pre.get d = some r
def ObCX (P : Program) (e : En) (l : List Oper) (rs : List AV) (base : Env) (sts : List Bool → List AO → Prop) (es : List Nat) (k : Nat) (o : Oper) (pk bk : List Nat) : List (List Bool) → Prop
  | [] => True
  | c :: cs => ObX P e l rs base (sts c) (sts (upB k es c)) k o pk bk ∧ ObCX P e l rs base sts es k o pk bk cs
def ObsX (P : Program) (e : En) (l : List Oper) (rs : List AV) (base : Env) (sts : List Bool → List AO → Prop) (es : List Nat) : Nat → List Oper → List (List Nat × List Nat × List (List Bool)) → Prop
  | k,o :: ol,p :: ps => ObCX P e l rs base sts es k o p.1 p.2.1 p.2.2 ∧ ObsX P e l rs base sts es (k + 1) ol ps
  | _,_,_ => True
theorem ObCX_get {P e l rs base sts es k o pk bk} : ∀ {cs : List (List Bool)},ObCX P e l rs base sts es k o pk bk cs → ∀ c ∈ cs,ObX P e l rs base (sts c) (sts (upB k es c)) k o pk bk
  | c :: cs,h,c',hc => by
    rcases List.mem_cons.1 hc with rfl | hc
    · exact h.1
    · exact ObCX_get h.2 c' hc
theorem ObsX_get {P e l rs base sts es} : ∀ {ol : List Oper} {ps : List (List Nat × List Nat × List (List Bool))} {k j : Nat} {o : Oper} {p : List Nat × List Nat × List (List Bool)},ObsX P e l rs base sts es k ol ps → ol[j]? = some o → ps[j]? = some p → ObCX P e l rs base sts es (k + j) o p.1 p.2.1 p.2.2
  | o0 :: ol,p0 :: ps,k,0,o,p,h,h1,h2 => by
    simp only [List.getElem?_cons_zero,Option.some.injEq] at h1 h2
    subst h1; subst h2; exact h.1
  | o0 :: ol,p0 :: ps,k,j + 1,o,p,h,h1,h2 => by
    have:=ObsX_get h.2 (by simpa using h1 : ol[j]? = some o) (by simpa using h2 : ps[j]? = some p)
    rw [show k + (j + 1) = k + 1 + j by omega]; exact this
  | [],_,_,_,_,_,_,h1,_ => by simp at h1
  | _ :: _,[],_,_,_,_,_,_,h2 => by simp at h2
section
variable {P : Program} {e : En} {l : List Oper} {rs : List AV} {base : Env} {sts : List Bool → List AO → Prop} {es : List Nat}
def AtX (e : En) (l : List Oper) (rs : List AV) (base : Env) (sts : List Bool → List AO → Prop) (es : List Nat) (L : Nat → Bool) (a : Act) (w : World) : Prop :=
  ∃ m φ st,sts (es.map L) st ∧ Inv e m φ (FL base L (regOf l rs 0)) st a w
theorem all_stepX {Q' : Exit → Act → World → Prop} (hnf : noDefer l = true) {tc : List (List Nat)} {plan : List (List Nat × List Nat × List (List Bool))} (hok : allOkT l tc es plan = true) (hrs : rs.length = l.length) (hobs : ObsX P e l rs base sts es 0 l plan)
    {L L' : Nat → Bool} {k : Nat} {o : Oper} (ho : l[k]? = some o) (hd : Down l L) (hLn : ∀ y,L y = true → y < l.length) (hk : L k = false) (hpre : ∀ e ∈ o.after,Region.binds .any e = true → L e.on = true)
    (hL : ∀ j,j ≠ k → L' j = L j) (hk' : L' k = true) {a : Act} {w : World} (hat : AtX e l rs base sts es L a w) :
    wpOpIn (EF e.rd) 0 P l.toArray Q' k (fun a' w' => AtX e l rs base sts es L' a' w') a w:=by
  obtain ⟨m,φ,st,hst,hi⟩:=hat
  simp only [allOkT,Bool.and_eq_true] at hok
  obtain ⟨⟨⟨htc,hnd⟩,hpl⟩,hall⟩:=hok
  have hkl : k < l.length:=(List.getElem?_eq_some_iff.1 ho).1
  have h1:=List.all_eq_true.1 hall k (List.mem_range.2 hkl)
  cases hp : plan[k]? with
  | none => simp [hp] at h1
  | some p =>
    obtain ⟨pk,bk,cs⟩:=p
    simp only [hp,Bool.and_eq_true] at h1
    obtain ⟨⟨hpk,hbk⟩,hcs⟩:=h1
    have hobk:=ObsX_get hobs ho hp
    rw [Nat.zero_add] at hobk
    have htck:=tc_listed htc hd k o ho hpre
    have htcl : ∀ (y : Nat),L y = true → k ∉ tc.getD y []:=fun y hy hm => by
      have hyl:=hLn y hy
      have hoy : l[y]? = some l[y]:=List.getElem?_eq_getElem hyl
      have:=tc_listed htc hd y _ hoy (fun e' he' hb => hd y _ hoy hy e' he' hb) k hm
      rw [hk] at this; cases this
    -- the store is one of those that the plan names
    have hc : es.map L ∈ cs:=by
      have h2:=List.all_eq_true.1 hcs (es.map L) (mem_allB _ (List.length_map _))
      simp only [Bool.or_eq_true] at h2
      rcases h2 with h2 | h2
      · simpa using h2
      · obtain ⟨⟨y,b⟩,hy,h3⟩:=List.any_eq_true.1 h2
        obtain ⟨hye,rfl⟩:=mem_zip_map hy
        simp only [Bool.or_eq_true,Bool.and_eq_true,Bool.not_eq_true'] at h3
        rcases h3 with (⟨hL,h3 | h3⟩ | ⟨hL,h3⟩) | ⟨hL,h3⟩
        · rw [Nat.eq_of_beq_eq_true h3,hk] at hL; cases hL
        · exact absurd (by simpa using h3) (htcl y hL)
        · have:=htck y (by simpa using h3)
          rw [hL] at this; cases this
        · obtain ⟨⟨z,b⟩,hz,h4⟩:=List.any_eq_true.1 h3
          obtain ⟨_,rfl⟩:=mem_zip_map hz
          simp only [Bool.and_eq_true,Bool.not_eq_true'] at h4
          have hyl:=hLn y hL
          have hoy : l[y]? = some l[y]:=List.getElem?_eq_getElem hyl
          have:=tc_listed htc hd y _ hoy (fun e' he' hb => hd y _ hoy hL e' he' hb) z (by simpa using h4.2)
          rw [h4.1] at this; cases this
    have hob:=ObCX_get hobk _ hc
    have hcnt : es.map L' = upB k es (es.map L):=by
      rw [upB_map]
      apply List.map_congr_left
      intro y _
      by_cases hyk : y = k
      · subst hyk; simp [hk']
      · rw [hL y hyk]
        have : Nat.beq y k = false:=by
          cases hb : Nat.beq y k with
          | false => rfl
          | true => exact absurd (Nat.eq_of_beq_eq_true hb) hyk
        rw [this,Bool.or_false]
    have hreg:=reg_nodup (rs:=rs) (k:=0) (nodupB_spec hnd)
    have regk : ∀ (j t : Nat) (x : AV),(j,t,x) ∈ regOf l rs 0 → ∃ o',l[j]? = some o' ∧ o'.dst = some t ∧ rs[j]? = some x:=fun j t x hm => by
      obtain ⟨_,o',h1,h2,h3⟩:=mem_regOf hm
      exact ⟨o',by simpa using h1,h2,by simpa using h3⟩
    -- what the operation needs is there
    have hek : ∀ t x,(ekOf l rs base pk bk).get t = some x → (FL base L (regOf l rs 0)).get t = some x:=fun t x hx => by
      rcases ek_spec hx with ⟨j,hj,hm⟩ | ⟨hm,hb⟩
      · exact FL_hit hreg.1 hm (htck j (by simpa using List.all_eq_true.1 hpk j hj))
      · rw [FL_miss]
        · exact hb
        · intro j r hjm
          obtain ⟨o',h2,h3,_⟩:=regk j t r hjm
          have h4:=List.all_eq_true.1 (List.all_eq_true.1 hbk t hm) j (List.mem_range.2 (List.getElem?_eq_some_iff.1 h2).1)
          simp only [h2,h3,beq_self_eq_true,Bool.not_true,Bool.false_or,Bool.or_eq_true] at h4
          rcases h4 with h4 | h4
          · rw [Nat.eq_of_beq_eq_true h4]; exact hk
          · cases hLj : L j with
            | false => rfl
            | true => exact absurd (by simpa using h4) (htcl j hLj)
    have hsub : Sub (ekOf l rs base pk bk ++ FL base L (regOf l rs 0)) (FL base L (regOf l rs 0)):=fun t x hx => by
      rw [Env.get_append] at hx
      cases hg : (ekOf l rs base pk bk).get t with
      | some y => rw [hg] at hx; simp only [Option.some.injEq] at hx; subst hx; exact ⟨y,hek t y hg,Le.refl y⟩
      | none => rw [hg] at hx; exact ⟨x,hx,Le.refl x⟩
    refine wpOp_of_WL hnf ho (hob (FL base L (regOf l rs 0)) st hst) (hi.sub hsub) ?_
    rintro a' w' env' st' m' φ' ⟨hst',pre,rfl,hp1,hp2⟩ hi'
    refine ⟨m',φ',st',by rw [hcnt]; exact hst',?_⟩
    refine hi'.sub (fun t x hx => ?_)
    rw [Env.get_append,Env.get_append]
    cases hpt : pre.get t with
    | some y =>
      have hdt:=hp1 t y hpt
      cases hrk : rs[k]? with
      | none => exact absurd (List.getElem?_eq_none_iff.1 hrk) (by omega)
      | some r =>
        have h2:=hp2 t r hdt hrk
        rw [hpt] at h2
        simp only [Option.some.injEq] at h2
        subst h2
        have h3 : (FL base L' (regOf l rs 0)).get t = some y:=FL_hit hreg.1 (by simpa using regOf_mem (k:=0) ho hdt hrk) hk'
        rw [h3] at hx
        simp only [Option.some.injEq] at hx
        subst hx
        exact ⟨y,rfl,Le.refl y⟩
    | none =>
      have h3 : (FL base L' (regOf l rs 0)).get t = (FL base L (regOf l rs 0)).get t:=FL_step hL (fun r hr => by
        obtain ⟨o',h2,h3,h4⟩:=regk k t r hr
        rw [ho] at h2
        simp only [Option.some.injEq] at h2
        subst h2
        have:=hp2 t r h3 h4
        rw [hpt] at this; cases this)
      rw [h3] at hx
      cases hg : (ekOf l rs base pk bk).get t with
      | some y =>
        have:=hek t y hg
        rw [hx] at this
        simp only [Option.some.injEq] at this
        subst this
        exact ⟨x,rfl,Le.refl x⟩
      | none => exact ⟨x,hx,Le.refl x⟩
theorem all_anyX (hnf : noDefer l = true) {tc : List (List Nat)} {plan : List (List Nat × List Nat × List (List Bool))} {Q : Exit → Act → World → Prop} (hok : allOkT l tc es plan = true) (hrs : rs.length = l.length) (hobs : ObsX P e l rs base sts es 0 l plan)
    (hQ : ∀ a w,AtX e l rs base sts es (fun k => Nat.blt k l.length) a w → Q .normal a w) :
    ∀ (f : Nat) (listed : Array Bool) (a : Act) (w : World),listed.size = l.length → Down l (Lof listed) → listed.toList.count false ≤ f → AtX e l rs base sts es (Lof listed) a w → wpAnyIn (EF e.rd) 0 P .any l.toArray Q f listed a w:=by
  have htc : tcOk l tc = true:=by simp only [allOkT,Bool.and_eq_true] at hok; exact hok.1.1.1
  -- what is ready
  have rdy : ∀ (listed : Array Bool) (i : Nat),listed.size = l.length → i ∈ Region.ready .any l.toArray listed → ∃ o,l[i]? = some o ∧ Lof listed i = false ∧ listed[i]? = some false ∧ ∀ e ∈ o.after,Region.binds .any e = true → Lof listed e.on = true:=by
    intro listed i hsz hi
    obtain ⟨h0,o,ho,hall⟩:=mem_ready.1 hi
    have hil : i < listed.size:=by
      rcases Nat.lt_or_ge i listed.size with h | h
      · exact h
      · simp [Array.getD,Nat.not_lt.2 h] at h0
    have h1 : listed[i]? = some false:=by
      rw [Array.getElem?_eq_getElem hil]
      simp [Array.getD,hil] at h0
      rw [h0]
    exact ⟨o,by simpa using ho,by simp [Lof,Array.getD_eq_getD_getElem?,h1],h1,fun e he hb => hall e he hb⟩
  -- where nothing is ready,all is listed
  have full : ∀ (listed : Array Bool),listed.size = l.length → Region.ready .any l.toArray listed = [] → Lof listed = fun k => Nat.blt k l.length:=by
    intro listed hsz hr
    have key : ∀ k,k < l.length → Lof listed k = true:=by
      intro k
      induction k using Nat.strongRecOn with
      | _ k ih =>
        intro hk
        cases hLk : Lof listed k with
        | true => rfl
        | false =>
          exfalso
          have hok' : l[k]? = some l[k]:=List.getElem?_eq_getElem hk
          have : k ∈ Region.ready .any l.toArray listed:=by
            refine mem_ready.2 ⟨?_,l[k],by simp [hk],fun e he hb => ?_⟩
            · have hks : k < listed.size:=by omega
              simp only [Lof,Array.getD,hks,dif_pos] at hLk ⊢
              exact hLk
            · have h1:=List.all_eq_true.1 htc k (List.mem_range.2 hk)
              simp only [hok',Bool.and_eq_true] at h1
              have h2:=List.all_eq_true.1 h1.1 e (Array.mem_toList_iff.2 he)
              simp only [hb,Bool.not_true,Bool.false_or] at h2
              have hlt : e.on < k:=by simpa [Nat.blt_eq] using h2
              exact ih e.on hlt (by omega)
          rw [hr] at this; cases this
    funext k
    rcases Nat.lt_or_ge k l.length with h | h
    · rw [key k h]; simp [Nat.blt_eq,h]
    · have : Lof listed k = false:=by simp [Lof,Array.getD,Nat.not_lt.2 (by omega : listed.size ≤ k)]
      rw [this]
      cases hb : Nat.blt k l.length with
      | false => rfl
      | true => have : k < l.length:=by simpa [Nat.blt_eq] using hb
                omega
  intro f
  induction f with
  | zero =>
    intro listed a w hsz hdn hcn hat
    have hr : Region.ready .any l.toArray listed = []:=by
      cases hr : Region.ready .any l.toArray listed with
      | nil => rfl
      | cons i r =>
        obtain ⟨o,_,_,h1,_⟩:=rdy listed i hsz (by rw [hr]; exact List.mem_cons_self)
        have : false ∈ listed.toList:=List.mem_of_getElem? (i:=i) (by simpa using h1)
        have:=List.count_pos_iff.2 this
        omega
    exact ⟨hr,hQ a w (full listed hsz hr ▸ hat)⟩
  | succ f ih =>
    intro listed a w hsz hdn hcn hat
    refine ⟨fun hr => hQ a w (full listed hsz hr ▸ hat),fun i hi => ?_⟩
    obtain ⟨o,ho,hLi,hli,hpre⟩:=rdy listed i hsz hi
    have hil : i < listed.size:=(Array.getElem?_eq_some_iff.1 hli).1
    have hother : ∀ j,j ≠ i → Lof (listed.setIfInBounds i true) j = Lof listed j:=fun j hj => by
      simp only [Lof,Array.getD_eq_getD_getElem?,Array.getElem?_setIfInBounds_ne (Ne.symm hj)]
    have hself : Lof (listed.setIfInBounds i true) i = true:=by simp [Lof,Array.getD_eq_getD_getElem?,hil]
    have hstep:=all_stepX (Q':=Q) hnf (L':=Lof (listed.setIfInBounds i true)) hok hrs hobs ho hdn (fun y hy => by
      rcases Nat.lt_or_ge y l.length with h | h
      · exact h
      · simp [Lof,Array.getD,Nat.not_lt.2 (by omega : listed.size ≤ y)] at hy) hLi hpre hother hself hat
    refine wpOpIn_mono (fun a' w' hat' => ih _ a' w' (by simpa using hsz) ?_ ?_ hat') hstep
    · intro k ok hk hLk e he hb
      by_cases hki : k = i
      · subst hki
        rw [ho] at hk
        simp only [Option.some.injEq] at hk
        subst hk
        have:=hpre e he hb
        by_cases hei : e.on = k
        · rw [hei]; exact hself
        · rw [hother _ hei]; exact this
      · rw [hother k hki] at hLk
        have:=hdn k ok hk hLk e he hb
        by_cases hei : e.on = i
        · rw [hei]; exact hself
        · rw [hother _ hei]; exact this
    · have:=count_set (l:=listed.toList) (i:=i) (by simpa using hli)
      rw [Array.toList_setIfInBounds]
      omega
theorem wc_region_setx {k : Ko} {env : Env} {st : List AO} {id : Nat} (rs : List AV) (tc : List (List Nat)) (es : List Nat) {ι : Type} (x0 : ι) (sts : ι → List Bool → List AO) (plan : List (List Nat × List Nat × List (List Bool))) (hm : P.follows .mixedOrders = true)
    (hok : allOkT l tc es plan = true) (hrs : Nat.beq rs.length l.length = true) (hes : es.all (fun y => Nat.blt y l.length) = true) (hst : sts x0 (List.replicate es.length false) = st) (hobs : ObsX P e l rs env (fun c s => ∃ x,s = sts x c) es 0 l plan)
    (h : ∀ x,WE P e .normal k (FL env (fun k => Nat.blt k l.length) (regOf l rs 0)) (sts x (List.replicate es.length true))) (hnf : noDefer l = true:=by kernel_rfl) : WC P e (.region id l.toArray true) k env st:=fun m φ a w hi => by
  have hQ : ∀ a' w',AtX e l rs env (fun c s => ∃ x,s = sts x c) es (fun k => Nat.blt k l.length) a' w' → k.den P e .normal a' w':=fun a' w' ⟨m',φ',st',⟨x,hx⟩,hi'⟩ => by
    rw [map_true (fun y hy => List.all_eq_true.1 hes y hy)] at hx
    subst hx
    exact h x m' φ' a' w' hi'
  have hz : ∀ j,Lof (Array.replicate l.toArray.size false) j = false:=fun j => by simp [Lof,Array.getD]
  have hdn : Down l (Lof (Array.replicate l.toArray.size false)):=fun k o _ hL => by rw [hz] at hL; cases hL
  have hat : AtX e l rs env (fun c s => ∃ x,s = sts x c) es (Lof (Array.replicate l.toArray.size false)) a { w with drawn:=w.drawn + 1 }:=by
    have hc : es.map (Lof (Array.replicate l.toArray.size false)) = List.replicate es.length false:=map_false hz
    have hf : ∀ reg : List (Nat × Nat × AV),FL env (Lof (Array.replicate l.toArray.size false)) reg = env:=by
      intro reg
      induction reg with
      | nil => rfl
      | cons p reg ih => obtain ⟨j,d,r⟩:=p; simp only [FL,hz,cond_false]; exact ih
    refine ⟨m,φ,st,⟨x0,by rw [hc,hst]⟩,?_⟩
    rw [hf]
    exact hi.below ((Below.refl _ _).drew) (hi.env.mono (Pre.refl m) (Fz.refl φ w)) hi.sz rfl
  exact wpIn_region_any hm (all_anyX hnf (sts:=fun c s => ∃ x,s = sts x c) (base:=env) hok (Nat.eq_of_beq_eq_true hrs) hobs hQ _ _ a _ (by simp) hdn (by simp) hat)
end
theorem Ox {P : Program} {e : En} {l : List Oper} {rs : List AV} {base : Env} {ι : Type} {sts : ι → List Bool → List AO} {c c' : List Bool} {k : Nat} {o : Oper} {pk bk : List Nat}
    (h : ∀ x,ObT P e l rs base (sts x c) (sts x c') k o pk bk) : ObX P e l rs base (fun s => ∃ x,s = sts x c) (fun s => ∃ x,s = sts x c') k o pk bk:=fun F st ⟨x,hx⟩ => by
  subst hx
  intro m φ a w hi
  refine wpLx_bind (P:=P) (l2:=[]) (fun y a' w' hy => ⟨hy.1,?_⟩) [o] a w (h x F m φ a w hi)
  obtain ⟨_,env',st',m',φ',⟨h1,h2⟩,h3⟩:=hy
  exact ⟨rfl,env',st',m',φ',⟨⟨x,h1⟩,h2⟩,h3⟩
theorem Oy {P : Program} {e : En} {l : List Oper} {rs : List AV} {base : Env} {ι : Type} {sts : ι → List Bool → List AO} {c : List Bool} {s' : List AO → Prop} {k : Nat} {o : Oper} {pk bk : List Nat}
    (h : ∀ x (F : Env),WL P e l.toArray [o] (ekOf l rs base pk bk ++ F) (sts x c) fun env' st' => s' st' ∧ ∃ pre,env' = pre ++ (ekOf l rs base pk bk ++ F) ∧ (∀ t x,pre.get t = some x → o.dst = some t) ∧ ∀ d r,o.dst = some d → rs[k]? = some r → pre.get d = some r) : ObX P e l rs base (fun s => ∃ x,s = sts x c) s' k o pk bk:=fun F st ⟨x,hx⟩ => by
  subst hx
  exact h x F
theorem Zx {P : Program} {e : En} {rs : List AV} {ι : Type} {sts : ι → List AO} {ops : Array Oper} {env : Env} {st' : List AO} {o : Oper} {d : Nat} {r : AV} {k : Nat} (x : ι) (hd : o.dst = some d) (hr : rs[k]? = some r) (hst : st' = sts x) :
    WL P e ops [] ((d,r) :: env) st' (fun env' st'' => (∃ x,st'' = sts x) ∧ ∃ pre,env' = pre ++ env ∧ (∀ t x,pre.get t = some x → o.dst = some t) ∧ ∀ d' r',o.dst = some d' → rs[k]? = some r' → pre.get d' = some r') :=
  WL.nil ⟨⟨x,hst⟩,[(d,r)],rfl,fun t x hx => by
    rw [Env.get_cons] at hx
    split at hx
    · rename_i h; rw [h]; exact hd
    · simp [Env.get] at hx,fun d' r' hd' hr' => by
    rw [hd] at hd'; rw [hr] at hr'
    simp only [Option.some.injEq] at hd' hr'
    subst hd'; subst hr'
    simp [Env.get_cons]⟩
theorem O3 {P : Program} {e : En} [T : Tys P] {l : List Oper} {rs : List AV} {base : Env} {s s' : List AO} {k d : Nat} {o : Oper} {pk bk : List Nat} {r : AV} (hd : o.dst = some d) (h : ∀ F : Env,stepL T.t e.n l.toArray s (ekOf l rs base pk bk ++ F) o = some ((d,r) :: (ekOf l rs base pk bk ++ F))) (hr : rs[k]? = some r) (hu : s' = s) : ObT P e l rs base s s' k o pk bk :=
  fun F => stepL_WL T.h (h F) (WL.done1 hd hr (by rw [hu]))
def bx {ι : Type} (S : ι → List AO) (st : List AO) (x : ι) (c : List Bool) : List AO:=bif c.headD false then S x else st
theorem R1x {P : Program} {e : En} {l : List Oper} {κ : Ko} {env : Env} {st : List AO} {id : Nat} (rs : List AV) (e1 : Nat) {ι : Type} (x0 : ι) (S : ι → List AO) (plan : List (List Nat × List Nat × List (List Bool))) (hm : P.follows .mixedOrders = true)
    (hok : allOkT l (tcF l) [e1] plan = true) (hrs : Nat.beq rs.length l.length = true) (hes : [e1].all (fun y => Nat.blt y l.length) = true)
    (hobs : ObsX P e l rs env (fun c s => ∃ x,s = bx S st x c) [e1] 0 l plan) (h : ∀ x,WE P e .normal κ (FL env (fun k => Nat.blt k l.length) (regOf l rs 0)) (S x)) (hnf : noDefer l = true:=by kernel_rfl) : WC P e (.region id l.toArray true) κ env st :=
  wc_region_setx rs (tcF l) [e1] x0 (bx S st) plan hm hok hrs hes rfl hobs h hnf
theorem RSx {P : Program} {e : En} {l : List Oper} {κ : Ko} {env : Env} {st : List AO} {id : Nat} (rs : List AV) (es : List Nat) {ι : Type} (x0 : ι) (sts : ι → List Bool → List AO) (plan : List (List Nat × List Nat × List (List Bool))) (hm : P.follows .mixedOrders = true)
    (hok : allOkT l (tcF l) es plan = true) (hrs : Nat.beq rs.length l.length = true) (hes : es.all (fun y => Nat.blt y l.length) = true) (hst : sts x0 (List.replicate es.length false) = st)
    (hobs : ObsX P e l rs env (fun c s => ∃ x,s = sts x c) es 0 l plan) (h : ∀ x,WE P e .normal κ (FL env (fun k => Nat.blt k l.length) (regOf l rs 0)) (sts x (List.replicate es.length true))) (hnf : noDefer l = true:=by kernel_rfl) : WC P e (.region id l.toArray true) κ env st :=
  wc_region_setx rs (tcF l) es x0 sts plan hm hok hrs hes hst hobs h hnf
end Go.Sk
